import PyProof.Rows.All
import Wide.All
import OpenK.AllK
import Wide.FinOn
import HandS.ForMost
import HandS.HeadHook1
import KE.KDictCopyH
import HandS.Defaults
import HandS.TupAny
import HandS.IsInst
import HandS.Wide
import HandS.Style
import HandS.TupLen
import HandS.RevRange
import HandS.Deep
import HandS.RaiseMore
import HandS.Conv
import HandS.More
import HandS.Walk
import HandS.Rev
import HandS.Zip
import HandS.NoneIn
import HandS.SortInts
import KE.KStateDown
import HandS.HeadHook2
import HandS.Head0
import HandS.Head1
import HandS.Head2
import HandS.HeadEnd
import HandS.Words
import KE.GoesMore
import KE.GoesEnum
import HandS.Iter
import HandS.Text
import KE.OsArith
import HandS.TryOnly
import HandS.List
import HandS.Replace
import HandS.Set
import KE.KDictDisplayH
import HandS.Head3
import HandS.HeadHook3
import HandS.SetFor
import HandS.SetKeys
import PyProof.P3In
import PyProof.Rows.InDataRows
import PyProof.ListMulRoad
import PyProof.FactsAll.tuple_2
import HandS.TupMul
import HandS.Dict
import HandS.TupSets
import PyProof.StrBlock2
import PyProof.Rows.StrMul
import HandS.RevTup
import PyProof.ListRange
import PyProof.WalksS
import PyProof.WalkInts
import PyProof.ConsumeS
import HandS.SortKw
import OpenK.KMake
import HandS.Call
import HandS.Codes
import HandS.New0
import PySem.Challenge.RW_dimhouse_k76_driven
set_option Elab.async false
set_option linter.all false
set_option maxRecDepth 100000
set_option maxHeartbeats 0
/-! A denotation layer over the hand layer: data values, a store of cells, and one rule for each construct. -/
namespace Dn
open PySem L2

/-! ### values -/
inductive LK where
  | own | bor | ext
  deriving DecidableEq
inductive DV where
  | non | bl (b : Bool) | int (i : Int) | str (s : Str)
  | tup (xs : List DV)
  | tupx (xs : List DV)
  | lst (k : LK) (xs : List DV)
  | dik (k : LK) (ks : List Key) (vs : List DV)
  | dit (k : LK) (ks : List (List Key)) (vs : List DV)
  | loc (n : Nat)
/-- a cell of the store -/
inductive Cell where
  | lst (xs : List DV)
  | dik (ks : List Key) (vs : List DV)
  | dit (ks : List (List Key)) (vs : List DV)
  | ins (C : Str) (fs : List (Str × DV))
  | frz (d : DV)
  | lok (ks : List Key) (vs : List DV)
  | lokt (ks : List (List Key)) (vs : List DV)
  | dlf (ks : List (Int × Bool)) (vs : List DV)
  | gone
abbrev Sto := List Cell
def Cell.live : Cell → Bool
  | .frz _ => false
  | .lok _ _ => false
  | .lokt _ _ => false
  | .gone => false
  | _ => true
/-- where data lies: frozen objects G, borrowed ones B, the cells' addresses -/
structure Fm where
  K : PySem.W.Frag
  G : Hp
  B : Hp
  /-- protected: it stays, but no data leans on it -/
  P : Hp
  lm : List Addr
def Fm.free (F : Fm) (a : Addr) : Prop := F.B a = none ∧ F.P a = none

mutual
def Rel (F : Fm) : DV → V → Prop
  | .non, v => v = .non
  | .bl b, v => v = .bl b
  | .int i, v => v = .int i
  | .str s, v => v = .str s
  | .tup ds, v => ∃ a xs, v = .ref a ∧ F.G a = some (.tup xs) ∧ RelL F ds xs
  | .tupx ds, v => ∃ a xs, v = .ref a ∧ SqT F.K F.G a xs ∧ RelL F ds xs
  | .lst .own ds, v => ∃ a xs, v = .ref a ∧ F.G a = some (.lst xs) ∧ RelL F ds xs
  | .lst .bor ds, v => ∃ a xs, v = .ref a ∧ (F.B a = some (.lst xs) ∨ F.G a = some (.lst xs)) ∧ RelL F ds xs
  | .lst .ext ds, v => ∃ a xs, v = .ref a ∧ SqL F.K F.G a xs ∧ RelL F ds xs
  | .dik k ks ds, v => ∃ a xs, v = .ref a ∧ ks.length = ds.length ∧ (F.G a = some (.dK (ks.zip xs)) ∨ (k ≠ .own ∧ F.B a = some (.dK (ks.zip xs)))) ∧ RelL F ds xs
  | .dit k ks ds, v => ∃ a xs, v = .ref a ∧ ks.length = ds.length ∧ (F.G a = some (.dT (ks.zip xs)) ∨ (k ≠ .own ∧ F.B a = some (.dT (ks.zip xs)))) ∧ RelL F ds xs
  | .loc n, v => ∃ a, F.lm[n]? = some a ∧ v = .ref a
def RelL (F : Fm) : List DV → List V → Prop
  | [], xs => xs = []
  | d :: ds, xs => ∃ x r, xs = x :: r ∧ Rel F d x ∧ RelL F ds r
end

structure Le (F F' : Fm) : Prop where
  k : F'.K = F.K
  b : F'.B = F.B
  p : F'.P = F.P
  g : Same F.G F'.G
  n : ∀ a o, F'.G a = some o → F.G a = some o ∨ F.free a
  m : F.lm <+: F'.lm
theorem Le.refl (F : Fm) : Le F F := ⟨rfl, rfl, rfl, Same.refl _, fun _ _ h => .inl h, List.prefix_refl _⟩
theorem Le.trans {F F1 F2 : Fm} (a : Le F F1) (b : Le F1 F2) : Le F F2 :=
  ⟨b.k.trans a.k, b.b.trans a.b, b.p.trans a.p, a.g.trans b.g, fun x o h => (b.n x o h).elim (fun h => a.n x o h) fun h => .inr ⟨by rw [← a.b]; exact h.1, by rw [← a.p]; exact h.2⟩, a.m.trans b.m⟩
theorem prefix_get {α : Type} {l l' : List α} (h : l <+: l') {n : Nat} {a : α} (e : l[n]? = some a) : l'[n]? = some a := by
  obtain ⟨t, rfl⟩ := h
  rw [List.getElem?_append_left (List.getElem?_eq_some_iff.mp e).1]
  exact e
theorem sqL_same {K : PySem.W.Frag} {H H' : Hp} {a : Addr} {xs : List V} (e : Same H H') (h : SqL K H a xs) : SqL K H' a xs := e.seq h
theorem sqT_same {K : PySem.W.Frag} {H H' : Hp} {a : Addr} {xs : List V} (e : Same H H') (h : SqT K H a xs) : SqT K H' a xs := by
  rcases h with h | h
  · rcases h with h | ⟨o, h⟩
    · exact .inl (.inl (e _ _ h))
    · exact .inl (.inr ⟨o, e _ _ h⟩)
  · exact .inr h

/-- monotone in all but what is put in and taken out -/
structure Wk (F F' : Fm) : Prop where
  k : F'.K = F.K
  b : Same F.B F'.B
  g : Same F.G F'.G
  m : F.lm <+: F'.lm
theorem Le.wk {F F' : Fm} (h : Le F F') : Wk F F' := ⟨h.k, by rw [h.b]; exact Same.refl _, h.g, h.m⟩
mutual
theorem Rel.wk {F F' : Fm} (w : Wk F F') : ∀ (d : DV) (v : V), Rel F d v → Rel F' d v
  | .non, v, h => h
  | .bl b, v, h => h
  | .int i, v, h => h
  | .str s, v, h => h
  | .tup ds, v, h => by
    obtain ⟨a, xs, e, hs, hl⟩ := h
    exact ⟨a, xs, e, w.g _ _ hs, RelL.wk w ds xs hl⟩
  | .tupx ds, v, h => by
    obtain ⟨a, xs, e, hs, hl⟩ := h
    exact ⟨a, xs, e, by rw [w.k]; exact sqT_same w.g hs, RelL.wk w ds xs hl⟩
  | .lst .own ds, v, h => by
    obtain ⟨a, xs, e, hs, hl⟩ := h
    exact ⟨a, xs, e, w.g _ _ hs, RelL.wk w ds xs hl⟩
  | .lst .bor ds, v, h => by
    obtain ⟨a, xs, e, hs, hl⟩ := h
    exact ⟨a, xs, e, hs.elim (fun h => .inl (w.b _ _ h)) fun h => .inr (w.g _ _ h), RelL.wk w ds xs hl⟩
  | .lst .ext ds, v, h => by
    obtain ⟨a, xs, e, hs, hl⟩ := h
    exact ⟨a, xs, e, by rw [w.k]; exact sqL_same w.g hs, RelL.wk w ds xs hl⟩
  | .dik k ks ds, v, h => by
    obtain ⟨a, xs, e, hn, hs, hl⟩ := h
    exact ⟨a, xs, e, hn, hs.elim (fun h => .inl (w.g _ _ h)) fun h => .inr ⟨h.1, w.b _ _ h.2⟩, RelL.wk w ds xs hl⟩
  | .dit k ks ds, v, h => by
    obtain ⟨a, xs, e, hn, hs, hl⟩ := h
    exact ⟨a, xs, e, hn, hs.elim (fun h => .inl (w.g _ _ h)) fun h => .inr ⟨h.1, w.b _ _ h.2⟩, RelL.wk w ds xs hl⟩
  | .loc n, v, h => by
    obtain ⟨a, e, hv⟩ := h
    exact ⟨a, prefix_get w.m e, hv⟩
theorem RelL.wk {F F' : Fm} (w : Wk F F') : ∀ (ds : List DV) (xs : List V), RelL F ds xs → RelL F' ds xs
  | [], xs, h => h
  | d :: ds, xs, h => by
    obtain ⟨x, r, e, h1, h2⟩ := h
    exact ⟨x, r, e, Rel.wk w d x h1, RelL.wk w ds r h2⟩
end
theorem Rel.le {F F' : Fm} (w : Le F F') {d : DV} {v : V} (h : Rel F d v) : Rel F' d v := Rel.wk w.wk d v h
theorem RelL.le {F F' : Fm} (w : Le F F') {ds : List DV} {vs : List V} (h : RelL F ds vs) : RelL F' ds vs := RelL.wk w.wk ds vs h
theorem RelL.length {F : Fm} : ∀ {ds : List DV} {vs : List V}, RelL F ds vs → ds.length = vs.length
  | [], vs, h => by
    have e : vs = [] := h
    rw [e] <;> rfl
  | d :: ds, vs, h => by
    obtain ⟨x, r, rfl, _, h2⟩ := h
    rw [List.length_cons, List.length_cons, h2.length]
theorem RelL.nil {F : Fm} {vs : List V} (h : RelL F [] vs) : vs = [] := h
theorem RelL.cons {F : Fm} {d : DV} {v : V} {ds : List DV} {vs : List V} (h1 : Rel F d v) (h2 : RelL F ds vs) : RelL F (d :: ds) (v :: vs) := ⟨v, vs, rfl, h1, h2⟩
theorem RelL.get {F : Fm} : ∀ {ds : List DV} {vs : List V} {i : Nat} {d : DV}, RelL F ds vs → ds[i]? = some d → ∃ v, vs[i]? = some v ∧ Rel F d v
  | [], vs, i, d, h, e => by simp at e
  | d0 :: ds, vs, 0, d, h, e => by
    obtain ⟨x, r, rfl, h1, h2⟩ := h
    have e' : d0 = d := by simpa using e
    subst e'
    exact ⟨x, rfl, h1⟩
  | d0 :: ds, vs, i + 1, d, h, e => by
    obtain ⟨x, r, rfl, h1, h2⟩ := h
    obtain ⟨v, e1, e2⟩ := RelL.get (i := i) h2 (by simpa using e)
    exact ⟨v, by simpa using e1, e2⟩
theorem RelL.append {F : Fm} : ∀ {ds es : List DV} {vs us : List V}, RelL F ds vs → RelL F es us → RelL F (ds ++ es) (vs ++ us)
  | [], es, vs, us, h, k => by
    have e : vs = [] := h
    rw [e]
    exact k
  | d :: ds, es, vs, us, h, k => by
    obtain ⟨x, r, rfl, h1, h2⟩ := h
    exact ⟨x, r ++ us, rfl, h1, RelL.append h2 k⟩
theorem RelL.set {F : Fm} {d : DV} {v : V} (r : Rel F d v) : ∀ {ds : List DV} {vs : List V} (i : Nat), RelL F ds vs → RelL F (ds.set i d) (vs.set i v)
  | [], vs, i, h => by
    have e : vs = [] := h
    rw [e]
    exact rfl
  | d0 :: ds, vs, 0, h => by
    obtain ⟨x, r', rfl, h1, h2⟩ := h
    exact ⟨v, r', rfl, r, h2⟩
  | d0 :: ds, vs, i + 1, h => by
    obtain ⟨x, r', rfl, h1, h2⟩ := h
    exact ⟨x, r'.set i v, rfl, h1, RelL.set r i h2⟩
theorem RelL.take {F : Fm} : ∀ {ds : List DV} {vs : List V} (n : Nat), RelL F ds vs → RelL F (ds.take n) (vs.take n)
  | [], vs, n, h => by
    have e : vs = [] := h
    rw [e, List.take_nil, List.take_nil]
    exact rfl
  | d0 :: ds, vs, 0, h => by
    rw [List.take_zero, List.take_zero]
    exact rfl
  | d0 :: ds, vs, n + 1, h => by
    obtain ⟨x, r', rfl, h1, h2⟩ := h
    exact ⟨x, r'.take n, rfl, h1, RelL.take n h2⟩
theorem RelL.drop {F : Fm} : ∀ {ds : List DV} {vs : List V} (n : Nat), RelL F ds vs → RelL F (ds.drop n) (vs.drop n)
  | [], vs, n, h => by
    have e : vs = [] := h
    rw [e, List.drop_nil, List.drop_nil]
    exact rfl
  | d0 :: ds, vs, 0, h => h
  | d0 :: ds, vs, n + 1, h => by
    obtain ⟨x, r', rfl, h1, h2⟩ := h
    exact RelL.drop n h2
/-! ### worlds -/
/-- a key (number, truth) -/
def lfK (k : Int × Bool) : List PySem.Leaf := [.num k.1, .num (if k.2 = true then 1 else 0)]
def lfD (k : Int × Bool) : DV := .tup [.int k.1, .bl k.2]
/-- an entry: the key, where its tuple stands, what is kept -/
abbrev LfE : Type := (Int × Bool) × Addr × V × Value
def LfE.raw (e : LfE) : List PySem.Leaf × Addr × Value := (lfK e.1, e.2.1, e.2.2.2)
def DLf (a : Addr) (xs : List (List PySem.Leaf × Addr × Value)) (h : Heap) : Prop :=
  (a == sysModules) = false ∧ xs.length ≤ sizeLine ∧ (xs.map (·.1)).Nodup ∧
    ∃ o es ep, h.get? a = some o ∧ o.ExactDict ∧ o.data = .dict es ep ∧ ∀ (P : Program) (w : World), es.toList = xs.map (entryOfKey (tupleKind (PySem.leafKind P w)))
def CellOk (F : Fm) (H : Hp) (a : Addr) : Cell → Prop
  | .lst ds => ∃ xs, H a = some (.lst xs) ∧ RelL F ds xs
  | .dik ks ds => ∃ xs, ks.length = ds.length ∧ H a = some (.dK (ks.zip xs)) ∧ RelL F ds xs
  | .dit ks ds => ∃ xs, ks.length = ds.length ∧ H a = some (.dT (ks.zip xs)) ∧ RelL F ds xs
  | .ins C fs => ∃ dx xs, H a = some (.ins (He.ga F.K C) dx ((fs.map (·.1)).zip xs)) ∧ RelL F (fs.map (·.2)) xs
  | .frz d => Rel F d (.ref a)
  | .lok ks ds => ∃ o xs, ks.length = ds.length ∧ F.P a = some (.frz o (.dK (ks.zip xs))) ∧ RelL F ds xs
  | .lokt ks ds => ∃ o xs, ks.length = ds.length ∧ F.P a = some (.frz o (.dT (ks.zip xs))) ∧ RelL F ds xs
  | .dlf ks ds => ∃ es : List LfE, H a = some (.ext (DLf a (es.map LfE.raw))) ∧ es.map (·.1) = ks ∧ RelL F (ks.map lfD) (es.map fun e => V.ref e.2.1) ∧ RelL F ds (es.map (·.2.2.1)) ∧ ∀ e ∈ es, RelV e.2.2.1 e.2.2.2
  | .gone => True
/-- what is locked stays locked -/
def PF (F F' : Fm) : Prop := ∀ a o u, F.P a = some (.frz o u) → F'.P a = some (.frz o u)
theorem Le.pf {F F' : Fm} (h : Le F F') : PF F F' := fun a o u e => by rw [h.p]; exact e
structure Rep (F : Fm) (S : Sto) (H : Hp) : Prop where
  g : Same F.G H
  b : Same F.B H
  p : Same F.P H
  tup : ∀ a xs, H a = some (.tup xs) → F.G a = some (.tup xs)
  len : F.lm.length = S.length
  cell : ∀ (n : Nat) (c : Cell) (a : Addr), S[n]? = some c → F.lm[n]? = some a → CellOk F H a c ∧ (c.live = true → F.G a = none ∧ F.free a)
  inj : ∀ (n m : Nat) (c c' : Cell) (a : Addr), S[n]? = some c → S[m]? = some c' → c.live = true → c'.live = true → F.lm[n]? = some a → F.lm[m]? = some a → n = m

theorem CellOk.wk {F F' : Fm} (w : Wk F F') (pf : PF F F') {H H' : Hp} {a : Addr} : ∀ {c : Cell}, CellOk F H a c → (c.live = true → H' a = H a) → CellOk F' H' a c
  | .lst ds, ⟨xs, e, r⟩, h => ⟨xs, (h rfl).trans e, RelL.wk w _ _ r⟩
  | .dik ks ds, ⟨xs, z, e, r⟩, h => ⟨xs, z, (h rfl).trans e, RelL.wk w _ _ r⟩
  | .dit ks ds, ⟨xs, z, e, r⟩, h => ⟨xs, z, (h rfl).trans e, RelL.wk w _ _ r⟩
  | .ins C fs, ⟨dx, xs, e, r⟩, h => ⟨dx, xs, by rw [w.k]; exact (h rfl).trans e, RelL.wk w _ _ r⟩
  | .frz d, r, _ => Rel.wk w _ _ r
  | .lok ks ds, ⟨o, xs, z, e, r⟩, _ => ⟨o, xs, z, pf _ _ _ e, RelL.wk w _ _ r⟩
  | .lokt ks ds, ⟨o, xs, z, e, r⟩, _ => ⟨o, xs, z, pf _ _ _ e, RelL.wk w _ _ r⟩
  | .dlf ks ds, ⟨es, e, z, r1, r2, t⟩, h => ⟨es, (h rfl).trans e, z, RelL.wk w _ _ r1, RelL.wk w _ _ r2, t⟩
  | .gone, _, _ => trivial
theorem CellOk.some {F : Fm} {H : Hp} {a : Addr} : ∀ {c : Cell}, CellOk F H a c → c.live = true → ∃ o, H a = some o ∧ ∀ xs, o ≠ .tup xs
  | .lst ds, ⟨xs, e, r⟩, _ => ⟨_, e, fun _ q => nomatch q⟩
  | .dik ks ds, ⟨xs, z, e, r⟩, _ => ⟨_, e, fun _ q => nomatch q⟩
  | .dit ks ds, ⟨xs, z, e, r⟩, _ => ⟨_, e, fun _ q => nomatch q⟩
  | .ins C fs, ⟨dx, xs, e, r⟩, _ => ⟨_, e, fun _ q => nomatch q⟩
  | .frz d, r, h => nomatch h
  | .lok _ _, r, h => nomatch h
  | .lokt _ _, r, h => nomatch h
  | .dlf ks ds, ⟨es, e, z, r1, r2, t⟩, _ => ⟨_, e, fun _ q => nomatch q⟩
  | .gone, _, h => nomatch h
theorem Rep.at {F : Fm} {S : Sto} {H : Hp} (R : Rep F S H) {n : Nat} {c : Cell} (h : S[n]? = some c) : ∃ a, F.lm[n]? = some a ∧ CellOk F H a c ∧ (c.live = true → F.G a = none ∧ F.free a) := by
  have h1 := (List.getElem?_eq_some_iff.mp h).1
  have e : F.lm[n]? = some (F.lm[n]'(by rw [R.len]; exact h1)) := List.getElem?_eq_getElem _
  exact ⟨_, e, R.cell n c _ h e⟩
theorem same_new {H : Hp} {p : Addr} {o : HO} (h : H p = none) : Same H (upd H p o) := fun a u e => by
  rw [upd_ne (ne_of_none e h)]
  exact e
theorem same_mono {G H : Hp} (s : Same G H) {p : Addr} {o : HO} (h : G p = none) : Same G (upd H p o) := fun a u e => by
  rw [upd_ne (ne_of_none e h)]
  exact s _ _ e
theorem Same.none {G H : Hp} (s : Same G H) {p : Addr} (h : H p = none) : G p = none := s.free h

/-- a new frozen object -/
abbrev Fm.add (F : Fm) (p : Addr) (o : HO) : Fm := { F with G := upd F.G p o }
theorem Fm.add_le {F : Fm} {p : Addr} {o : HO} (h : F.G p = none) (hb : F.free p) : Le F (F.add p o) :=
  ⟨rfl, rfl, rfl, same_new h, fun a u e => by
    by_cases q : a = p
    · exact .inr (by rw [q]; exact hb)
    · have e2 : upd F.G p o a = some u := e
      rw [upd_ne q] at e2
      exact .inl e2, List.prefix_refl _⟩
theorem Rep.add {F : Fm} {S : Sto} {H : Hp} (R : Rep F S H) {p : Addr} {o : HO} (hp : H p = none) : Rep (F.add p o) S (upd H p o) ∧ Le F (F.add p o) := by
  have gp : F.G p = none := R.g.free hp
  have bp : F.free p := ⟨R.b.free hp, R.p.free hp⟩
  have le := Fm.add_le (F := F) (o := o) gp bp
  refine ⟨⟨fun a u e => ?_, same_mono R.b bp.1, same_mono R.p bp.2, fun a xs e => ?_, R.len, fun n c a h e => ?_, R.inj⟩, le⟩
  · by_cases q : a = p
    · subst q
      have e2 : upd F.G a o a = some u := e
      rw [upd_same] at e2 ⊢
      exact e2
    · have e2 : upd F.G p o a = some u := e
      rw [upd_ne q] at e2 ⊢
      exact R.g _ _ e2
  · show upd F.G p o a = _
    by_cases q : a = p
    · subst q
      rw [upd_same] at e ⊢
      exact e
    · rw [upd_ne q] at e ⊢
      exact R.tup _ _ e
  · obtain ⟨k1, k2⟩ := R.cell n c a h e
    refine ⟨k1.wk le.wk le.pf fun hl => ?_, fun hl => ?_⟩
    · obtain ⟨o', e', _⟩ := k1.some hl
      exact upd_ne (ne_of_none e' hp)
    · obtain ⟨o', e', _⟩ := k1.some hl
      refine ⟨?_, (k2 hl).2⟩
      show upd F.G p o a = none
      rw [upd_ne (ne_of_none e' hp)]
      exact (k2 hl).1
/-- a new object beside all this -/
theorem Rep.beside {F : Fm} {S : Sto} {H : Hp} (R : Rep F S H) {p : Addr} {o : HO} (hp : H p = none) (ht : ∀ xs, o ≠ .tup xs) : Rep F S (upd H p o) := by
  have gp : F.G p = none := R.g.free hp
  have bp : F.B p = none := R.b.free hp
  refine ⟨same_mono R.g gp, same_mono R.b bp, same_mono R.p (R.p.free hp), fun a xs e => ?_, R.len, fun n c a h e => ?_, R.inj⟩
  · by_cases q : a = p
    · subst q
      rw [upd_same] at e
      exact absurd (Option.some.inj e) (ht xs)
    · rw [upd_ne q] at e
      exact R.tup _ _ e
  · obtain ⟨k1, k2⟩ := R.cell n c a h e
    refine ⟨k1.wk (Le.refl F).wk (Le.refl F).pf fun hl => ?_, k2⟩
    obtain ⟨o', e', _⟩ := k1.some hl
    exact upd_ne (ne_of_none e' hp)
/-- a new cell for an object that is beside all this -/
abbrev Fm.cell (F : Fm) (p : Addr) : Fm := { F with lm := F.lm ++ [p] }
theorem Fm.cell_le (F : Fm) (p : Addr) : Le F (F.cell p) := ⟨rfl, rfl, rfl, Same.refl _, fun _ _ h => .inl h, List.prefix_append _ _⟩
theorem get_snoc {α : Type} {l : List α} {x y : α} {n : Nat} (h : (l ++ [x])[n]? = some y) : l[n]? = some y ∨ (n = l.length ∧ y = x) := by
  by_cases q : n < l.length
  · rw [List.getElem?_append_left q] at h
    exact .inl h
  · rw [List.getElem?_append_right (by omega)] at h
    by_cases q2 : n - l.length = 0
    · rw [q2] at h
      exact .inr ⟨by omega, (Option.some.inj h).symm⟩
    · rw [List.getElem?_eq_none (by simp; omega)] at h
      cases h
theorem Rep.cell_new {F : Fm} {S : Sto} {H : Hp} (R : Rep F S H) {p : Addr} {c : Cell} (hc : CellOk (F.cell p) H p c) (gp : F.G p = none) (bp : F.free p)
    (hn : ∀ (n : Nat) (c : Cell), S[n]? = some c → c.live = true → F.lm[n]? ≠ some p) : Rep (F.cell p) (S ++ [c]) H := by
  refine ⟨R.g, R.b, R.p, R.tup, by simp [R.len], fun n c' a h e => ?_, fun n m c1 c2 a h1 h2 l1 l2 e1 e2 => ?_⟩
  · rcases get_snoc h with h | ⟨hn2, hh⟩
    · have hlt := (List.getElem?_eq_some_iff.mp h).1
      have e' : F.lm[n]? = some a := by
        have e0 : (F.lm ++ [p])[n]? = some a := e
        rw [List.getElem?_append_left (by rw [R.len]; exact hlt)] at e0
        exact e0
      obtain ⟨k1, k2⟩ := R.cell n c' a h e'
      exact ⟨k1.wk (F.cell_le p).wk (F.cell_le p).pf fun _ => rfl, k2⟩
    · subst hh
      have e0 : (F.lm ++ [p])[n]? = some a := e
      rw [hn2, ← R.len] at e0
      simp at e0
      subst e0
      exact ⟨hc, fun _ => ⟨gp, bp⟩⟩
  · have r1 : ∀ {n : Nat} {c : Cell}, (S ++ [c])[n]? = some c → True := fun _ => trivial
    have e1' : (F.lm ++ [p])[n]? = some a := e1
    have e2' : (F.lm ++ [p])[m]? = some a := e2
    have old : ∀ {n : Nat} {c' : Cell}, S[n]? = some c' → (F.lm ++ [p])[n]? = some a → F.lm[n]? = some a := fun {n c'} h e0 => by
      rw [List.getElem?_append_left (by rw [R.len]; exact (List.getElem?_eq_some_iff.mp h).1)] at e0
      exact e0
    have new : ∀ {n : Nat}, n = S.length → (F.lm ++ [p])[n]? = some a → a = p := fun {n} h e0 => by
      rw [h, ← R.len] at e0
      simp at e0
      exact e0.symm
    rcases get_snoc h1 with h1 | ⟨h1, hh1⟩
    · rcases get_snoc h2 with h2 | ⟨h2, hh2⟩
      · exact R.inj n m c1 c2 a h1 h2 l1 l2 (old h1 e1') (old h2 e2')
      · have := new h2 e2'
        subst this
        exact absurd (old h1 e1') (hn n c1 h1 l1)
    · rcases get_snoc h2 with h2 | ⟨h2, hh2⟩
      · have := new h1 e1'
        subst this
        exact absurd (old h2 e2') (hn m c2 h2 l2)
      · rw [h1, h2]
theorem Rep.noCell {F : Fm} {S : Sto} {H : Hp} (R : Rep F S H) {p : Addr} (hp : H p = none) : ∀ (n : Nat) (c : Cell), S[n]? = some c → c.live = true → F.lm[n]? ≠ some p := fun n c h l e => by
  obtain ⟨k1, _⟩ := R.cell n c p h e
  obtain ⟨o, e', _⟩ := k1.some l
  rw [hp] at e'
  cases e'
theorem Rep.alloc {F : Fm} {S : Sto} {H : Hp} (R : Rep F S H) {p : Addr} {o : HO} {c : Cell} (hp : H p = none) (ht : ∀ xs, o ≠ .tup xs) (hc : CellOk (F.cell p) (upd H p o) p c) : Rep (F.cell p) (S ++ [c]) (upd H p o) :=
  (R.beside hp ht).cell_new hc (R.g.free hp) ⟨R.b.free hp, R.p.free hp⟩ (R.noCell hp)
/-- a live cell is written -/
theorem Rep.write {F : Fm} {S : Sto} {H : Hp} (R : Rep F S H) {n : Nat} {c c' : Cell} {a : Addr} {o : HO} (h : S[n]? = some c) (l : c.live = true) (e : F.lm[n]? = some a) (ht : ∀ xs, o ≠ .tup xs) (l' : c'.live = true)
    (hc : CellOk F (upd H a o) a c') : Rep F (S.set n c') (upd H a o) := by
  obtain ⟨k1, k2⟩ := R.cell n c a h e
  obtain ⟨ga, ba⟩ := k2 l
  obtain ⟨o0, e0, t0⟩ := k1.some l
  have hlt := (List.getElem?_eq_some_iff.mp h).1
  refine ⟨same_mono R.g ga, same_mono R.b ba.1, same_mono R.p ba.2, fun b xs q => ?_, by simp [R.len], fun m cm b hm em => ?_, fun m1 m2 c1 c2 b h1 h2 l1 l2 e1 e2 => ?_⟩
  · by_cases z : b = a
    · subst z
      rw [upd_same] at q
      exact absurd (Option.some.inj q) (ht xs)
    · rw [upd_ne z] at q
      exact R.tup _ _ q
  · by_cases z : m = n
    · subst z
      rw [List.getElem?_set_self hlt] at hm
      cases hm
      rw [e] at em
      cases em
      exact ⟨hc, fun _ => ⟨ga, ba⟩⟩
    · rw [List.getElem?_set_ne (fun q => z q.symm)] at hm
      obtain ⟨j1, j2⟩ := R.cell m cm b hm em
      refine ⟨j1.wk (Le.refl F).wk (Le.refl F).pf fun lm => ?_, j2⟩
      refine upd_ne fun q => ?_
      subst q
      exact z (R.inj m n cm c b hm h lm l em e)
  · have old : ∀ {m : Nat} {cm : Cell}, (S.set n c')[m]? = some cm → cm.live = true → ∃ cm', S[m]? = some cm' ∧ cm'.live = true := fun {m cm} hm lm => by
      by_cases z : m = n
      · subst z
        exact ⟨c, h, l⟩
      · rw [List.getElem?_set_ne (fun q => z q.symm)] at hm
        exact ⟨cm, hm, lm⟩
    obtain ⟨d1, x1, y1⟩ := old h1 l1
    obtain ⟨d2, x2, y2⟩ := old h2 l2
    exact R.inj m1 m2 d1 d2 b x1 x2 y1 y2 e1 e2
/-- a cell that dies -/
theorem Rep.kill {F : Fm} {S : Sto} {H : Hp} (R : Rep F S H) {n : Nat} {c' : Cell} (l' : c'.live = false) (hc : ∀ a, F.lm[n]? = some a → CellOk F H a c') : Rep F (S.set n c') H := by
  refine ⟨R.g, R.b, R.p, R.tup, by simp [R.len], fun m cm b hm em => ?_, fun m1 m2 c1 c2 b h1 h2 l1 l2 e1 e2 => ?_⟩
  · by_cases z : m = n
    · subst z
      have hlt := (List.getElem?_eq_some_iff.mp hm).1
      rw [List.length_set] at hlt
      rw [List.getElem?_set_self hlt] at hm
      cases hm
      exact ⟨hc b em, fun q => by rw [l'] at q; cases q⟩
    · rw [List.getElem?_set_ne (fun q => z q.symm)] at hm
      exact R.cell m cm b hm em
  · have old : ∀ {m : Nat} {cm : Cell}, (S.set n c')[m]? = some cm → cm.live = true → S[m]? = some cm := fun {m cm} hm lm => by
      by_cases z : m = n
      · subst z
        have hlt := (List.getElem?_eq_some_iff.mp hm).1
        rw [List.length_set] at hlt
        rw [List.getElem?_set_self hlt] at hm
        cases hm
        rw [l'] at lm
        cases lm
      · rw [List.getElem?_set_ne (fun q => z q.symm)] at hm
        exact hm
    exact R.inj m1 m2 c1 c2 b (old h1 l1) (old h2 l2) l1 l2 e1 e2
end Dn

namespace Dn
open PySem L2

/-! ### readings by denotations -/
abbrev Ev := List (Option DV)
abbrev DE := Ev → Sto → Option (DV × Sto)
abbrev DA := Ev → Sto → Option (List DV × Sto)
abbrev DG := DV → Ev → Sto → Option (Ev × Sto)
inductive Out where
  | nx (ρ : Ev) (S : Sto)
  | rt (d : DV) (S : Sto)
  | bk (ρ : Ev) (S : Sto)
  | ct (ρ : Ev) (S : Sto)
def Out.S : Out → Sto
  | .nx _ S => S
  | .rt _ S => S
  | .bk _ S => S
  | .ct _ S => S
abbrev DS := Ev → Sto → Option Out
structure RelE (F : Fm) (ρ : Ev) (σ : St) : Prop where
  len : ρ.length = σ.length
  at_ : ∀ (i : Nat) (d : DV), ρ[i]? = some (some d) → ∃ v, σ[i]? = some (some v) ∧ Rel F d v
theorem RelE.wk {F F' : Fm} (w : Wk F F') {ρ : Ev} {σ : St} (r : RelE F ρ σ) : RelE F' ρ σ := ⟨r.len, fun i d e => by
  obtain ⟨v, h1, h2⟩ := r.at_ i d e
  exact ⟨v, h1, Rel.wk w _ _ h2⟩⟩
theorem RelE.le {F F' : Fm} (w : Le F F') {ρ : Ev} {σ : St} (r : RelE F ρ σ) : RelE F' ρ σ := r.wk w.wk
theorem RelE.set {F : Fm} {ρ : Ev} {σ : St} (r : RelE F ρ σ) (i : Nat) {d : DV} {v : V} (h : Rel F d v) : RelE F (ρ.set i (some d)) (σ.set i (some v)) := by
  refine ⟨by simp [r.len], fun j e hj => ?_⟩
  by_cases q : j = i
  · subst q
    have hlt := (List.getElem?_eq_some_iff.mp hj).1
    rw [List.length_set] at hlt
    rw [List.getElem?_set_self hlt] at hj
    cases hj
    exact ⟨v, List.getElem?_set_self (by rw [← r.len]; exact hlt), h⟩
  · rw [List.getElem?_set_ne (fun z => q z.symm)] at hj
    rw [List.getElem?_set_ne (fun z => q z.symm)]
    exact r.at_ j e hj
def PostE (F : Fm) (S : Sto) (d : DV) (Q : VK) : Prop := ∀ F' H' v, Le F F' → Rep F' S H' → Rel F' d v → Q v H'
def PostT (F : Fm) (S : Sto) (b : Bool) (Q : Bool → Hp → Prop) : Prop := ∀ F' H', Le F F' → Rep F' S H' → Q b H'
def PostA (F : Fm) (S : Sto) (ds : List DV) (Q : List V → Hp → Prop) : Prop := ∀ F' H' vs, Le F F' → Rep F' S H' → RelL F' ds vs → Q vs H'
def PostO (F : Fm) (D : Ends) (H : Hp) : Out → Prop
  | .nx ρ _ => ∀ σ, RelE F ρ σ → D.nx σ H
  | .rt d _ => ∀ v, Rel F d v → D.rt v H
  | .bk ρ _ => ∀ σ, RelE F ρ σ → D.bk σ H
  | .ct ρ _ => ∀ σ, RelE F ρ σ → D.ct σ H
def PostS (F : Fm) (o : Out) (D : Ends) : Prop := ∀ F' H', Le F F' → Rep F' o.S H' → PostO F' D H' o
theorem PostE.le {F F' : Fm} {S : Sto} {d : DV} {Q : VK} (h : PostE F S d Q) (w : Le F F') : PostE F' S d Q := fun F2 H2 v w2 => h F2 H2 v (w.trans w2)
theorem PostS.le {F F' : Fm} {o : Out} {D : Ends} (h : PostS F o D) (w : Le F F') : PostS F' o D := fun F2 H2 w2 => h F2 H2 (w.trans w2)
def rdE (K : PySem.W.Frag) (f : DE) : TE := fun σ H Q => ∃ F S ρ d S', F.K = K ∧ Rep F S H ∧ RelE F ρ σ ∧ f ρ S = some (d, S') ∧ PostE F S' d Q
def rdT (K : PySem.W.Frag) (f : DE) : TT := fun σ H Q => ∃ F S ρ b S', F.K = K ∧ Rep F S H ∧ RelE F ρ σ ∧ f ρ S = some (.bl b, S') ∧ PostT F S' b Q
def rdA (K : PySem.W.Frag) (f : DA) : TA := fun σ H Q => ∃ F S ρ ds S', F.K = K ∧ Rep F S H ∧ RelE F ρ σ ∧ f ρ S = some (ds, S') ∧ PostA F S' ds Q
def rdS (K : PySem.W.Frag) (f : DS) : TS := fun D σ H => ∃ F S ρ o, F.K = K ∧ Rep F S H ∧ RelE F ρ σ ∧ f ρ S = some o ∧ PostS F o D
def rdG (K : PySem.W.Frag) (g : DG) : TG := fun v σ H Q => ∃ F S ρ d ρ' S', F.K = K ∧ Rep F S H ∧ RelE F ρ σ ∧ Rel F d v ∧ g d ρ S = some (ρ', S') ∧ ∀ F' H' σ', Le F F' → Rep F' S' H' → RelE F' ρ' σ' → Q σ' H'
structure ED (X : Cx) (e : Expr) (f : DE) : Prop where
  pe : PE X e (rdE X.K f)
structure TD (X : Cx) (e : Expr) (f : DE) : Prop where
  pt : PT X e (rdT X.K f)
structure TDW (X : Cx) (e : Expr) (f : DE) : Prop where
  pw : PW X e (rdT X.K f)
structure AD (X : Cx) (es : List Expr) (f : DA) : Prop where
  pa : PA X es (rdA X.K f)
structure SD (X : Cx) (st : Stmt) (f : DS) : Prop where
  ps : PS X st (rdS X.K f)
structure SDs (X : Cx) (st : List Stmt) (f : DS) : Prop where
  ps : PSs X st (rdS X.K f)
structure GD (X : Cx) (e : Expr) (g : DG) : Prop where
  pg : PG X e (rdG X.K g)
section
variable {X : Cx} {e : Expr}
theorem ED.of {t : TE} {f : DE} (h : PE X e t) (m : ∀ F S H ρ σ d S' Q, F.K = X.K → Rep F S H → RelE F ρ σ → f ρ S = some (d, S') → PostE F S' d Q → t σ H Q) : ED X e f :=
  ⟨⟨fun pins s σ H Q I ⟨F, S, ρ, d, S', hk, R, r, hf, hq⟩ => h.run pins s σ H Q I (m F S H ρ σ d S' Q hk R r hf hq)⟩⟩
theorem TD.of {t : TT} {f : DE} (h : PT X e t) (m : ∀ F S H ρ σ b S' Q, F.K = X.K → Rep F S H → RelE F ρ σ → f ρ S = some (.bl b, S') → PostT F S' b Q → t σ H Q) : TD X e f :=
  ⟨⟨fun pins s σ H Q I ⟨F, S, ρ, d, S', hk, R, r, hf, hq⟩ => h.run pins s σ H Q I (m F S H ρ σ d S' Q hk R r hf hq)⟩⟩
theorem TDW.of {t : TT} {f : DE} (h : PW X e t) (m : ∀ F S H ρ σ b S' Q, F.K = X.K → Rep F S H → RelE F ρ σ → f ρ S = some (.bl b, S') → PostT F S' b Q → t σ H Q) : TDW X e f :=
  ⟨⟨fun whole pins s σ H Q I ⟨F, S, ρ, d, S', hk, R, r, hf, hq⟩ => h.run whole pins s σ H Q I (m F S H ρ σ d S' Q hk R r hf hq)⟩⟩
theorem AD.of {es : List Expr} {t : TA} {f : DA} (h : PA X es t) (m : ∀ F S H ρ σ d S' Q, F.K = X.K → Rep F S H → RelE F ρ σ → f ρ S = some (d, S') → PostA F S' d Q → t σ H Q) : AD X es f :=
  ⟨⟨fun pos pins s σ H Q I ⟨F, S, ρ, d, S', hk, R, r, hf, hq⟩ => h.run pos pins s σ H Q I (m F S H ρ σ d S' Q hk R r hf hq)⟩⟩
theorem SD.of {st : Stmt} {t : TS} {f : DS} (h : PS X st t) (m : ∀ F S H ρ σ o D, F.K = X.K → Rep F S H → RelE F ρ σ → f ρ S = some o → PostS F o D → t D σ H) : SD X st f :=
  ⟨⟨fun pins s σ H D I ⟨F, S, ρ, o, hk, R, r, hf, hq⟩ => h.run pins s σ H D I (m F S H ρ σ o D hk R r hf hq)⟩⟩
theorem SDs.of {st : List Stmt} {t : TS} {f : DS} (h : PSs X st t) (m : ∀ F S H ρ σ o D, F.K = X.K → Rep F S H → RelE F ρ σ → f ρ S = some o → PostS F o D → t D σ H) : SDs X st f :=
  ⟨⟨fun pins s σ H D I ⟨F, S, ρ, o, hk, R, r, hf, hq⟩ => h.run pins s σ H D I (m F S H ρ σ o D hk R r hf hq)⟩⟩
theorem GD.of {t : TG} {g : DG} (h : PG X e t) (m : ∀ F S H ρ σ d v ρ' S' Q, F.K = X.K → Rep F S H → RelE F ρ σ → Rel F d v → g d ρ S = some (ρ', S') → (∀ F' H' σ', Le F F' → Rep F' S' H' → RelE F' ρ' σ' → Q σ' H') → t v σ H Q) : GD X e g :=
  ⟨⟨fun pins s σ H v u Q I rv ⟨F, S, ρ, d, ρ', S', hk, R, r, rd, hf, hq⟩ => h.run pins s σ H v u Q I rv (m F S H ρ σ d v ρ' S' Q hk R r rd hf hq)⟩⟩
end
section
variable {K : PySem.W.Frag} {F : Fm} {S S' S1 : Sto} {H : Hp} {ρ : Ev} {σ : St} {d : DV} {Q : VK}
/-- a part is run: what is behind it -/
theorem rdE.go {f : DE} (hk : F.K = K) (R : Rep F S H) (r : RelE F ρ σ) (hf : f ρ S = some (d, S1)) (k : ∀ F' H' v, Le F F' → F'.K = K → Rep F' S1 H' → RelE F' ρ σ → Rel F' d v → Q v H') : rdE K f σ H Q :=
  ⟨F, S, ρ, d, S1, hk, R, r, hf, fun F' H' v le R' r' => k F' H' v le (le.k.trans hk) R' (r.le le) r'⟩
theorem rdT.go {f : DE} {b : Bool} {Q : Bool → Hp → Prop} (hk : F.K = K) (R : Rep F S H) (r : RelE F ρ σ) (hf : f ρ S = some (.bl b, S1)) (k : ∀ F' H', Le F F' → F'.K = K → Rep F' S1 H' → RelE F' ρ σ → Q b H') : rdT K f σ H Q :=
  ⟨F, S, ρ, b, S1, hk, R, r, hf, fun F' H' le R' => k F' H' le (le.k.trans hk) R' (r.le le)⟩
theorem rdA.go {f : DA} {ds : List DV} {Q : List V → Hp → Prop} (hk : F.K = K) (R : Rep F S H) (r : RelE F ρ σ) (hf : f ρ S = some (ds, S1)) (k : ∀ F' H' vs, Le F F' → F'.K = K → Rep F' S1 H' → RelE F' ρ σ → RelL F' ds vs → Q vs H') : rdA K f σ H Q :=
  ⟨F, S, ρ, ds, S1, hk, R, r, hf, fun F' H' v le R' r' => k F' H' v le (le.k.trans hk) R' (r.le le) r'⟩
end

/-! ### names, constants -/
section
variable {X : Cx} {e a b : Expr} {pos : Pos}
def dVar (i : Nat) : DE := fun ρ S => match ρ[i]? with
  | some (some d) => some (d, S)
  | _ => none
theorem dVar_some {i : Nat} {ρ : Ev} {S : Sto} {d : DV} {S' : Sto} (h : dVar i ρ S = some (d, S')) : ρ[i]? = some (some d) ∧ S' = S := by
  unfold dVar at h
  split at h
  · rename_i d' e
    cases h
    exact ⟨e, rfl⟩
  · cases h
theorem ed_var {i : Nat} (h : PE X e (tVar i)) : ED X e (dVar i) := .of h fun F S H ρ σ d S' Q hk R r hf hq => by
  obtain ⟨h1, rfl⟩ := dVar_some hf
  obtain ⟨v, e1, e2⟩ := r.at_ i d h1
  exact ⟨v, e1, hq F H v (.refl F) R e2⟩
def dC (d : DV) : DE := fun _ S => some (d, S)
theorem ed_c {d : DV} {v : V} (h : PE X e (tC v)) (hr : ∀ F : Fm, Rel F d v) : ED X e (dC d) := .of h fun F S H ρ σ d' S' Q hk R r hf hq => by
  have e : some (d, S) = some (d', S') := hf
  cases e
  exact hq F H v (.refl F) R (hr F)
theorem ed_int {i : Int} {j : Nat} : ED X (.Constant (.int i) j pos) (dC (.int i)) := ed_c pe_int fun _ => rfl
theorem ed_bl {i : Bool} {j : Nat} : ED X (.Constant (.bool i) j pos) (dC (.bl i)) := ed_c pe_bl fun _ => rfl
theorem ed_non {j : Nat} : ED X (.Constant .none j pos) (dC .non) := ed_c pe_non fun _ => rfl
theorem ed_str {i : Str} {j : Nat} : ED X (.Constant (.str i) j pos) (dC (.str i)) := ed_c pe_str fun _ => rfl

/-! ### operators -/
abbrev P1 := DV → Sto → Option (DV × Sto)
abbrev P2 := DV → DV → Sto → Option (DV × Sto)
abbrev PL := List DV → Sto → Option (DV × Sto)
def dUn (p : P1) (f : DE) : DE := fun ρ S => match f ρ S with
  | some (x, S1) => p x S1
  | none => none
def dBin (p : P2) (f g : DE) : DE := fun ρ S => match f ρ S with
  | some (x, S1) => (match g ρ S1 with
    | some (y, S2) => p x y S2
    | none => none)
  | none => none
def Ok1 (K : PySem.W.Frag) (p : P1) (r : V → Hp → VK → Prop) : Prop := ∀ F S H x vx d S' Q, F.K = K → Rep F S H → Rel F x vx → p x S = some (d, S') → PostE F S' d Q → r vx H Q
def Ok2 (K : PySem.W.Frag) (p : P2) (r : R2) : Prop := ∀ F S H x y vx vy d S' Q, F.K = K → Rep F S H → Rel F x vx → Rel F y vy → p x y S = some (d, S') → PostE F S' d Q → r vx vy H Q
def OkL (K : PySem.W.Frag) (p : PL) (r : List V → Hp → VK → Prop) : Prop := ∀ F S H xs vs d S' Q, F.K = K → Rep F S H → RelL F xs vs → p xs S = some (d, S') → PostE F S' d Q → r vs H Q
theorem dUn_some {p : P1} {f : DE} {ρ : Ev} {S : Sto} {z : DV × Sto} (h : dUn p f ρ S = some z) : ∃ x S1, f ρ S = some (x, S1) ∧ p x S1 = some z := by
  unfold dUn at h
  split at h
  · exact ⟨_, _, by assumption, h⟩
  · cases h
theorem dBin_some {p : P2} {f g : DE} {ρ : Ev} {S : Sto} {z : DV × Sto} (h : dBin p f g ρ S = some z) : ∃ x S1 y S2, f ρ S = some (x, S1) ∧ g ρ S1 = some (y, S2) ∧ p x y S2 = some z := by
  unfold dBin at h
  split at h
  · split at h
    · exact ⟨_, _, _, _, by assumption, by assumption, h⟩
    · cases h
  · cases h
theorem un_go {p : P1} {f : DE} {r : V → Hp → VK → Prop} (hp : Ok1 X.K p r) {F : Fm} {S S' : Sto} {H : Hp} {ρ : Ev} {σ : St} {d : DV} {Q : VK} (hk : F.K = X.K) (R : Rep F S H) (rr : RelE F ρ σ) (hf : dUn p f ρ S = some (d, S')) (hq : PostE F S' d Q) : tUn r (rdE X.K f) σ H Q := by
  obtain ⟨x, S1, h1, h2⟩ := dUn_some hf
  exact rdE.go hk R rr h1 fun F1 H1 v le hk1 R1 r1 rx => hp F1 S1 H1 x v d S' Q hk1 R1 rx h2 (hq.le le)
theorem bin_go {p : P2} {f g : DE} {r : R2} (hp : Ok2 X.K p r) {F : Fm} {S S' : Sto} {H : Hp} {ρ : Ev} {σ : St} {d : DV} {Q : VK} (hk : F.K = X.K) (R : Rep F S H) (rr : RelE F ρ σ) (hf : dBin p f g ρ S = some (d, S')) (hq : PostE F S' d Q) : tOp r (rdE X.K f) (rdE X.K g) σ H Q := by
  obtain ⟨x, S1, y, S2, h1, h2, h3⟩ := dBin_some hf
  exact rdE.go hk R rr h1 fun F1 H1 v le hk1 R1 r1 rx => rdE.go hk1 R1 r1 h2 fun F2 H2 u le2 hk2 R2 r2 ry => hp F2 S2 H2 x y v u d S' Q hk2 R2 (rx.le le2) ry h3 (hq.le (le.trans le2))
theorem ed_bin {op : Operator} {r : R2} {p : P2} {f g : DE} (ho : OpR X (binaryOp op) r) (hp : Ok2 X.K p r) (ha : ED X a f) (hb : ED X b g) : ED X (.BinOp a op b pos) (dBin p f g) :=
  .of (pe_op ho ha.pe hb.pe) fun F S H ρ σ d S' Q hk R rr hf hq => bin_go hp hk R rr hf hq
theorem ed_un {op : UnaryOp} {r : V → Hp → VK → Prop} {p : P1} {f : DE} (ho : UnR X (unaryOp op) r) (hp : Ok1 X.K p r) (ha : ED X a f) : ED X (.UnaryOp op a pos) (dUn p f) :=
  .of (pe_un ho ha.pe) fun F S H ρ σ d S' Q hk R rr hf hq => un_go hp hk R rr hf hq
theorem ed_cmp {op : CmpOp} {r : R2} {p : P2} {f g : DE} (ho : OpR X (compareOp op) r) (hp : Ok2 X.K p r) (ha : ED X a f) (hb : ED X b g) (hm : behindInMarks op b = false) : ED X (.Compare a [op] [b] pos) (dBin p f g) :=
  .of (pe_cmpR ho ha.pe hb.pe hm) fun F S H ρ σ d S' Q hk R rr hf hq => bin_go hp hk R rr hf hq
theorem td_cmp {op : CmpOp} {r : R2} {p : P2} {f g : DE} (ho : OpR X (compareOp op) r) (hp : Ok2 X.K p r) (ha : ED X a f) (hb : ED X b g) (hm : behindInMarks op b = false) : TD X (.Compare a [op] [b] pos) (dBin p f g) :=
  .of (pt_cmpR ho ha.pe hb.pe hm) fun F S H ρ σ d S' Q hk R rr hf hq => bin_go hp hk R rr hf fun F' H' v le R' rv => by
    have e : v = .bl d := rv
    exact ⟨d, e, hq F' H' le R'⟩
/-- a < b < c, b asked once -/
def dChain (p q : P2) (f g h : DE) : DE := fun ρ S => match f ρ S with
  | some (x, S1) => (match g ρ S1 with
    | some (y, S2) => (match p x y S2 with
      | some (.bl true, S3) => (match h ρ S3 with
        | some (z, S4) => q y z S4
        | none => none)
      | some (.bl false, S3) => some (.bl false, S3)
      | _ => none)
    | none => none)
  | none => none

/-! ### and, or, not, if else -/
def dAnd (f g : DE) : DE := fun ρ S => match f ρ S with
  | some (.bl true, S1) => g ρ S1
  | some (.bl false, S1) => some (.bl false, S1)
  | _ => none
def dOr (f g : DE) : DE := fun ρ S => match f ρ S with
  | some (.bl true, S1) => some (.bl true, S1)
  | some (.bl false, S1) => g ρ S1
  | _ => none
def dNot (f : DE) : DE := fun ρ S => match f ρ S with
  | some (.bl c, S1) => some (.bl (!c), S1)
  | _ => none
def dIf (c f g : DE) : DE := fun ρ S => match c ρ S with
  | some (.bl true, S1) => f ρ S1
  | some (.bl false, S1) => g ρ S1
  | _ => none
theorem dAnd_some {f g : DE} {ρ : Ev} {S : Sto} {z : DV × Sto} (h : dAnd f g ρ S = some z) : (∃ S1, f ρ S = some (.bl true, S1) ∧ g ρ S1 = some z) ∨ (∃ S1, f ρ S = some (.bl false, S1) ∧ z = (.bl false, S1)) := by
  unfold dAnd at h
  split at h
  · exact .inl ⟨_, by assumption, h⟩
  · exact .inr ⟨_, by assumption, (Option.some.inj h).symm⟩
  · cases h
theorem dOr_some {f g : DE} {ρ : Ev} {S : Sto} {z : DV × Sto} (h : dOr f g ρ S = some z) : (∃ S1, f ρ S = some (.bl true, S1) ∧ z = (.bl true, S1)) ∨ (∃ S1, f ρ S = some (.bl false, S1) ∧ g ρ S1 = some z) := by
  unfold dOr at h
  split at h
  · exact .inl ⟨_, by assumption, (Option.some.inj h).symm⟩
  · exact .inr ⟨_, by assumption, h⟩
  · cases h
theorem dNot_some {f : DE} {ρ : Ev} {S : Sto} {z : DV × Sto} (h : dNot f ρ S = some z) : ∃ c S1, f ρ S = some (.bl c, S1) ∧ z = (.bl (!c), S1) := by
  unfold dNot at h
  split at h
  · exact ⟨_, _, by assumption, (Option.some.inj h).symm⟩
  · cases h
variable {rest : List Expr} {f g : DE}
theorem td_val (h : ED X e f) (he : ∀ whole, isTrue e X.env whole = (do let v ← whole; standAt e.pos; holding [v] (truthy v)) := by intro _; rfl) : TD X e f :=
  .of (pt_val h.pe he) fun F S H ρ σ b S' Q hk R rr hf hq => rdE.go hk R rr hf fun F' H' v le _ R' _ rv => by
    have e : v = .bl b := rv
    exact ⟨b, e, hq F' H' le R'⟩
theorem TDW.td (h : TDW X e f) : TD X e f := ⟨h.pw.pt⟩
theorem tw_and1 (h : TD X a f) : TDW X (.BoolOp .And [a] pos) f := ⟨pw_and1 h.pt⟩
theorem tw_or1 (h : TD X a f) : TDW X (.BoolOp .Or [a] pos) f := ⟨pw_or1 h.pt⟩
theorem and_go {F : Fm} {S S' : Sto} {H : Hp} {ρ : Ev} {σ : St} {c : Bool} {Q : Bool → Hp → Prop} (hk : F.K = X.K) (R : Rep F S H) (rr : RelE F ρ σ) (hf : dAnd f g ρ S = some (.bl c, S')) (hq : PostT F S' c Q) : tAnd (rdT X.K f) (rdT X.K g) σ H Q := by
  rcases dAnd_some hf with ⟨S1, h1, h2⟩ | ⟨S1, h1, h2⟩
  · refine rdT.go hk R rr h1 fun F1 H1 le hk1 R1 r1 => ?_
    rw [if_pos rfl]
    exact rdT.go hk1 R1 r1 h2 fun F2 H2 le2 hk2 R2 _ => hq F2 H2 (le.trans le2) R2
  · cases h2
    refine rdT.go hk R rr h1 fun F1 H1 le hk1 R1 r1 => ?_
    rw [if_neg Bool.false_ne_true]
    exact hq F1 H1 le R1
theorem or_go {F : Fm} {S S' : Sto} {H : Hp} {ρ : Ev} {σ : St} {c : Bool} {Q : Bool → Hp → Prop} (hk : F.K = X.K) (R : Rep F S H) (rr : RelE F ρ σ) (hf : dOr f g ρ S = some (.bl c, S')) (hq : PostT F S' c Q) : tOr (rdT X.K f) (rdT X.K g) σ H Q := by
  rcases dOr_some hf with ⟨S1, h1, h2⟩ | ⟨S1, h1, h2⟩
  · cases h2
    refine rdT.go hk R rr h1 fun F1 H1 le hk1 R1 r1 => ?_
    rw [if_pos rfl]
    exact hq F1 H1 le R1
  · refine rdT.go hk R rr h1 fun F1 H1 le hk1 R1 r1 => ?_
    rw [if_neg Bool.false_ne_true]
    exact rdT.go hk1 R1 r1 h2 fun F2 H2 le2 hk2 R2 _ => hq F2 H2 (le.trans le2) R2
theorem tw_and (ha : TD X a f) (hb : TDW X (.BoolOp .And (b :: rest) pos) g) : TDW X (.BoolOp .And (a :: b :: rest) pos) (dAnd f g) :=
  .of (pw_and ha.pt hb.pw) fun F S H ρ σ c S' Q hk R rr hf hq => and_go hk R rr hf hq
theorem tw_or (ha : TD X a f) (hb : TDW X (.BoolOp .Or (b :: rest) pos) g) : TDW X (.BoolOp .Or (a :: b :: rest) pos) (dOr f g) :=
  .of (pw_or ha.pt hb.pw) fun F S H ρ σ c S' Q hk R rr hf hq => or_go hk R rr hf hq
theorem td_not (ha : TD X a f) : TD X (.UnaryOp .Not a pos) (dNot f) :=
  .of (pt_not ha.pt) fun F S H ρ σ c S' Q hk R rr hf hq => by
    obtain ⟨c', S1, h1, h2⟩ := dNot_some hf
    cases h2
    exact rdT.go hk R rr h1 fun F1 H1 le hk1 R1 r1 => hq F1 H1 le R1
theorem ed_one {op : BoolOp} (h : ED X a f) : ED X (.BoolOp op [a] pos) f := ⟨pe_one h.pe⟩
theorem ed_and (ha : ED X a f) (hb : ED X (.BoolOp .And (b :: rest) pos) g) : ED X (.BoolOp .And (a :: b :: rest) pos) (dAnd f g) :=
  .of (pe_and ha.pe hb.pe) fun F S H ρ σ d S' Q hk R rr hf hq => by
    rcases dAnd_some hf with ⟨S1, h1, h2⟩ | ⟨S1, h1, h2⟩
    · refine rdE.go hk R rr h1 fun F1 H1 v le hk1 R1 r1 rv => ⟨true, rv, ?_⟩
      rw [if_pos rfl]
      exact rdE.go hk1 R1 r1 h2 fun F2 H2 v le2 hk2 R2 _ rv => hq F2 H2 v (le.trans le2) R2 rv
    · cases h2
      refine rdE.go hk R rr h1 fun F1 H1 v le hk1 R1 r1 rv => ⟨false, rv, ?_⟩
      rw [if_neg Bool.false_ne_true]
      exact hq F1 H1 _ le R1 rfl
theorem ed_not (ha : ED X a f) : ED X (.UnaryOp .Not a pos) (dNot f) :=
  .of (pe_not ha.pe) fun F S H ρ σ d S' Q hk R rr hf hq => by
    obtain ⟨c', S1, h1, h2⟩ := dNot_some hf
    cases h2
    exact rdE.go hk R rr h1 fun F1 H1 v le hk1 R1 r1 rv => ⟨c', rv, hq F1 H1 _ le R1 rfl⟩
/-! ### argument lists -/
def aNil : DA := fun _ S => some ([], S)
def aCons (f : DE) (g : DA) : DA := fun ρ S => match f ρ S with
  | some (x, S1) => (match g ρ S1 with
    | some (xs, S2) => some (x :: xs, S2)
    | none => none)
  | none => none
theorem aCons_some {f : DE} {g : DA} {ρ : Ev} {S : Sto} {z : List DV × Sto} (h : aCons f g ρ S = some z) : ∃ x S1 xs S2, f ρ S = some (x, S1) ∧ g ρ S1 = some (xs, S2) ∧ z = (x :: xs, S2) := by
  unfold aCons at h
  split at h
  · split at h
    · exact ⟨_, _, _, _, by assumption, by assumption, (Option.some.inj h).symm⟩
    · cases h
  · cases h
theorem ad_nil : AD X [] aNil := .of pa_nil fun F S H ρ σ d S' Q hk R rr hf hq => by
  cases (show some (([] : List DV), S) = some (d, S') from hf)
  exact hq F H [] (.refl F) R rfl
theorem ad_cons {es : List Expr} {g : DA} (ha : ED X e f) (hr : AD X es g) (hs : starEach (e :: es) X.env = (false, eval e X.env) :: starEach es X.env := by rfl) : AD X (e :: es) (aCons f g) :=
  .of (pa_cons ha.pe hr.pa hs) fun F S H ρ σ d S' Q hk R rr hf hq => by
    obtain ⟨x, S1, xs, S2, h1, h2, h3⟩ := aCons_some hf
    cases h3
    exact rdE.go hk R rr h1 fun F1 H1 v le hk1 R1 r1 rx => rdA.go hk1 R1 r1 h2 fun F2 H2 vs le2 hk2 R2 r2 ry => hq F2 H2 (v :: vs) (le.trans le2) R2 (.cons (rx.le le2) ry)
def dPrim (p : PL) (f : DA) : DE := fun ρ S => match f ρ S with
  | some (xs, S1) => p xs S1
  | none => none
theorem dPrim_some {p : PL} {f : DA} {ρ : Ev} {S : Sto} {z : DV × Sto} (h : dPrim p f ρ S = some z) : ∃ x S1, f ρ S = some (x, S1) ∧ p x S1 = some z := by
  unfold dPrim at h
  split at h
  · exact ⟨_, _, by assumption, h⟩
  · cases h
theorem prim_go {p : PL} {f : DA} {r : List V → Hp → VK → Prop} (hp : OkL X.K p r) {F : Fm} {S S' : Sto} {H : Hp} {ρ : Ev} {σ : St} {d : DV} {Q : VK} (hk : F.K = X.K) (R : Rep F S H) (rr : RelE F ρ σ) (hf : dPrim p f ρ S = some (d, S')) (hq : PostE F S' d Q) : rdA X.K f σ H fun vs H1 => r vs H1 Q := by
  obtain ⟨x, S1, h1, h2⟩ := dPrim_some hf
  exact rdA.go hk R rr h1 fun F1 H1 v le hk1 R1 r1 rx => hp F1 S1 H1 x v d S' Q hk1 R1 rx h2 (hq.le le)
/-- anything that asks an argument list, then r -/
theorem ed_prim {es : List Expr} {r : List V → Hp → VK → Prop} {p : PL} {fa : DA} (hpe : ∀ {t : TA}, PA X es t → PE X e (tCB r t)) (hp : OkL X.K p r) (ha : AD X es fa) : ED X e (dPrim p fa) :=
  .of (hpe ha.pa) fun F S H ρ σ d S' Q hk R rr hf hq => prim_go hp hk R rr hf hq

/-! ### tuples and lists written -/
def pTup : PL := fun xs S => if xs.length ≤ sizeLine then some (.tup xs, S) else none
def pLst : PL := fun xs S => if xs.length ≤ sizeLine then some (.lst .own xs, S) else none
def pLstM : PL := fun xs S => if xs.length ≤ sizeLine then some (.loc S.length, S ++ [.lst xs]) else none
theorem of_ite {α : Type} {c : Prop} [Decidable c] {x : Option α} {z : α} (h : (if c then x else none) = some z) : c ∧ x = some z := by
  split at h
  · exact ⟨by assumption, h⟩
  · cases h
theorem new_tup {F : Fm} {S : Sto} {H : Hp} {Q : VK} {ds : List DV} {vs : List V} (R : Rep F S H) (r : RelL F ds vs) (hq : PostE F S (.tup ds) Q) : ∀ p, H p = none → Q (.ref p) (upd H p (.tup vs)) := fun p hp => by
  obtain ⟨R', le⟩ := R.add (o := .tup vs) hp
  exact hq _ _ _ le R' ⟨p, vs, rfl, upd_same, r.le le⟩
theorem new_lst {F : Fm} {S : Sto} {H : Hp} {Q : VK} {ds : List DV} {vs : List V} (R : Rep F S H) (r : RelL F ds vs) (hq : PostE F S (.lst .own ds) Q) : ∀ p, H p = none → Q (.ref p) (upd H p (.lst vs)) := fun p hp => by
  obtain ⟨R', le⟩ := R.add (o := .lst vs) hp
  exact hq _ _ _ le R' ⟨p, vs, rfl, upd_same, r.le le⟩
theorem get_len {α : Type} (l : List α) (x : α) : (l ++ [x])[l.length]? = some x := by
  rw [List.getElem?_append_right (Nat.le_refl _), Nat.sub_self]
  rfl
theorem new_lstM {F : Fm} {S : Sto} {H : Hp} {Q : VK} {ds : List DV} {vs : List V} (R : Rep F S H) (r : RelL F ds vs) (hq : PostE F (S ++ [.lst ds]) (.loc S.length) Q) : ∀ p, H p = none → Q (.ref p) (upd H p (.lst vs)) := fun p hp => by
  have R' := R.alloc (o := .lst vs) (c := .lst ds) hp (fun _ q => nomatch q) ⟨vs, upd_same, r.le (F.cell_le p)⟩
  exact hq _ _ _ (F.cell_le p) R' ⟨p, by rw [← R.len]; exact get_len _ _, rfl⟩
theorem ed_tup {es : List Expr} {fa : DA} {x1} (ha : AD X es fa) : ED X (.Tuple es x1 pos) (dPrim pTup fa) :=
  .of (pe_tup ha.pa) fun F S H ρ σ d S' Q hk R rr hf hq => prim_go (r := fun xs H1 Q => xs.length ≤ sizeLine ∧ ∀ p, H1 p = none → Q (.ref p) (upd H1 p (.tup xs))) (fun F S H xs vs d S' Q hk R rl hp hq => by
    obtain ⟨h1, h2⟩ := of_ite hp
    cases h2
    exact ⟨by rw [← rl.length]; exact h1, new_tup R rl hq⟩) hk R rr hf hq
theorem ed_lst {es : List Expr} {fa : DA} (ha : AD X es fa) : ED X (.List es pos) (dPrim pLst fa) :=
  .of (pe_lst ha.pa) fun F S H ρ σ d S' Q hk R rr hf hq => prim_go (r := fun xs H1 Q => xs.length ≤ sizeLine ∧ ∀ p, H1 p = none → Q (.ref p) (upd H1 p (.lst xs))) (fun F S H xs vs d S' Q hk R rl hp hq => by
    obtain ⟨h1, h2⟩ := of_ite hp
    cases h2
    exact ⟨by rw [← rl.length]; exact h1, new_lst R rl hq⟩) hk R rr hf hq
theorem ed_lstM {es : List Expr} {fa : DA} (ha : AD X es fa) : ED X (.List es pos) (dPrim pLstM fa) :=
  .of (pe_lst ha.pa) fun F S H ρ σ d S' Q hk R rr hf hq => prim_go (r := fun xs H1 Q => xs.length ≤ sizeLine ∧ ∀ p, H1 p = none → Q (.ref p) (upd H1 p (.lst xs))) (fun F S H xs vs d S' Q hk R rl hp hq => by
    obtain ⟨h1, h2⟩ := of_ite hp
    cases h2
    exact ⟨by rw [← rl.length]; exact h1, new_lstM R rl hq⟩) hk R rr hf hq

/-! ### statements -/
variable {st : Stmt} {sts : List Stmt}
def dNext : DS := fun ρ S => some (.nx ρ S)
def dSeq (f g : DS) : DS := fun ρ S => match f ρ S with
  | some (.nx ρ' S') => g ρ' S'
  | o => o
theorem sds_nil : SDs X [] dNext := .of pss_nil fun F S H ρ σ o D hk R rr hf hq => by
  cases (show some (Out.nx ρ S) = some o from hf)
  exact hq F H (.refl F) R σ rr
theorem seq_go {f g : DS} {F : Fm} {S : Sto} {H : Hp} {ρ : Ev} {σ : St} {o : Out} {D : Ends} {K : PySem.W.Frag} (hk : F.K = K) (R : Rep F S H) (rr : RelE F ρ σ) (hf : dSeq f g ρ S = some o) (hq : PostS F o D) : tSeq (rdS K f) (rdS K g) D σ H := by
  unfold dSeq at hf
  split at hf
  · rename_i ρ' S' h1
    exact ⟨F, S, ρ, _, hk, R, rr, h1, fun F' H' le R' σ' r' => ⟨F', S', ρ', o, le.k.trans hk, R', r', hf, hq.le le⟩⟩
  · rename_i h1
    refine ⟨F, S, ρ, o, hk, R, rr, hf, fun F' H' le R' => ?_⟩
    have := hq F' H' le R'
    cases o with
    | nx ρ' S' => exact absurd hf (h1 ρ' S')
    | rt d S' => exact this
    | bk ρ' S' => exact this
    | ct ρ' S' => exact this
theorem sds_cons {f g : DS} (h : SD X st f) (hr : SDs X sts g) : SDs X (st :: sts) (dSeq f g) :=
  .of (pss_cons h.ps hr.ps) fun F S H ρ σ o D hk R rr hf hq => seq_go hk R rr hf hq
theorem sds_one {f : DS} (h : SD X st f) : SDs X [st] f := ⟨pss_one h.ps⟩
def dBreak : DS := fun ρ S => some (.bk ρ S)
def dCont : DS := fun ρ S => some (.ct ρ S)
def dExpr (f : DE) : DS := fun ρ S => match f ρ S with
  | some (_, S') => some (.nx ρ S')
  | none => none
theorem sd_expr (h : ED X e f) (hs : swapsWith e none pos.line X.env = pure false := by rfl) : SD X (.Expr e pos) (dExpr f) :=
  .of (ps_expr h.pe hs) fun F S H ρ σ o D hk R rr hf hq => by
    unfold dExpr at hf
    split at hf
    · rename_i d S' h1
      cases hf
      exact rdE.go hk R rr h1 fun F1 H1 v le hk1 R1 r1 rv => hq F1 H1 le R1 σ r1
    · cases hf
def dRet (f : DE) : DS := fun ρ S => match f ρ S with
  | some (d, S') => some (.rt d S')
  | none => none
theorem sd_ret (h : ED X e f) : SD X (.Return (some e) pos) (dRet f) :=
  .of (ps_ret h.pe) fun F S H ρ σ o D hk R rr hf hq => by
    unfold dRet at hf
    split at hf
    · rename_i d S' h1
      cases hf
      exact rdE.go hk R rr h1 fun F1 H1 v le hk1 R1 r1 rv => hq F1 H1 le R1 v rv
    · cases hf
def dRetN : DS := fun _ S => some (.rt .non S)
theorem sd_retN : SD X (.Return none pos) dRetN := .of ps_retN fun F S H ρ σ o D hk R rr hf hq => by
  cases (show some (Out.rt .non S) = some o from hf)
  exact hq F H (.refl F) R .non rfl
def dIfS (c : DE) (f g : DS) : DS := fun ρ S => match c ρ S with
  | some (.bl true, S1) => f ρ S1
  | some (.bl false, S1) => g ρ S1
  | _ => none
theorem dIfS_some {c : DE} {f g : DS} {ρ : Ev} {S : Sto} {z : Out} (h : dIfS c f g ρ S = some z) : (∃ S1, c ρ S = some (.bl true, S1) ∧ f ρ S1 = some z) ∨ (∃ S1, c ρ S = some (.bl false, S1) ∧ g ρ S1 = some z) := by
  unfold dIfS at h
  split at h
  · exact .inl ⟨_, by assumption, h⟩
  · exact .inr ⟨_, by assumption, h⟩
  · cases h
theorem rdS.go {f : DS} {F : Fm} {S : Sto} {H : Hp} {ρ : Ev} {σ : St} {o : Out} {D : Ends} {K : PySem.W.Frag} (hk : F.K = K) (R : Rep F S H) (rr : RelE F ρ σ) (hf : f ρ S = some o) (hq : PostS F o D) : rdS K f D σ H := ⟨F, S, ρ, o, hk, R, rr, hf, hq⟩
theorem sd_if {c : Expr} {ss ts : List Stmt} {hc : DE} {f g : DS} (h1 : TD X c hc) (h2 : SDs X ss f) (h3 : SDs X ts g) : SD X (.If c ss ts pos) (dIfS hc f g) :=
  .of (ps_if h1.pt h2.ps h3.ps) fun F S H ρ σ o D hk R rr hf hq => by
    rcases dIfS_some hf with ⟨S1, h1, h2⟩ | ⟨S1, h1, h2⟩
    · refine rdT.go hk R rr h1 fun F1 H1 le hk1 R1 r1 => ?_
      rw [if_pos rfl]
      exact rdS.go hk1 R1 r1 h2 (hq.le le)
    · refine rdT.go hk R rr h1 fun F1 H1 le hk1 R1 r1 => ?_
      rw [if_neg Bool.false_ne_true]
      exact rdS.go hk1 R1 r1 h2 (hq.le le)

/-! ### targets -/
def gSet (i : Nat) : DG := fun d ρ S => some (ρ.set i (some d), S)
theorem gd_name {i : Nat} (h : PG X e (gName i)) : GD X e (gSet i) := .of h fun F S H ρ σ d v ρ' S' Q hk R rr rv hf hq => by
  cases (show some (ρ.set i (some d), S) = some (ρ', S') from hf)
  exact hq F H _ (.refl F) R (rr.set i rv)
abbrev DGs := List DV → Ev → Sto → Option (Ev × Sto)
def rdGs (K : PySem.W.Frag) (g : DGs) : TGs := fun vs σ H Q => ∃ F S ρ ds ρ' S', F.K = K ∧ Rep F S H ∧ RelE F ρ σ ∧ RelL F ds vs ∧ g ds ρ S = some (ρ', S') ∧ ∀ F' H' σ', Le F F' → Rep F' S' H' → RelE F' ρ' σ' → Q σ' H'
structure GDs (X : Cx) (es : List Expr) (g : DGs) : Prop where
  pg : PGs X es (rdGs X.K g)
theorem GDs.of {es : List Expr} {t : TGs} {g : DGs} (h : PGs X es t) (m : ∀ F S H ρ σ d v ρ' S' Q, F.K = X.K → Rep F S H → RelE F ρ σ → RelL F d v → g d ρ S = some (ρ', S') → (∀ F' H' σ', Le F F' → Rep F' S' H' → RelE F' ρ' σ' → Q σ' H') → t v σ H Q) : GDs X es g :=
  ⟨⟨fun pins s σ H v u Q I rv ⟨F, S, ρ, d, ρ', S', hk, R, r, rd, hf, hq⟩ => h.run pins s σ H v u Q I rv (m F S H ρ σ d v ρ' S' Q hk R r rd hf hq)⟩⟩
def gsNil : DGs := fun ds ρ S => match ds with
  | [] => some (ρ, S)
  | _ => none
def gsCons (g : DG) (h : DGs) : DGs := fun ds ρ S => match ds with
  | d :: r => (match g d ρ S with
    | some (ρ', S') => h r ρ' S'
    | none => none)
  | [] => none
theorem gds_nil : GDs X [] gsNil := .of pgs_nil fun F S H ρ σ d v ρ' S' Q hk R rr rv hf hq => by
  unfold gsNil at hf
  split at hf
  · cases hf
    exact ⟨rv.nil, hq F H σ (.refl F) R rr⟩
  · cases hf
theorem gds_cons {es : List Expr} {g : DG} {h : DGs} {t : TG} {u : TGs} (h1 : GD X e g) (h2 : GDs X es h) (hp : PGs X (e :: es) (gCons (rdG X.K g) (rdGs X.K h))) : GDs X (e :: es) (gsCons g h) :=
  .of hp fun F S H ρ σ d v ρ' S' Q hk R rr rv hf hq => by
    unfold gsCons at hf
    split at hf
    · rename_i d0 r
      obtain ⟨x, vr, rfl, rx, rl⟩ := rv
      split at hf
      · rename_i ρ1 S1 h1
        exact ⟨x, vr, rfl, F, S, ρ, d0, ρ1, S1, hk, R, rr, rx, h1, fun F1 H1 σ1 le R1 r1 => ⟨F1, S1, ρ1, r, ρ', S', le.k.trans hk, R1, r1, rl.le le, hf, fun F2 H2 σ2 le2 => hq F2 H2 σ2 (le.trans le2)⟩⟩
      · cases hf
    · cases hf
def gTupD (n : Nat) (h : DGs) : DG := fun d ρ S => match d with
  | .tup ds => if ds.length = n then h ds ρ S else none
  | _ => none
theorem gd_tup {n : Nat} {es : List Expr} {h : DGs} (h2 : GDs X es h) (hp : PG X e (gTup X.K n (rdGs X.K h))) : GD X e (gTupD n h) :=
  .of hp fun F S H ρ σ d v ρ' S' Q hk R rr rv hf hq => by
    unfold gTupD at hf
    split at hf
    · rename_i ds
      obtain ⟨hn, hf⟩ := of_ite hf
      obtain ⟨a, xs, rfl, hs, rl⟩ := rv
      exact ⟨a, xs, rfl, SqT.of (R.g _ _ hs), by rw [← rl.length]; exact hn, F, S, ρ, ds, ρ', S', hk, R, rr, rl, hf, hq⟩
    · cases hf
def dAsg (f : DE) (g : DG) : DS := fun ρ S => match f ρ S with
  | some (d, S1) => (match g d ρ S1 with
    | some (ρ', S2) => some (.nx ρ' S2)
    | none => none)
  | none => none
theorem asg_go {g : DG} {F : Fm} {S : Sto} {H : Hp} {ρ : Ev} {σ : St} {o : Out} {D : Ends} {K : PySem.W.Frag} (hk : F.K = K) (R : Rep F S H) (rr : RelE F ρ σ) (hf : dAsg f g ρ S = some o) (hq : PostS F o D) : tAsg (rdE K f) (rdG K g) D σ H := by
  unfold dAsg at hf
  split at hf
  · rename_i d S1 h1
    split at hf
    · rename_i ρ' S2 h2
      cases hf
      exact rdE.go hk R rr h1 fun F1 H1 v le hk1 R1 r1 rv => ⟨F1, S1, ρ, d, ρ', S2, hk1, R1, r1, rv, h2, fun F2 H2 σ2 le2 R2 r2 => hq F2 H2 (le.trans le2) R2 σ2 r2⟩
    · cases hf
  · cases hf
theorem sd_asg {g : DG} (h : PS X st (tAsg (rdE X.K f) (rdG X.K g))) : SD X st (dAsg f g) := .of h fun F S H ρ σ o D hk R rr hf hq => asg_go hk R rr hf hq
def dSet (i : Nat) (f : DE) : DS := fun ρ S => match f ρ S with
  | some (d, S1) => some (.nx (ρ.set i (some d)) S1)
  | none => none
theorem sd_set {i : Nat} (h : PS X st (tAsg (rdE X.K f) (gName i))) : SD X st (dSet i f) := .of h fun F S H ρ σ o D hk R rr hf hq => by
  unfold dSet at hf
  split at hf
  · rename_i d S1 h1
    cases hf
    exact rdE.go hk R rr h1 fun F1 H1 v le hk1 R1 r1 rv => hq F1 H1 le R1 _ (r1.set i rv)
  · cases hf

/-! ### loops -/
abbrev DI := Ev → Sto → Option (List DV × Sto)
def Walks (J : It) (F0 : Fm) (ds : List DV) : Prop := ∀ (i : Nat) F S H, Wk F0 F → PF F0 F → Rep F S H → (i = ds.length → J.stop i H) ∧ ∀ d, ds[i]? = some d → J.go i H ∧ ∀ x H', J.yld i H x H' → ∃ F', Le F F' ∧ Rep F' S H' ∧ Rel F' d x
def rdI (K : PySem.W.Frag) (f : DI) : TI := fun σ H R => ∃ F S ρ ds S', F.K = K ∧ Rep F S H ∧ RelE F ρ σ ∧ f ρ S = some (ds, S') ∧ ∀ J F' H', Le F F' → Rep F' S' H' → Walks J F' ds → R J H'
structure ID (X : Cx) (tg iter : Expr) (f : DI) : Prop where
  pi : PI X tg iter (rdI X.K f)
theorem ID.of {tg : Expr} {t : TI} {f : DI} (h : PI X tg e t) (m : ∀ F S H ρ σ ds S' Q, F.K = X.K → Rep F S H → RelE F ρ σ → f ρ S = some (ds, S') → (∀ J F' H', Le F F' → Rep F' S' H' → Walks J F' ds → Q J H') → t σ H Q) : ID X tg e f :=
  ⟨⟨fun pins s σ H Q I ⟨F, S, ρ, d, S', hk, R, r, hf, hq⟩ => h.run pins s σ H Q I (m F S H ρ σ d S' Q hk R r hf hq)⟩⟩
def forL (g : DG) (body : DS) : List DV → DS
  | [] => fun ρ S => some (.nx ρ S)
  | d :: ds => fun ρ S => match g d ρ S with
    | some (ρ1, S1) => (match body ρ1 S1 with
      | some (.nx ρ2 S2) => forL g body ds ρ2 S2
      | some (.ct ρ2 S2) => forL g body ds ρ2 S2
      | some (.bk ρ2 S2) => some (.nx ρ2 S2)
      | some (.rt v S2) => some (.rt v S2)
      | none => none)
    | none => none
def dFor (it : DI) (g : DG) (body : DS) : DS := fun ρ S => match it ρ S with
  | some (ds, S1) => forL g body ds ρ S1
  | none => none
theorem for_go {it : DI} {g : DG} {body : DS} {F : Fm} {S : Sto} {H : Hp} {ρ : Ev} {σ : St} {o : Out} {D : Ends} {K : PySem.W.Frag} (hk : F.K = K) (R : Rep F S H) (rr : RelE F ρ σ) (hf : dFor it g body ρ S = some o) (hq : PostS F o D) : tFor (rdI K it) (rdG K g) (rdS K body) D σ H := by
  unfold dFor at hf
  split at hf
  · rename_i ds S1 h1
    refine ⟨F, S, ρ, ds, S1, hk, R, rr, h1, fun J F1 H1 le1 R1 wk => ?_⟩
    refine ⟨fun i m σ H => i ≤ ds.length ∧ m = ds.length - i ∧ ∃ F' S' ρ', Le F1 F' ∧ Rep F' S' H ∧ RelE F' ρ' σ ∧ forL g body (ds.drop i) ρ' S' = some o, ⟨ds.length, Nat.zero_le _, rfl, F1, S1, ρ, .refl F1, R1, rr.le le1, by rw [List.drop_zero]; exact hf⟩, ?_⟩
    rintro i m σ H ⟨hi, rfl, F', S', ρ', le', R', r', hf'⟩
    obtain ⟨w1, w2⟩ := wk i F' S' H le'.wk le'.pf R'
    by_cases hlt : i < ds.length
    · refine .inr ?_
      have hd : ds[i]? = some ds[i] := List.getElem?_eq_getElem hlt
      obtain ⟨g1, g2⟩ := w2 _ hd
      rw [List.drop_eq_getElem_cons hlt] at hf'
      unfold forL at hf'
      refine ⟨g1, fun σ' H' => ∃ m', m' < ds.length - i ∧ (i + 1 ≤ ds.length ∧ m' = ds.length - (i + 1) ∧ ∃ F' S' ρ', Le F1 F' ∧ Rep F' S' H' ∧ RelE F' ρ' σ' ∧ forL g body (ds.drop (i + 1)) ρ' S' = some o), fun _ _ z => z, fun x H2 y => ?_⟩
      obtain ⟨F2, le2, R2, rx⟩ := g2 x H2 y
      split at hf'
      · rename_i ρ1 S3 hg
        refine ⟨F2, S', ρ', _, ρ1, S3, le2.k.trans (le'.k.trans (le1.k.trans hk)), R2, r'.le le2, rx, hg, fun F3 H3 σ3 le3 R3 r3 => ?_⟩
        have le03 : Le F1 F3 := (le'.trans le2).trans le3
        split at hf'
        · rename_i ρ2 S2 hb
          exact rdS.go (le3.k.trans (le2.k.trans (le'.k.trans (le1.k.trans hk)))) R3 r3 hb fun F4 H4 le4 R4 σ4 r4 => ⟨_, by omega, hlt, rfl, F4, S2, ρ2, le03.trans le4, R4, r4, hf'⟩
        · rename_i ρ2 S2 hb
          exact rdS.go (le3.k.trans (le2.k.trans (le'.k.trans (le1.k.trans hk)))) R3 r3 hb fun F4 H4 le4 R4 σ4 r4 => ⟨_, by omega, hlt, rfl, F4, S2, ρ2, le03.trans le4, R4, r4, hf'⟩
        · rename_i ρ2 S2 hb
          cases hf'
          exact rdS.go (le3.k.trans (le2.k.trans (le'.k.trans (le1.k.trans hk)))) R3 r3 hb fun F4 H4 le4 R4 σ4 r4 => hq F4 H4 (le1.trans (le03.trans le4)) R4 σ4 r4
        · rename_i v S2 hb
          cases hf'
          exact rdS.go (le3.k.trans (le2.k.trans (le'.k.trans (le1.k.trans hk)))) R3 r3 hb fun F4 H4 le4 R4 v rv => hq F4 H4 (le1.trans (le03.trans le4)) R4 v rv
        · cases hf'
      · cases hf'
    · have e : i = ds.length := by omega
      subst e
      rw [List.drop_length] at hf'
      cases (show some (Out.nx ρ' S') = some o from hf')
      exact .inl ⟨w1 rfl, hq F' H (le1.trans le') R' σ r'⟩
  · cases hf
theorem sd_for {it : DI} {g : DG} {body : DS} (h : PS X st (tFor (rdI X.K it) (rdG X.K g) (rdS X.K body))) : SD X st (dFor it g body) := .of h fun F S H ρ σ o D hk R rr hf hq => for_go hk R rr hf hq
def whileL (c : DE) (body : DS) : Nat → DS
  | 0 => fun _ _ => none
  | n + 1 => fun ρ S => match c ρ S with
    | some (.bl true, S1) => (match body ρ S1 with
      | some (.nx ρ2 S2) => whileL c body n ρ2 S2
      | some (.ct ρ2 S2) => whileL c body n ρ2 S2
      | some (.bk ρ2 S2) => some (.nx ρ2 S2)
      | some (.rt v S2) => some (.rt v S2)
      | none => none)
    | some (.bl false, S1) => some (.nx ρ S1)
    | _ => none
theorem while_go {c : DE} {body : DS} {n : Nat} {F : Fm} {S : Sto} {H : Hp} {ρ : Ev} {σ : St} {o : Out} {D : Ends} {K : PySem.W.Frag} (hk : F.K = K) (R : Rep F S H) (rr : RelE F ρ σ) (hf : whileL c body n ρ S = some o) (hq : PostS F o D) : tWhile (rdT K c) (rdS K body) D σ H := by
  refine ⟨fun m σ H => ∃ F' S' ρ', Le F F' ∧ Rep F' S' H ∧ RelE F' ρ' σ ∧ whileL c body m ρ' S' = some o, ⟨n, F, S, ρ, .refl F, R, rr, hf⟩, ?_⟩
  rintro m σ H ⟨F', S', ρ', le', R', r', hf'⟩
  cases m with
  | zero => cases hf'
  | succ m =>
    unfold whileL at hf'
    split at hf'
    · rename_i S1 h1
      refine rdT.go (le'.k.trans hk) R' r' h1 fun F1 H1 le1 hk1 R1 r1 => ?_
      rw [if_pos rfl]
      refine ⟨fun σ' H' => ∃ m', m' < m + 1 ∧ ∃ F' S' ρ', Le F F' ∧ Rep F' S' H' ∧ RelE F' ρ' σ' ∧ whileL c body m' ρ' S' = some o, fun _ _ z => z, ?_⟩
      split at hf'
      · rename_i ρ2 S2 hb
        exact rdS.go hk1 R1 r1 hb fun F4 H4 le4 R4 σ4 r4 => ⟨m, Nat.lt_succ_self _, F4, S2, ρ2, (le'.trans le1).trans le4, R4, r4, hf'⟩
      · rename_i ρ2 S2 hb
        exact rdS.go hk1 R1 r1 hb fun F4 H4 le4 R4 σ4 r4 => ⟨m, Nat.lt_succ_self _, F4, S2, ρ2, (le'.trans le1).trans le4, R4, r4, hf'⟩
      · rename_i ρ2 S2 hb
        cases hf'
        exact rdS.go hk1 R1 r1 hb fun F4 H4 le4 R4 σ4 r4 => hq F4 H4 ((le'.trans le1).trans le4) R4 σ4 r4
      · rename_i v S2 hb
        cases hf'
        exact rdS.go hk1 R1 r1 hb fun F4 H4 le4 R4 v rv => hq F4 H4 ((le'.trans le1).trans le4) R4 v rv
      · cases hf'
    · rename_i S1 h1
      cases hf'
      refine rdT.go (le'.k.trans hk) R' r' h1 fun F1 H1 le1 hk1 R1 r1 => ?_
      rw [if_neg Bool.false_ne_true]
      exact hq F1 H1 (le'.trans le1) R1 σ r1
    · cases hf'
theorem sd_while {c : DE} {body : DS} (n : Nat) (h : PS X st (tWhile (rdT X.K c) (rdS X.K body))) : SD X st (whileL c body n) := .of h fun F S H ρ σ o D hk R rr hf hq => while_go hk R rr hf hq
end
end Dn

namespace Dn
open PySem PySem.Spec PyProof.Rows L2

/-! ### copies: cells to values -/
mutual
def mapD (bor : Bool) (h : Nat → Option DV) : DV → Option DV
  | .loc n => h n
  | .tup ds => match mapDL bor h ds with
    | some es => some (.tup es)
    | none => none
  | .tupx ds => match mapDL bor h ds with
    | some es => some (.tupx es)
    | none => none
  | .lst k ds => if k = .bor ∧ bor = false then none else match mapDL bor h ds with
    | some es => some (.lst k es)
    | none => none
  | .dik k ks ds => if k ≠ .own ∧ bor = false then none else match mapDL bor h ds with
    | some es => some (.dik k ks es)
    | none => none
  | .dit k ks ds => if k ≠ .own ∧ bor = false then none else match mapDL bor h ds with
    | some es => some (.dit k ks es)
    | none => none
  | .non => some .non
  | .bl b => some (.bl b)
  | .int i => some (.int i)
  | .str s => some (.str s)
def mapDL (bor : Bool) (h : Nat → Option DV) : List DV → Option (List DV)
  | [] => some []
  | d :: ds => match mapD bor h d with
    | some e => (match mapDL bor h ds with
      | some es => some (e :: es)
      | none => none)
    | none => none
end
def bk (bor : Bool) : LK := if bor then .bor else .own
def cpN (bor : Bool) : Nat → Sto → Nat → Option DV
  | 0, _, _ => none
  | k + 1, S, n => match S[n]? with
    | some (.lst ds) => (match mapDL bor (cpN bor k S) ds with
      | some es => some (.lst (bk bor) es)
      | none => none)
    | some (.dik ks ds) => (match mapDL bor (cpN bor k S) ds with
      | some es => some (.dik (bk bor) ks es)
      | none => none)
    | some (.dit ks ds) => (match mapDL bor (cpN bor k S) ds with
      | some es => some (.dit (bk bor) ks es)
      | none => none)
    | some (.frz d) => mapD bor (cpN bor k S) d
    | _ => none
/-- as a value: borrowed (bor), or frozen -/
def cpD (bor : Bool) (S : Sto) (d : DV) : Option DV := mapD bor (cpN bor (S.length + 1) S) d
def cpL (bor : Bool) (S : Sto) (ds : List DV) : Option (List DV) := mapDL bor (cpN bor (S.length + 1) S) ds

structure CpTo (bor : Bool) (F F2 : Fm) : Prop where
  k : F2.K = F.K
  g : Same F.G F2.G
  b : bor = true → Same F.B F2.B
mutual
theorem mapD_rel {bor : Bool} {h : Nat → Option DV} {F F2 : Fm} (c : CpTo bor F F2) (hh : ∀ n d a, h n = some d → F.lm[n]? = some a → Rel F2 d (.ref a)) : ∀ (d d' : DV) (v : V), mapD bor h d = some d' → Rel F d v → Rel F2 d' v
  | .loc n, d', v, e, r => by
    obtain ⟨a, h1, rfl⟩ := r
    exact hh n d' a e h1
  | .tup ds, d', v, e, r => by
    obtain ⟨a, xs, rfl, hs, hl⟩ := r
    unfold mapD at e
    split at e
    · rename_i es he
      cases e
      exact ⟨a, xs, rfl, c.g _ _ hs, mapDL_rel c hh ds es xs he hl⟩
    · cases e
  | .tupx ds, d', v, e, r => by
    obtain ⟨a, xs, rfl, hs, hl⟩ := r
    unfold mapD at e
    split at e
    · rename_i es he
      cases e
      exact ⟨a, xs, rfl, by rw [c.k]; exact sqT_same c.g hs, mapDL_rel c hh ds es xs he hl⟩
    · cases e
  | .lst k ds, d', v, e, r => by
    unfold mapD at e
    split at e
    · cases e
    · rename_i hn
      split at e
      · rename_i es he
        cases e
        cases k with
        | own =>
          obtain ⟨a, xs, rfl, hs, hl⟩ := r
          exact ⟨a, xs, rfl, c.g _ _ hs, mapDL_rel c hh ds es xs he hl⟩
        | bor =>
          obtain ⟨a, xs, rfl, hs, hl⟩ := r
          have hb : bor = true := by
            cases bor with
            | true => rfl
            | false => exact absurd ⟨rfl, rfl⟩ hn
          exact ⟨a, xs, rfl, hs.elim (fun h => .inl (c.b hb _ _ h)) fun h => .inr (c.g _ _ h), mapDL_rel c hh ds es xs he hl⟩
        | ext =>
          obtain ⟨a, xs, rfl, hs, hl⟩ := r
          exact ⟨a, xs, rfl, by rw [c.k]; exact sqL_same c.g hs, mapDL_rel c hh ds es xs he hl⟩
      · cases e
  | .dik k ks ds, d', v, e, r => by
    unfold mapD at e
    split at e
    · cases e
    · rename_i hn
      split at e
      · rename_i es he
        cases e
        obtain ⟨a, xs, rfl, hz, hs, hl⟩ := r
        have hl2 := mapDL_rel c hh ds es xs he hl
        refine ⟨a, xs, rfl, hz.trans (hl.length.trans hl2.length.symm), hs.elim (fun h => .inl (c.g _ _ h)) fun h => .inr ⟨h.1, c.b ?_ _ _ h.2⟩, hl2⟩
        cases bor with
        | true => rfl
        | false => exact absurd ⟨h.1, rfl⟩ hn
      · cases e
  | .dit k ks ds, d', v, e, r => by
    unfold mapD at e
    split at e
    · cases e
    · rename_i hn
      split at e
      · rename_i es he
        cases e
        obtain ⟨a, xs, rfl, hz, hs, hl⟩ := r
        have hl2 := mapDL_rel c hh ds es xs he hl
        refine ⟨a, xs, rfl, hz.trans (hl.length.trans hl2.length.symm), hs.elim (fun h => .inl (c.g _ _ h)) fun h => .inr ⟨h.1, c.b ?_ _ _ h.2⟩, hl2⟩
        cases bor with
        | true => rfl
        | false => exact absurd ⟨h.1, rfl⟩ hn
      · cases e
  | .non, d', v, e, r => by
    cases (show some DV.non = some d' from e)
    exact r
  | .bl b, d', v, e, r => by
    cases (show some (DV.bl b) = some d' from e)
    exact r
  | .int b, d', v, e, r => by
    cases (show some (DV.int b) = some d' from e)
    exact r
  | .str b, d', v, e, r => by
    cases (show some (DV.str b) = some d' from e)
    exact r
theorem mapDL_rel {bor : Bool} {h : Nat → Option DV} {F F2 : Fm} (c : CpTo bor F F2) (hh : ∀ n d a, h n = some d → F.lm[n]? = some a → Rel F2 d (.ref a)) : ∀ (ds es : List DV) (vs : List V), mapDL bor h ds = some es → RelL F ds vs → RelL F2 es vs
  | [], es, vs, e, r => by
    cases (show some ([] : List DV) = some es from e)
    exact r
  | d :: ds, es, vs, e, r => by
    obtain ⟨x, xr, rfl, h1, h2⟩ := r
    unfold mapDL at e
    split at e
    · rename_i e1 he1
      split at e
      · rename_i es1 hes1
        cases e
        exact ⟨x, xr, rfl, mapD_rel c hh d e1 x he1 h1, mapDL_rel c hh ds es1 xr hes1 h2⟩
      · cases e
    · cases e
end
theorem cpN_rel {bor : Bool} {F F2 : Fm} {S : Sto} {H : Hp} (c : CpTo bor F F2) (R : Rep F S H)
    (hl : ∀ (n : Nat) (c : Cell) (a : Addr) (o : HO), S[n]? = some c → c.live = true → F.lm[n]? = some a → H a = some o → if bor then F2.B a = some o else F2.G a = some o) :
    ∀ (k n : Nat) (d : DV) (a : Addr), cpN bor k S n = some d → F.lm[n]? = some a → Rel F2 d (.ref a)
  | 0, n, d, a, e, _ => by cases e
  | k + 1, n, d, a, e, ha => by
    have ih := cpN_rel c R hl k
    unfold cpN at e
    split at e
    · rename_i ds hc
      obtain ⟨⟨xs, e2, hr⟩, _⟩ := R.cell n _ a hc ha
      have q := hl n _ a _ hc rfl ha e2
      split at e
      · rename_i es he
        cases e
        have hl2 := mapDL_rel c ih ds es xs he hr
        cases bor with
        | true => exact ⟨a, xs, rfl, .inl q, hl2⟩
        | false => exact ⟨a, xs, rfl, q, hl2⟩
      · cases e
    · rename_i ks ds hc
      obtain ⟨⟨xs, hz, e2, hr⟩, _⟩ := R.cell n _ a hc ha
      have q := hl n _ a _ hc rfl ha e2
      split at e
      · rename_i es he
        cases e
        have hl2 := mapDL_rel c ih ds es xs he hr
        have hz2 := hz.trans (hr.length.trans hl2.length.symm)
        cases bor with
        | true => exact ⟨a, xs, rfl, hz2, .inr ⟨(fun z => nomatch z), q⟩, hl2⟩
        | false => exact ⟨a, xs, rfl, hz2, .inl q, hl2⟩
      · cases e
    · rename_i ks ds hc
      obtain ⟨⟨xs, hz, e2, hr⟩, _⟩ := R.cell n _ a hc ha
      have q := hl n _ a _ hc rfl ha e2
      split at e
      · rename_i es he
        cases e
        have hl2 := mapDL_rel c ih ds es xs he hr
        have hz2 := hz.trans (hr.length.trans hl2.length.symm)
        cases bor with
        | true => exact ⟨a, xs, rfl, hz2, .inr ⟨(fun z => nomatch z), q⟩, hl2⟩
        | false => exact ⟨a, xs, rfl, hz2, .inl q, hl2⟩
      · cases e
    · rename_i d0 hc
      obtain ⟨hr, _⟩ := R.cell n _ a hc ha
      exact mapD_rel c ih d0 d (.ref a) e hr
    · cases e
/-- all arguments as borrowed values -/
theorem cpL_bor {F : Fm} {S : Sto} {H : Hp} (R : Rep F S H) {ds es : List DV} {vs : List V} (e : cpL true S ds = some es) (r : RelL F ds vs) : RelL ⟨F.K, F.G, H, fun _ => none, []⟩ es vs :=
  have c : CpTo true F ⟨F.K, F.G, H, fun _ => none, []⟩ := ⟨rfl, Same.refl _, fun _ => R.b⟩
  mapDL_rel c (cpN_rel c R (fun n c a o h l e1 e2 => by rw [if_pos rfl]; exact e2) _) ds es vs e r
theorem rep_empty {F : Fm} {S : Sto} {H : Hp} (R : Rep F S H) : Rep ⟨F.K, F.G, H, fun _ => none, []⟩ [] H :=
  ⟨R.g, Same.refl _, (fun _ _ q => nomatch q), R.tup, rfl, fun n c a h _ => by simp at h, fun n m c c' a h => by simp at h⟩

/-! ### defs -/
def runF (np n : Nat) (body : DS) : PL := fun ds S => if ds.length = np then (match body (ds.map some ++ List.replicate (n - ds.length) none) S with
  | some (.rt d S') => some (d, S')
  | some (.nx _ S') => some (.non, S')
  | _ => none) else none
def spS (K : PySem.W.Frag) (np : Nat) (f : PL) : Sp := fun vs H Q _ => ∃ F S ds d S', F.K = K ∧ Rep F S H ∧ RelL F ds vs ∧ ds.length = np ∧ f ds S = some (d, S') ∧ PostE F S' d Q
theorem relE_start {F : Fm} {ds : List DV} {vs : List V} (r : RelL F ds vs) (N : List Str) : RelE F (ds.map some ++ List.replicate (N.length - ds.length) none) (L2.start N vs) := by
  have hl := r.length
  refine ⟨by unfold L2.start; simp [hl], fun i d e => ?_⟩
  unfold L2.start
  by_cases q : i < ds.length
  · rw [List.getElem?_append_left (by simpa using q)] at e
    rw [List.getElem?_append_left (by simp; omega)]
    rw [List.getElem?_map] at e
    cases e2 : ds[i]? with
    | none =>
      rw [e2] at e
      cases e
    | some d2 =>
      rw [e2] at e
      have e3 : d2 = d := Option.some.inj (Option.some.inj e)
      subst e3
      obtain ⟨v, e4, e5⟩ := r.get e2
      exact ⟨v, by rw [List.getElem?_map, e4] <;> rfl, e5⟩
  · rw [List.getElem?_append_right (by simp; omega)] at e
    have := List.getElem?_eq_some_iff.mp e
    obtain ⟨h1, h2⟩ := this
    rw [List.getElem_replicate] at h2
    cases h2
section
variable {P : Program} {w : World} {K : PySem.W.Frag} {mg : Str → Option Value} {base : Heap} {x qual : Str} {params : Arguments} {body : List Stmt} {scope : Scope} {dvs : List V} {kws : List (Str × V)} {f : Addr} {fd : FuncData}
/-- a def whose body is known as a denotation -/
theorem fn_ok {N ps : List Str} {k : Nat} {b : DS} (F : FunD K x qual params body scope dvs kws f fd) (S : FnScope N ps scope)
    (hb : ∀ (cdv : Value) (A : Around) (outer : List Env) (s : Shared) (H : Hp) (E : XK), Room k (A.deeper (envOfC qual scope s.heap.objs.size f cdv)) → SDs (cxOf CX0 P w K mg base N qual scope f cdv A outer s H E).nox body b) :
    FnOk P w K mg base CX0 (k + 1) f fd ps (spS K ps.length (runF ps.length N.length b)) := by
  refine F.ok S (fun vs H Q E h => ?_) (fun cdv A outer s H vs Q E hr h => ?_)
  · obtain ⟨F, S, ds, d, S', hk, R, r, hn, _⟩ := h
    rw [← r.length, hn]
  · refine ⟨_, (hb cdv A outer s H E hr).ps.nox, ?_⟩
    obtain ⟨F, S, ds, d, S', hk, R, r, hn, e, hq⟩ := h
    unfold runF at e
    rw [if_pos hn] at e
    split at e
    · rename_i d' S2 h1
      cases e
      exact ⟨F, S, _, _, hk, R, relE_start r N, h1, fun F' H' le R' v rv => hq F' H' v le R' rv⟩
    · rename_i ρ' S2 h1
      cases e
      exact ⟨F, S, _, _, hk, R, relE_start r N, h1, fun F' H' le R' σ' _ => hq F' H' .non le R' rfl⟩
    · cases e
end

/-! ### calls -/
/-- a call that shares the store -/
def cS (f : PL) (dds : List DV) : PL := fun xs S => f (xs ++ dds) S
theorem ok_cS {K : PySem.W.Frag} {np : Nat} {f : PL} {dds : List DV} {dvs : List V} {E : XK} (hd : ∀ F : Fm, RelL F dds dvs) (hn : ∀ xs S z, f xs S = some z → xs.length = np) : OkL K (cS f dds) (fun vs H Q => spS K np f (vs ++ dvs) H Q E) :=
  fun F S H xs vs d S' Q hk R r hp hq => ⟨F, S, xs ++ dds, d, S', hk, R, r.append (hd F), hn _ _ _ hp, hp, hq⟩
theorem runF_len {np n : Nat} {b : DS} : ∀ xs S z, runF np n b xs S = some z → xs.length = np := fun xs S z h => by
  unfold runF at h
  exact (of_ite h).1
/-- a call with a store of its own: a function of the arguments' values -/
def pureOf (f : PL) : List DV → Option DV := fun ds => match f ds [] with
  | some (d, S') => cpD false S' d
  | none => none
def cP (p : List DV → Option DV) (dds : List DV) : PL := fun xs S => match cpL true S (xs ++ dds) with
  | some ys => (match p ys with
    | some d => some (d, S)
    | none => none)
  | none => none
/-- behind a call with a store of its own: all new objects are frozen -/
def newG (G H H' : Hp) : Hp := fun a => match G a with
  | some o => some o
  | none => if H a = none then H' a else none
theorem newG_same {G H H' : Hp} : Same G (newG G H H') := fun a o e => by
  unfold newG
  rw [e]
theorem after_pure {F Fc : Fm} {S S' : Sto} {H H' : Hp} (R : Rep F S H) (le : Le ⟨F.K, F.G, H, fun _ => none, []⟩ Fc) (R' : Rep Fc S' H') {ex : Addr → Prop} [DecidablePred ex] (hex : ∀ a, ex a → Fc.G a = none ∧ H a = none) (hexT : ∀ a xs, ex a → H' a ≠ some (.tup xs)) :
    Rep { F with G := fun a => if ex a then none else newG Fc.G H H' a } S H' ∧ Le F { F with G := fun a => if ex a then none else newG Fc.G H H' a } := by
  have hB : Fc.B = H := le.b
  have sHH : Same H H' := by
    have := R'.b
    rw [hB] at this
    exact this
  have sG : Same F.G (fun a => if ex a then none else newG Fc.G H H' a) := fun a o e => by
    have e1 : Fc.G a = some o := le.g _ _ e
    by_cases q : ex a
    · rw [(hex a q).1] at e1
      cases e1
    · show (if ex a then none else newG Fc.G H H' a) = some o
      rw [if_neg q]
      exact newG_same _ _ e1
  have at_ : ∀ a o, (if ex a then none else newG Fc.G H H' a) = some o → (Fc.G a = some o ∨ (H a = none ∧ H' a = some o)) := fun a o e => by
    by_cases q : ex a
    · rw [if_pos q] at e
      cases e
    · rw [if_neg q] at e
      unfold newG at e
      split at e
      · rename_i o' h1
        cases e
        exact .inl h1
      · split at e
        · exact .inr ⟨by assumption, e⟩
        · cases e
  refine ⟨⟨fun a o e => ?_, fun a o e => sHH _ _ (R.b _ _ e), fun a o e => sHH _ _ (R.p _ _ e), fun a xs e => ?_, R.len, fun n c a h e => ?_, R.inj⟩, ⟨rfl, rfl, rfl, sG, fun a o e => ?_, List.prefix_refl _⟩⟩
  · rcases at_ a o e with h | ⟨_, h⟩
    · exact R'.g _ _ h
    · exact h
  · have h1 := R'.tup _ _ e
    show (if ex a then none else newG Fc.G H H' a) = _
    rw [if_neg fun q => hexT a xs q e]
    exact newG_same _ _ h1
  · obtain ⟨k1, k2⟩ := R.cell n c a h e
    have wk1 : Wk F { F with G := fun a => if ex a then none else newG Fc.G H H' a } := ⟨rfl, Same.refl _, sG, List.prefix_refl _⟩
    refine ⟨CellOk.wk (F := F) wk1 (fun _ _ _ e => e) k1 fun l => ?_, fun l => ⟨?_, (k2 l).2⟩⟩
    · obtain ⟨o, e1, _⟩ := k1.some l
      rw [e1]
      exact sHH _ _ e1
    · obtain ⟨o, e1, _⟩ := k1.some l
      show (if ex a then none else newG Fc.G H H' a) = none
      cases q : (if ex a then none else newG Fc.G H H' a) with
      | none => rfl
      | some u =>
        rcases at_ a u q with h | ⟨h, _⟩
        · rcases le.n a u h with h2 | h2
          · have h3 : F.G a = some u := h2
            rw [(k2 l).1] at h3
            cases h3
          · have h3 : H a = none := h2.1
            rw [e1] at h3
            cases h3
        · rw [e1] at h
          cases h
  · rcases at_ a o e with h | ⟨h, _⟩
    · rcases le.n a o h with h2 | h2
      · exact .inl h2
      · have h3 : H a = none := h2.1
        exact .inr ⟨R.b.free h3, R.p.free h3⟩
    · exact .inr ⟨R.b.free h, R.p.free h⟩
theorem ok_cP {K : PySem.W.Frag} {np : Nat} {f : PL} {dds : List DV} {dvs : List V} {E : XK} (hd : ∀ F : Fm, RelL F dds dvs) (hn : ∀ xs S z, f xs S = some z → xs.length = np) : OkL K (cP (pureOf f) dds) (fun vs H Q => spS K np f (vs ++ dvs) H Q E) :=
  fun F S H xs vs d S' Q hk R r hp hq => by
    unfold cP at hp
    split at hp
    · rename_i ys hy
      split at hp
      · rename_i d0 hp0
        cases hp
        unfold pureOf at hp0
        split at hp0
        · rename_i d1 S1 hf
          refine ⟨⟨F.K, F.G, H, fun _ => none, []⟩, [], ys, d1, S1, hk, rep_empty R, cpL_bor R hy (r.append (hd F)), hn _ _ _ hf, hf, fun Fc H' v le R' rv => ?_⟩
          obtain ⟨R2, le2⟩ := after_pure R le R' (ex := fun _ => False) (fun _ q => q.elim) (fun _ _ q => q.elim)
          refine hq _ _ v le2 R2 ?_
          have hB : Fc.B = H := le.b
          have c : CpTo false Fc { F with G := fun a => if False then none else newG Fc.G H H' a } := ⟨le.k.symm, fun a o e => newG_same _ _ e, fun q => nomatch q⟩
          refine mapD_rel c (cpN_rel c R' (fun n cc a o h l e1 e2 => ?_) _) d1 d v hp0 rv
          rw [if_neg Bool.false_ne_true]
          obtain ⟨_, k2⟩ := R'.cell n cc a h e1
          obtain ⟨ga, ba⟩ := k2 l
          show newG Fc.G H H' a = some o
          unfold newG
          rw [ga]
          show (if H a = none then H' a else none) = some o
          rw [← hB, if_pos ba.1, e2]
        · cases hp0
      · cases hp
    · cases hp
/-- .. whose result is a new list that may be changed -/
def freshOf (f : PL) : List DV → Option (List DV) := fun ds => match f ds [] with
  | some (.loc n, S') => (match S'[n]? with
    | some (.lst xs) => cpL false (S'.set n .gone) xs
    | _ => none)
  | _ => none
def cM (p : List DV → Option (List DV)) (dds : List DV) : PL := fun xs S => match cpL true S (xs ++ dds) with
  | some ys => (match p ys with
    | some es => some (.loc S.length, S ++ [.lst es])
    | none => none)
  | none => none
theorem ok_cM {K : PySem.W.Frag} {np : Nat} {f : PL} {dds : List DV} {dvs : List V} {E : XK} (hd : ∀ F : Fm, RelL F dds dvs) (hn : ∀ xs S z, f xs S = some z → xs.length = np) : OkL K (cM (freshOf f) dds) (fun vs H Q => spS K np f (vs ++ dvs) H Q E) :=
  fun F S H xs vs d S' Q hk R r hp hq => by
    unfold cM at hp
    split at hp
    · rename_i ys hy
      split at hp
      · rename_i es hp0
        cases hp
        unfold freshOf at hp0
        split at hp0
        · rename_i n1 S1 hf
          split at hp0
          · rename_i zs hz
            refine ⟨⟨F.K, F.G, H, fun _ => none, []⟩, [], ys, .loc n1, S1, hk, rep_empty R, cpL_bor R hy (r.append (hd F)), hn _ _ _ hf, hf, fun Fc H' v le R' rv => ?_⟩
            have hB : Fc.B = H := le.b
            obtain ⟨a0, ha0, rfl⟩ := rv
            obtain ⟨⟨us, eu, ru⟩, k0⟩ := R'.cell n1 _ a0 hz ha0
            obtain ⟨g0, b0⟩ := k0 rfl
            have b0 : H a0 = none := by rw [← hB]; exact b0.1
            obtain ⟨R2, le2⟩ := after_pure R le R' (ex := fun a => a = a0) (fun a q => by rw [q]; exact ⟨g0, b0⟩) (fun a xs q e => by rw [q, eu] at e; cases e)
            have c : CpTo false Fc ({ F with G := fun a => if a = a0 then none else newG Fc.G H H' a }) := ⟨le.k.symm, fun a o e => by
              show (if a = a0 then none else newG Fc.G H H' a) = some o
              rw [if_neg fun q => by rw [q, g0] at e; cases e]
              exact newG_same _ _ e, fun q => nomatch q⟩
            have Rk : Rep Fc (S1.set n1 .gone) H' := R'.kill rfl fun _ _ => trivial
            have hes : RelL ({ F with G := fun a => if a = a0 then none else newG Fc.G H H' a }) es us := by
              refine mapDL_rel c (cpN_rel c Rk (fun n cc a o h l e1 e2 => ?_) _) zs es us hp0 ru
              rw [if_neg Bool.false_ne_true]
              obtain ⟨_, k2⟩ := Rk.cell n cc a h e1
              obtain ⟨ga, ba⟩ := k2 l
              have na : a ≠ a0 := fun q => by
                have hne : n ≠ n1 := fun q2 => by
                  rw [q2, List.getElem?_set_self (List.getElem?_eq_some_iff.mp hz).1] at h
                  cases h
                  cases l
                rw [List.getElem?_set_ne (fun q2 => hne q2.symm)] at h
                exact hne (R'.inj n n1 cc _ a h hz l rfl e1 (by rw [q]; exact ha0))
              show (if a = a0 then none else newG Fc.G H H' a) = some o
              rw [if_neg na]
              unfold newG
              rw [ga]
              show (if H a = none then H' a else none) = some o
              rw [← hB, if_pos ba.1, e2]
            have R3 := R2.cell_new (p := a0) (c := .lst es) ⟨us, eu, hes.le (Fm.cell_le _ a0)⟩ (if_pos rfl) ⟨R.b.free b0, R.p.free b0⟩ (R.noCell b0)
            exact hq _ _ (.ref a0) (le2.trans (Fm.cell_le _ a0)) R3 ⟨a0, by rw [← R.len]; exact get_len _ _, rfl⟩
          · cases hp0
        · cases hp0
      · cases hp
    · cases hp
section
variable {X : Cx} {e : Expr}
theorem ed_call {es : List Expr} {sp : Sp} {dvs : List V} {E : XK} {p : PL} {fa : DA} (hpe : ∀ {t : TA}, PA X es t → PE X e (tCall sp dvs E t)) (hp : OkL X.K p (fun vs H Q => sp (vs ++ dvs) H Q E)) (ha : AD X es fa) : ED X e (dPrim p fa) :=
  .of (hpe ha.pa) fun F S H ρ σ d S' Q hk R rr hf hq => prim_go hp hk R rr hf hq
end
end Dn

namespace Dn
open PySem PySem.Spec PyProof.Rows L2

/-! ### comprehensions -/
theorem wipe_get {σ : L2.St} : ∀ {vs : List Nat} {j : Nat}, (wipe σ vs)[j]? = if j ∈ vs then (σ[j]?).map (fun _ => none) else σ[j]?
  | [], j => by rw [if_neg (by simp)] <;> rfl
  | v :: vs, j => by
    unfold wipe
    by_cases q : v = j
    · subst q
      rw [if_pos (by simp)]
      by_cases hv : v < σ.length
      · rw [List.getElem?_set_self (by rw [wipe_length]; exact hv), List.getElem?_eq_getElem hv] <;> rfl
      · rw [List.getElem?_eq_none (by rw [List.length_set, wipe_length]; omega), List.getElem?_eq_none (by omega)] <;> rfl
    · rw [List.getElem?_set_ne q, wipe_get (vs := vs)]
      by_cases hm : j ∈ vs
      · rw [if_pos hm, if_pos (by simp [hm])]
      · rw [if_neg hm, if_neg (by simp [hm]; exact fun z => q z.symm)]
theorem wipe_set {σ : L2.St} {vs : List Nat} {i : Nat} {x : Option V} (h : i ∈ vs) : wipe (σ.set i x) vs = wipe σ vs := by
  apply List.ext_getElem?
  intro j
  rw [wipe_get, wipe_get]
  by_cases q : i = j
  · subst q
    rw [if_pos h, if_pos h]
    by_cases hl : i < σ.length
    · rw [List.getElem?_set_self hl, List.getElem?_eq_getElem hl] <;> rfl
    · rw [List.getElem?_eq_none (by simp; omega), List.getElem?_eq_none (by omega)]
  · rw [List.getElem?_set_ne q]
theorem wipe_wipe {σ : L2.St} {vs : List Nat} : wipe (wipe σ vs) vs = wipe σ vs := by
  apply List.ext_getElem?
  intro j
  rw [wipe_get, wipe_get]
  by_cases h : j ∈ vs
  · rw [if_pos h, if_pos h, Option.map_map] <;> rfl
  · rw [if_neg h]
def dwipe (ρ : Ev) : List Nat → Ev
  | [] => ρ
  | v :: vs => (dwipe ρ vs).set v none
theorem relE_wipe {F : Fm} {ρ : Ev} {σ : L2.St} (r : RelE F ρ σ) : ∀ vs : List Nat, RelE F (dwipe ρ vs) (wipe σ vs)
  | [] => r
  | v :: vs => by
    have ih := relE_wipe r vs
    unfold dwipe wipe
    refine ⟨by simp [ih.len], fun j d e => ?_⟩
    by_cases q : v = j
    · subst q
      have hlt := (List.getElem?_eq_some_iff.mp e).1
      rw [List.length_set] at hlt
      rw [List.getElem?_set_self hlt] at e
      cases e
    · rw [List.getElem?_set_ne q] at e ⊢
      exact ih.at_ j d e
/-- a target of names alone: the heap stays, only the slots vs are set -/
def GW (K : PySem.W.Frag) (t : TG) (g : DG) (vs : List Nat) : Prop := ∀ F S H ρ σ d v ρ' S' (Q : L2.St → Hp → Prop), F.K = K → Rep F S H → RelE F ρ σ → Rel F d v → g d ρ S = some (ρ', S') → (∀ σ', S' = S → RelE F ρ' σ' → wipe σ' vs = wipe σ vs → Q σ' H) → t v σ H Q
theorem gw_name {K : PySem.W.Frag} {i : Nat} {vs : List Nat} (h : i ∈ vs) : GW K (gName i) (gSet i) vs := fun F S H ρ σ d v ρ' S' Q hk R rr rv hf hq => by
  cases (show some (ρ.set i (some d), S) = some (ρ', S') from hf)
  exact hq _ rfl (rr.set i rv) (wipe_set h)
def GWs (K : PySem.W.Frag) (t : TGs) (g : DGs) (vs : List Nat) : Prop := ∀ F S H ρ σ d v ρ' S' (Q : L2.St → Hp → Prop), F.K = K → Rep F S H → RelE F ρ σ → RelL F d v → g d ρ S = some (ρ', S') → (∀ σ', S' = S → RelE F ρ' σ' → wipe σ' vs = wipe σ vs → Q σ' H) → t v σ H Q
theorem gws_nil {K : PySem.W.Frag} {vs : List Nat} : GWs K gNil gsNil vs := fun F S H ρ σ d v ρ' S' Q hk R rr rv hf hq => by
  unfold gsNil at hf
  split at hf
  · cases hf
    exact ⟨rv.nil, hq σ rfl rr rfl⟩
  · cases hf
theorem gws_cons {K : PySem.W.Frag} {vs : List Nat} {t : TG} {u : TGs} {g : DG} {h : DGs} (h1 : GW K t g vs) (h2 : GWs K u h vs) : GWs K (gCons t u) (gsCons g h) vs := fun F S H ρ σ d v ρ' S' Q hk R rr rv hf hq => by
  unfold gsCons at hf
  split at hf
  · rename_i d0 r
    obtain ⟨x, vr, rfl, rx, rl⟩ := rv
    split at hf
    · rename_i ρ1 S1 e1
      refine ⟨x, vr, rfl, h1 F S H ρ σ d0 x ρ1 S1 _ hk R rr rx e1 fun σ1 hS r1 w1 => ?_⟩
      subst hS
      exact h2 F S1 H ρ1 σ1 r vr ρ' S' Q hk R r1 rl hf fun σ2 hS2 r2 w2 => hq σ2 hS2 r2 (w2.trans w1)
    · cases hf
  · cases hf
theorem gw_tup {K : PySem.W.Frag} {vs : List Nat} {n : Nat} {u : TGs} {h : DGs} (h2 : GWs K u h vs) : GW K (gTup K n u) (gTupD n h) vs := fun F S H ρ σ d v ρ' S' Q hk R rr rv hf hq => by
  unfold gTupD at hf
  split at hf
  · rename_i ds
    obtain ⟨hn, hf⟩ := of_ite hf
    obtain ⟨a, xs, rfl, hs, rl⟩ := rv
    exact ⟨a, xs, rfl, SqT.of (R.g _ _ hs), by rw [← rl.length]; exact hn, h2 F S H ρ σ ds xs ρ' S' Q hk R rr rl hf hq⟩
  · cases hf
theorem GW.gd {X : Cx} {e : Expr} {t : TG} {g : DG} {vs : List Nat} (h : GW X.K t g vs) (hp : PG X e t) : GD X e g := .of hp fun F S H ρ σ d v ρ' S' Q hk R rr rv hf hq =>
  h F S H ρ σ d v ρ' S' Q hk R rr rv hf fun σ' hS r _ => by
    subst hS
    exact hq F H σ' (.refl F) R r

def lcL (g : DG) (c fe : DE) (ρ : Ev) : List DV → Sto → Option (List DV × Sto)
  | [], S => some ([], S)
  | d :: ds, S => match g d ρ S with
    | some (ρ1, S1) => (match c ρ1 S1 with
      | some (.bl true, S2) => (match fe ρ1 S2 with
        | some (y, S3) => (match lcL g c fe ρ ds S3 with
          | some (ys, S4) => some (y :: ys, S4)
          | none => none)
        | none => none)
      | some (.bl false, S2) => lcL g c fe ρ ds S2
      | _ => none)
    | none => none
def lcR (it : DI) (g : DG) (c fe : DE) (vs : List Nat) : DA := fun ρ S => match it ρ S with
  | some (ds, S1) => (match lcL g c fe (dwipe ρ vs) ds S1 with
    | some (ys, S2) => if ys.length ≤ sizeLine then some (ys, S2) else none
    | none => none)
  | none => none
def dLc (it : DI) (g : DG) (c fe : DE) (vs : List Nat) : DE := fun ρ S => match lcR it g c fe vs ρ S with
  | some (ys, S2) => some (.lst .own ys, S2)
  | none => none
def dLcM (it : DI) (g : DG) (c fe : DE) (vs : List Nat) : DE := fun ρ S => match lcR it g c fe vs ρ S with
  | some (ys, S2) => some (.loc S2.length, S2 ++ [.lst ys])
  | none => none
def NoCell (F : Fm) (S : Sto) (D : Addr) : Prop := ∀ (n : Nat) (c : Cell), S[n]? = some c → c.live = true → F.lm[n]? ≠ some D
abbrev Fm.prot (F : Fm) (P : Hp) : Fm := { F with P := P }
theorem Rep.prot {F : Fm} {S : Sto} {H : Hp} (R : Rep F S H) {P : Hp} (hP : Same P H) (pf : ∀ a o u, F.P a = some (.frz o u) → P a = some (.frz o u)) (hc : ∀ (n : Nat) (c : Cell) (a : Addr), S[n]? = some c → c.live = true → F.lm[n]? = some a → P a = none) : Rep (F.prot P) S H :=
  ⟨R.g, R.b, hP, R.tup, R.len, fun n c a h e => ⟨CellOk.wk (F := F) (F' := F.prot P) (⟨rfl, Same.refl F.B, Same.refl F.G, List.prefix_refl F.lm⟩ : Wk F (F.prot P)) pf (R.cell n c a h e).1 fun _ => rfl, fun l => ⟨((R.cell n c a h e).2 l).1, ((R.cell n c a h e).2 l).2.1, hc n c a h l e⟩⟩, R.inj⟩
/-- an object that no data leans on is changed -/
theorem Rep.over {F : Fm} {S : Sto} {H : Hp} (R : Rep F S H) {D : Addr} {o : HO} (gD : F.G D = none) (fD : F.free D) (nc : NoCell F S D) (ht : ∀ xs, o ≠ .tup xs) : Rep F S (upd H D o) := by
  refine ⟨same_mono R.g gD, same_mono R.b fD.1, same_mono R.p fD.2, fun a xs e => ?_, R.len, fun n c a h e => ?_, R.inj⟩
  · by_cases q : a = D
    · rw [q, upd_same] at e
      exact absurd (Option.some.inj e) (ht xs)
    · rw [upd_ne q] at e
      exact R.tup _ _ e
  · obtain ⟨k1, k2⟩ := R.cell n c a h e
    exact ⟨k1.wk (Le.refl F).wk (Le.refl F).pf fun l => upd_ne fun q => nc n c h l (by rw [← q]; exact e), k2⟩
/-- an object that is there becomes frozen data -/
theorem Rep.adopt {F : Fm} {S : Sto} {H : Hp} (R : Rep F S H) {p : Addr} {o : HO} (hp : H p = some o) (gp : F.G p = none) (fp : F.free p) (nc : NoCell F S p) : Rep (F.add p o) S H ∧ Le F (F.add p o) := by
  have le := Fm.add_le (F := F) (o := o) gp fp
  refine ⟨⟨fun a u e => ?_, R.b, R.p, fun a xs e => ?_, R.len, fun n c a h e => ?_, R.inj⟩, le⟩
  · have e2 : upd F.G p o a = some u := e
    by_cases q : a = p
    · rw [q, upd_same] at e2
      rw [q, hp]
      exact e2
    · rw [upd_ne q] at e2
      exact R.g _ _ e2
  · show upd F.G p o a = _
    by_cases q : a = p
    · rw [q, upd_same, ← hp, ← q]
      exact e
    · rw [upd_ne q]
      exact R.tup _ _ e
  · obtain ⟨k1, k2⟩ := R.cell n c a h e
    refine ⟨k1.wk le.wk le.pf fun _ => rfl, fun l => ⟨?_, (k2 l).2⟩⟩
    show upd F.G p o a = none
    rw [upd_ne fun q => nc n c h l (by rw [← q]; exact e)]
    exact (k2 l).1
theorem lc_go {K : PySem.W.Frag} {it : DI} {g : DG} {c fe : DE} {vs : List Nat} {t : TG} {tt : TT} (hg : GW K t g vs) (hc : ∀ σ H Q, rdT K c σ H Q → tt σ H Q) {F : Fm} {S S2 : Sto} {H : Hp} {ρ : Ev} {σ : L2.St} {ys : List DV} {Q : VK}
    (hk : F.K = K) (R : Rep F S H) (rr : RelE F ρ σ) (hf : lcR it g c fe vs ρ S = some (ys, S2))
    (hq : ∀ F' H' D xs, Le F F' → Rep F' S2 H' → H' D = some (.lst xs) → RelL F' ys xs → F'.G D = none → F'.free D → NoCell F' S2 D → Q (.ref D) H') : tLc (rdI K it) t tt (rdE K fe) vs σ H Q := by
  unfold lcR at hf
  split at hf
  · rename_i ds S1 h1
    split at hf
    · rename_i ys' S2' h2
      obtain ⟨hsz, hf⟩ := of_ite hf
      cases hf
      refine ⟨F, S, ρ, ds, S1, hk, R, rr, h1, fun J F1 H1 le1 R1 wk D hD => ?_⟩
      have r1 := rr.le le1
      refine ⟨fun i m H => i ≤ ds.length ∧ m = ds.length - i ∧ ∃ F' S' acc accV rest, Le F1 F' ∧ Rep F' S' H ∧ H D = some (.lst accV) ∧ RelL F' acc accV ∧ F'.G D = none ∧ F'.free D ∧ NoCell F' S' D ∧ lcL g c fe (dwipe ρ vs) (ds.drop i) S' = some (rest, S2) ∧ ys = acc ++ rest,
        ⟨ds.length, Nat.zero_le _, rfl, F1, S1, [], [], ys, .refl F1, R1.beside hD (fun _ q => nomatch q), upd_same, rfl, R1.g.free hD, ⟨R1.b.free hD, R1.p.free hD⟩, R1.noCell hD, by rw [List.drop_zero]; exact h2, rfl⟩, ?_⟩
      rintro i m H ⟨hi, rfl, F', S', acc, accV, rest, le', R', eD, ra, gD, fD, nc, hl, ey⟩
      have Pw : Wk F' (F'.prot (upd F'.P D (.lst accV))) := ⟨rfl, Same.refl _, Same.refl _, List.prefix_refl _⟩
      have Rp : Rep (F'.prot (upd F'.P D (.lst accV))) S' H := by
        refine R'.prot (fun a o e => ?_) (fun a o u e => by
          show upd F'.P D (.lst accV) a = _
          rw [upd_ne fun q => by rw [q, fD.2] at e; cases e]
          exact e) fun n c a h l e => ?_
        · by_cases q : a = D
          · rw [q, upd_same] at e
            rw [q, eD]
            exact e
          · rw [upd_ne q] at e
            exact R'.p _ _ e
        · rw [upd_ne fun q => nc n c h l (by rw [← q]; exact e)]
          exact ((R'.cell n c a h e).2 l).2.2
      have wk1 : Wk F1 (F'.prot (upd F'.P D (.lst accV))) := ⟨le'.k, le'.wk.b, le'.g, le'.m⟩
      obtain ⟨w1, w2⟩ := wk i _ S' H wk1 (fun a o u e => by
        show upd F'.P D (.lst accV) a = _
        have e' : F'.P a = some (.frz o u) := by rw [le'.p]; exact e
        rw [upd_ne fun q => by rw [q, fD.2] at e'; cases e']
        exact e') Rp
      by_cases hlt : i < ds.length
      · refine .inr ?_
        obtain ⟨g1, g2⟩ := w2 _ (List.getElem?_eq_getElem hlt)
        rw [List.drop_eq_getElem_cons hlt] at hl
        unfold lcL at hl
        refine ⟨g1, fun H' => ∃ m', m' < ds.length - i ∧ (i + 1 ≤ ds.length ∧ m' = ds.length - (i + 1) ∧ ∃ F' S' acc accV rest, Le F1 F' ∧ Rep F' S' H' ∧ H' D = some (.lst accV) ∧ RelL F' acc accV ∧ F'.G D = none ∧ F'.free D ∧ NoCell F' S' D ∧ lcL g c fe (dwipe ρ vs) (ds.drop (i + 1)) S' = some (rest, S2) ∧ ys = acc ++ rest), fun _ z => z, fun x H2 y => ?_⟩
        obtain ⟨F2, le2, R2, rx⟩ := g2 x H2 y
        have rE2 : RelE F2 (dwipe ρ vs) (wipe σ vs) := relE_wipe ((r1.wk wk1).le le2) vs
        -- what is known behind any part of the turn
        have back : ∀ {F4 : Fm} {S4 : Sto} {H4 : Hp}, Le (F'.prot (upd F'.P D (.lst accV))) F4 → Rep F4 S4 H4 → H4 D = some (.lst accV) ∧ Le F1 (F4.prot F1.P) ∧ F4.G D = none ∧ F4.B D = none ∧ F1.P D = none ∧ NoCell F4 S4 D ∧ Rep (F4.prot F1.P) S4 H4 ∧ RelL F4 acc accV := fun {F4 S4 H4} le4 R4 => by
          have eP : F4.P = upd F'.P D (.lst accV) := le4.p
          have ePD : F4.P D = some (.lst accV) := by rw [eP, upd_same]
          have pp : F'.P = F1.P := le'.p
          have gD4 : F4.G D = none := by
            cases q : F4.G D with
            | none => rfl
            | some o =>
              rcases le4.n D o q with h | h
              · have h2 : F'.G D = some o := h
                rw [gD] at h2
                cases h2
              · have h2 : upd F'.P D (HO.lst accV) D = none := h.2
                rw [upd_same] at h2
                cases h2
          have pD : F1.P D = none := by rw [← pp]; exact fD.2
          have nc4 : NoCell F4 S4 D := fun n c h l e => by
            have h3 := ((R4.cell n c D h e).2 l).2.2
            rw [ePD] at h3
            cases h3
          refine ⟨R4.p _ _ ePD, ⟨le4.k.trans le'.k, le4.b.trans le'.b, rfl, le'.g.trans le4.g, fun a o e => ?_, le'.m.trans le4.m⟩, gD4, ?_, pD, nc4, ?_, RelL.wk (F := F') ?_ _ _ ra⟩
          · rcases le4.n a o e with h | h
            · exact le'.n a o h
            · right
              have h1 : F'.B a = none := h.1
              have h2 : upd F'.P D (HO.lst accV) a = none := h.2
              have h3 : F'.P a = none := by
                by_cases q : a = D
                · rw [q, upd_same] at h2
                  cases h2
                · rw [upd_ne q] at h2
                  exact h2
              exact ⟨by rw [← le'.b]; exact h1, by rw [← pp]; exact h3⟩
          · rw [le4.b]
            exact fD.1
          · refine R4.prot (fun a o e => ?_) (fun a o u e => by
              rw [eP] at e
              by_cases q : a = D
              · rw [q, upd_same] at e
                cases e
              · rw [upd_ne q, pp] at e
                exact e) fun n c a h l e => ?_
            · refine R4.p _ _ ?_
              rw [eP, upd_ne (fun q => by rw [q, pD] at e; cases e), pp]
              exact e
            · have h3 := ((R4.cell n c a h e).2 l).2.2
              rw [eP] at h3
              by_cases q : a = D
              · rw [q]
                exact pD
              · rw [upd_ne q, pp] at h3
                exact h3
          · exact ⟨le4.k, le4.wk.b, le4.g, le4.m⟩
        split at hl
        · rename_i ρ1 S3 hg1
          refine hg F2 S' H2 _ _ _ x ρ1 S3 _ (le2.k.trans (le'.k.trans (le1.k.trans hk))) R2 rE2 rx hg1 fun σ3 hS r3 w3 => ⟨w3.trans wipe_wipe, ?_⟩
          subst hS
          split at hl
          · rename_i S5 hc1
            refine hc _ _ _ (rdT.go (le2.k.trans (le'.k.trans (le1.k.trans hk))) R2 r3 hc1 fun F3 H3 le3 hk3 R3 r4 => ?_)
            rw [if_pos rfl]
            split at hl
            · rename_i y1 S6 he1
              split at hl
              · rename_i ys7 S7 hl7
                cases hl
                refine rdE.go hk3 R3 r4 he1 fun F4 H4 v le4 hk4 R4 r5 rv => ?_
                obtain ⟨b1, b2, b3, b4, b5, b6, b7, b8⟩ := back ((le2.trans le3).trans le4) R4
                have hlen := ra.length
                refine ⟨accV, b1, ?_, _, by omega, hlt, rfl, F4.prot F1.P, S6, acc ++ [y1], accV ++ [v], ys7, b2, b7.over b3 ⟨b4, b5⟩ b6 (fun _ q => nomatch q), upd_same, ?_, b3, ⟨b4, b5⟩, b6, hl7, by rw [ey, List.append_assoc] <;> rfl⟩
                · rw [ey] at hsz
                  simp at hsz
                  omega
                · exact RelL.wk (F := F4) (F' := F4.prot F1.P) (⟨rfl, Same.refl F4.B, Same.refl F4.G, List.prefix_refl F4.lm⟩ : Wk F4 (F4.prot F1.P)) _ _ (b8.append (RelL.cons rv rfl))
              · cases hl
            · cases hl
          · rename_i S5 hc1
            refine hc _ _ _ (rdT.go (le2.k.trans (le'.k.trans (le1.k.trans hk))) R2 r3 hc1 fun F3 H3 le3 hk3 R3 r4 => ?_)
            rw [if_neg Bool.false_ne_true]
            obtain ⟨b1, b2, b3, b4, b5, b6, b7, b8⟩ := back (le2.trans le3) R3
            exact ⟨_, by omega, hlt, rfl, F3.prot F1.P, S5, acc, accV, rest, b2, b7, b1, RelL.wk (F := F3) (F' := F3.prot F1.P) (⟨rfl, Same.refl F3.B, Same.refl F3.G, List.prefix_refl F3.lm⟩ : Wk F3 (F3.prot F1.P)) _ _ b8, b3, ⟨b4, b5⟩, b6, hl, ey⟩
          · cases hl
        · cases hl
      · have e : i = ds.length := by omega
        subst e
        rw [List.drop_length] at hl
        cases (show some (([] : List DV), S') = some (rest, S2) from hl)
        rw [List.append_nil] at ey
        subst ey
        exact .inl ⟨w1 rfl, hq F' H D accV (le1.trans le') R' eD ra gD fD nc⟩
    · cases hf
  · cases hf
theorem lc_own {K : PySem.W.Frag} {it : DI} {g : DG} {c fe : DE} {vs : List Nat} {t : TG} {tt : TT} (hg : GW K t g vs) (hc : ∀ σ H Q, rdT K c σ H Q → tt σ H Q) {F : Fm} {S S' : Sto} {H : Hp} {ρ : Ev} {σ : L2.St} {d : DV} {Q : VK}
    (hk : F.K = K) (R : Rep F S H) (rr : RelE F ρ σ) (hf : dLc it g c fe vs ρ S = some (d, S')) (hq : PostE F S' d Q) : tLc (rdI K it) t tt (rdE K fe) vs σ H Q := by
  unfold dLc at hf
  split at hf
  · rename_i ys S2 h
    cases hf
    refine lc_go hg hc hk R rr h fun F' H' D xs le R' eD r gD fD nc => ?_
    obtain ⟨R2, le2⟩ := R'.adopt eD gD fD nc
    exact hq _ _ _ (le.trans le2) R2 ⟨D, xs, rfl, upd_same, r.le le2⟩
  · cases hf
theorem lc_mut {K : PySem.W.Frag} {it : DI} {g : DG} {c fe : DE} {vs : List Nat} {t : TG} {tt : TT} (hg : GW K t g vs) (hc : ∀ σ H Q, rdT K c σ H Q → tt σ H Q) {F : Fm} {S S' : Sto} {H : Hp} {ρ : Ev} {σ : L2.St} {d : DV} {Q : VK}
    (hk : F.K = K) (R : Rep F S H) (rr : RelE F ρ σ) (hf : dLcM it g c fe vs ρ S = some (d, S')) (hq : PostE F S' d Q) : tLc (rdI K it) t tt (rdE K fe) vs σ H Q := by
  unfold dLcM at hf
  split at hf
  · rename_i ys S2 h
    cases hf
    refine lc_go hg hc hk R rr h fun F' H' D xs le R' eD r gD fD nc => ?_
    have R2 := R'.cell_new (c := .lst ys) ⟨xs, eD, r.le (F'.cell_le D)⟩ gD fD nc
    exact hq _ _ _ (le.trans (F'.cell_le D)) R2 ⟨D, by rw [← R'.len]; exact get_len _ _, rfl⟩
  · cases hf
theorem yes_of {K : PySem.W.Frag} : ∀ σ H Q, rdT K (dC (.bl true)) σ H Q → tYes σ H Q := fun σ H Q h => by
  obtain ⟨F, S, ρ, b, S', hk, R, rr, e, hq⟩ := h
  cases (show some (DV.bl true, S) = some (DV.bl b, S') from e)
  exact hq F H (.refl F) R
theorem same_of {K : PySem.W.Frag} {c : DE} : ∀ σ H Q, rdT K c σ H Q → rdT K c σ H Q := fun _ _ _ h => h
section
variable {X : Cx} {e : Expr} {st : Stmt} {it : DI} {g : DG} {c fe : DE} {vs : List Nat} {t : TG} {tt : TT}
theorem ed_lc (h : PE X e (tLc (rdI X.K it) t tt (rdE X.K fe) vs)) (hg : GW X.K t g vs) (hc : ∀ σ H Q, rdT X.K c σ H Q → tt σ H Q) : ED X e (dLc it g c fe vs) :=
  .of h fun F S H ρ σ d S' Q hk R rr hf hq => lc_own hg hc hk R rr hf hq
theorem ed_lcM (h : PE X e (tLc (rdI X.K it) t tt (rdE X.K fe) vs)) (hg : GW X.K t g vs) (hc : ∀ σ H Q, rdT X.K c σ H Q → tt σ H Q) : ED X e (dLcM it g c fe vs) :=
  .of h fun F S H ρ σ d S' Q hk R rr hf hq => lc_mut hg hc hk R rr hf hq
/-- name = [..] -/
theorem sd_setLc {i : Nat} (h : PS X st (tAsg (tLc (rdI X.K it) t tt (rdE X.K fe) vs) (gName i))) (hg : GW X.K t g vs) (hc : ∀ σ H Q, rdT X.K c σ H Q → tt σ H Q) : SD X st (dSet i (dLc it g c fe vs)) :=
  sd_set ⟨fun pins s σ H D I hw => h.run pins s σ H D I (by
    obtain ⟨F, S, ρ, d, S', hk, R, rr, hf, hq⟩ := hw
    exact lc_own hg hc hk R rr hf hq)⟩
end
end Dn

namespace Dn
open PySem PySem.Spec PyProof.Rows L2

/-! ### what a value holds -/
def asL (S : Sto) : DV → Option (List DV)
  | .lst _ ds => some ds
  | .loc n => match S[n]? with
    | some (.lst ds) => some ds
    | some (.frz (.lst _ ds)) => some ds
    | _ => none
  | _ => none
/-- a list that is tracked as such (not the script, not the module's own) -/
def asT (S : Sto) : DV → Option (List DV)
  | .lst .own ds => some ds
  | .lst .bor ds => some ds
  | .loc n => match S[n]? with
    | some (.lst ds) => some ds
    | some (.frz (.lst .own ds)) => some ds
    | _ => none
  | _ => none
section
variable {F : Fm} {S : Sto} {H : Hp} {d : DV} {v : V} {ds : List DV}
theorem Rel.lstSq {k : LK} (R : Rep F S H) (r : Rel F (.lst k ds) v) : ∃ a xs, v = .ref a ∧ SqL F.K H a xs ∧ RelL F ds xs := by
  cases k with
  | own =>
    obtain ⟨a, xs, rfl, h, rl⟩ := r
    exact ⟨a, xs, rfl, SqL.of (R.g _ _ h), rl⟩
  | bor =>
    obtain ⟨a, xs, rfl, h, rl⟩ := r
    exact ⟨a, xs, rfl, SqL.of (h.elim (R.b _ _) (R.g _ _)), rl⟩
  | ext =>
    obtain ⟨a, xs, rfl, h, rl⟩ := r
    exact ⟨a, xs, rfl, sqL_same R.g h, rl⟩
theorem asL_sq (R : Rep F S H) (r : Rel F d v) (h : asL S d = some ds) : ∃ a xs, v = .ref a ∧ SqL F.K H a xs ∧ RelL F ds xs := by
  cases d with
  | lst k es =>
    cases (show some es = some ds from h)
    exact r.lstSq R
  | loc n =>
    obtain ⟨a, ha, rfl⟩ := r
    unfold asL at h
    simp only at h
    split at h
    · rename_i es hc
      cases h
      obtain ⟨⟨xs, e, rl⟩, _⟩ := R.cell n _ a hc ha
      exact ⟨a, xs, rfl, SqL.of e, rl⟩
    · rename_i k es hc
      cases h
      obtain ⟨rl, _⟩ := R.cell n _ a hc ha
      exact (show Rel F (.lst k ds) (.ref a) from rl).lstSq R
    · cases h
  | _ => cases h
theorem asT_sq (R : Rep F S H) (r : Rel F d v) (h : asT S d = some ds) : ∃ a xs, v = .ref a ∧ H a = some (.lst xs) ∧ RelL F ds xs := by
  cases d with
  | lst k es =>
    cases k with
    | own =>
      cases (show some es = some ds from h)
      obtain ⟨a, xs, rfl, h, rl⟩ := r
      exact ⟨a, xs, rfl, R.g _ _ h, rl⟩
    | bor =>
      cases (show some es = some ds from h)
      obtain ⟨a, xs, rfl, h, rl⟩ := r
      exact ⟨a, xs, rfl, h.elim (R.b _ _) (R.g _ _), rl⟩
    | ext => cases h
  | loc n =>
    obtain ⟨a, ha, rfl⟩ := r
    unfold asT at h
    simp only at h
    split at h
    · rename_i es hc
      cases h
      obtain ⟨⟨xs, e, rl⟩, _⟩ := R.cell n _ a hc ha
      exact ⟨a, xs, rfl, e, rl⟩
    · rename_i es hc
      cases h
      obtain ⟨rl, _⟩ := R.cell n _ a hc ha
      obtain ⟨b, xs, e1, h, rl⟩ := (show Rel F (.lst .own ds) (.ref a) from rl)
      cases e1
      exact ⟨a, xs, rfl, R.g _ _ h, rl⟩
    · cases h
  | _ => cases h
theorem tup_sq (R : Rep F S H) (r : Rel F (.tup ds) v) : ∃ a xs, v = .ref a ∧ SqT F.K H a xs ∧ RelL F ds xs := by
  obtain ⟨a, xs, rfl, h, rl⟩ := r
  exact ⟨a, xs, rfl, SqT.of (R.g _ _ h), rl⟩
theorem tup_at (R : Rep F S H) (r : Rel F (.tup ds) v) : ∃ a xs, v = .ref a ∧ H a = some (.tup xs) ∧ RelL F ds xs := by
  obtain ⟨a, xs, rfl, h, rl⟩ := r
  exact ⟨a, xs, rfl, R.g _ _ h, rl⟩
theorem tupx_sq (R : Rep F S H) (r : Rel F (.tupx ds) v) : ∃ a xs, v = .ref a ∧ SqT F.K H a xs ∧ RelL F ds xs := by
  obtain ⟨a, xs, rfl, h, rl⟩ := r
  exact ⟨a, xs, rfl, sqT_same R.g h, rl⟩
end

/-! ### arithmetic -/
abbrev PI2 := Int → Int → Option Int
def pI (g : PI2) : P2 := fun x y S => match x, y with
  | .int i, .int j => (match g i j with
    | some k => some (.int k, S)
    | none => none)
  | _, _ => none
theorem ok_I {K : PySem.W.Frag} {C : Int → Int → Prop} {g : Int → Int → Int} {p : PI2} (h : ∀ i j k, p i j = some k → C i j ∧ k = g i j) : Ok2 K (pI p) (rI C fun i j => .int (g i j)) :=
  fun F S H x y vx vy d S' Q hk R rx ry hp hq => by
    unfold pI at hp
    split at hp
    · rename_i i j
      split at hp
      · rename_i k hk
        cases hp
        obtain ⟨hc, rfl⟩ := h _ _ _ hk
        exact ⟨i, j, rx, ry, hc, hq F H _ (.refl F) R rfl⟩
      · cases hp
    · cases hp
theorem ok_I0 {K : PySem.W.Frag} {g : Int → Int → Int} : Ok2 K (pI fun i j => some (g i j)) (rI0 fun i j => .int (g i j)) :=
  fun F S H x y vx vy d S' Q hk R rx ry hp hq => by
    unfold pI at hp
    split at hp
    · cases hp
      exact ⟨_, _, rx, ry, hq F H _ (.refl F) R rfl⟩
    · cases hp
def gSub : PI2 := fun i j => some (i - j)
def gMul : PI2 := fun i j => if (i.natAbs < 18446744073709551616 ∨ j.natAbs < 18446744073709551616) ∨ i.natAbs.log2 + j.natAbs.log2 < 1000000 then some (i * j) else none
def gDiv : PI2 := fun i j => if 0 < j ∧ j.natAbs.log2 < 9000 then some (i / j) else none
def gMod : PI2 := fun i j => if 0 < j then some (i % j) else none
def gPow : PI2 := fun i j => if 0 ≤ j ∧ j ≤ 1000000 ∧ i.natAbs < 18446744073709551616 then some (i ^ j.toNat) else none
def gShr : PI2 := fun i j => if 0 ≤ j then some (i / 2 ^ j.toNat) else none
def gAnd : PI2 := fun i j => some (Builtin.bitAnd i j)
def gOr : PI2 := fun i j => some (Builtin.bitOr i j)
def gXor : PI2 := fun i j => some (Builtin.bitXor i j)
abbrev pSub : P2 := pI gSub
abbrev pDiv : P2 := pI gDiv
abbrev pMod : P2 := pI gMod
abbrev pPow : P2 := pI gPow
abbrev pShr : P2 := pI gShr
abbrev pAnd : P2 := pI gAnd
abbrev pOr : P2 := pI gOr
abbrev pXor : P2 := pI gXor
theorem of_ite2 {α : Type} {c : Prop} [Decidable c] {x z : α} (h : (if c then some x else none) = some z) : c ∧ z = x := by
  obtain ⟨h1, h2⟩ := of_ite h
  exact ⟨h1, (Option.some.inj h2).symm⟩
section
variable {X : Cx} {a b : Expr} {f g : DE} {pos : Pos}
theorem ed_sub (ha : ED X a f) (hb : ED X b g) : ED X (.BinOp a .Sub b pos) (dBin pSub f g) := ed_bin op_sub ok_I0 ha hb
theorem ed_div (ha : ED X a f) (hb : ED X b g) : ED X (.BinOp a .FloorDiv b pos) (dBin pDiv f g) := ed_bin op_fdivW (ok_I fun i j k h => by unfold gDiv at h; have h2 := of_ite2 h; exact h2) ha hb
theorem ed_mod (ha : ED X a f) (hb : ED X b g) : ED X (.BinOp a .Mod b pos) (dBin pMod f g) := ed_bin op_mod (ok_I fun i j k h => by unfold gMod at h; have h2 := of_ite2 h; exact h2) ha hb
theorem ed_pow (ha : ED X a f) (hb : ED X b g) : ED X (.BinOp a .Pow b pos) (dBin pPow f g) := ed_bin op_pow (ok_I fun i j k h => by unfold gPow at h; have h2 := of_ite2 h; exact ⟨⟨h2.1.1, h2.1.2.1, by have := h2.1.2.2; omega⟩, h2.2⟩) ha hb
theorem ed_shr (ha : ED X a f) (hb : ED X b g) : ED X (.BinOp a .RShift b pos) (dBin pShr f g) := ed_bin op_shr (ok_I fun i j k h => by unfold gShr at h; have h2 := of_ite2 h; exact h2) ha hb
theorem ed_band (ha : ED X a f) (hb : ED X b g) : ED X (.BinOp a .BitAnd b pos) (dBin pAnd f g) := ed_bin op_and ok_I0 ha hb
theorem ed_bor (ha : ED X a f) (hb : ED X b g) : ED X (.BinOp a .BitOr b pos) (dBin pOr f g) := ed_bin op_or ok_I0 ha hb
theorem ed_bxor (ha : ED X a f) (hb : ED X b g) : ED X (.BinOp a .BitXor b pos) (dBin pXor f g) := ed_bin op_xor ok_I0 ha hb
def pNeg : P1 := fun x S => match x with
  | .int i => some (.int (-i), S)
  | _ => none
theorem ed_neg (ha : ED X a f) : ED X (.UnaryOp .USub a pos) (dUn pNeg f) := ed_un un_neg (fun F S H x vx d S' Q hk R rx hp hq => by
  unfold pNeg at hp
  split at hp
  · cases hp
    exact ⟨_, rx, hq F H _ (.refl F) R rfl⟩
  · cases hp) ha
end
/-! ### + and * over more kinds -/
def pAdd : P2 := fun x y S => match x, y with
  | .int i, .int j => some (.int (i + j), S)
  | .str a, .str b => if a.length + b.length ≤ sizeLine then some (.str (a ++ b), S) else none
  | .tup xs, .tup ys => if xs.length + ys.length ≤ sizeLine then some (.tup (xs ++ ys), S) else none
  | x, y => (match asT S x, asT S y with
    | some xs, some ys => if xs.length + ys.length ≤ sizeLine then some (.lst .own (xs ++ ys), S) else none
    | _, _ => none)
def pAddM : P2 := fun x y S => match asT S x, asT S y with
  | some xs, some ys => if xs.length + ys.length ≤ sizeLine then some (.loc S.length, S ++ [.lst (xs ++ ys)]) else none
  | _, _ => none
abbrev rAddAll (K : PySem.W.Frag) : R2 := fun x y H Q => (rI0 fun i j => .int (i + j)) x y H Q ∨ (fun x y H Q => (fun x y H Q => ∃ i j, x = .str i ∧ y = .str j ∧ i.length + j.length ≤ sizeLine ∧ Q (.str (i ++ j)) H) x y H Q ∨ (fun x y H Q => rCat x y H Q ∨ rCatA K x y H Q) x y H Q) x y H Q
theorem op_addAll {X : Cx} : OpR X (binaryOp .Add) (rAddAll X.K) := op_add.or (op_add_str.or (op_cat.or op_catA))
theorem ok_add {K : PySem.W.Frag} : Ok2 K pAdd (rAddAll K) := fun F S H x y vx vy d S' Q hk R rx ry hp hq => by
  unfold pAdd at hp
  split at hp
  · cases hp
    exact .inl ⟨_, _, rx, ry, hq F H _ (.refl F) R rfl⟩
  · obtain ⟨h1, h2⟩ := of_ite hp
    cases h2
    exact .inr (.inl ⟨_, _, rx, ry, h1, hq F H _ (.refl F) R rfl⟩)
  · rename_i xs ys
    obtain ⟨h1, h2⟩ := of_ite hp
    cases h2
    obtain ⟨a, us, rfl, sa, ra⟩ := tup_sq R rx
    obtain ⟨b, ws, rfl, sb, rb⟩ := tup_sq R ry
    rw [hk] at sa sb
    refine .inr (.inr (.inr ⟨a, b, us, ws, rfl, rfl, sa, sb, by rw [← ra.length, ← rb.length]; exact h1, fun e => ?_, fun n e => ?_, fun n1 n2 => new_tup R (ra.append rb) hq⟩))
    · have e2 : xs = [] := List.eq_nil_of_length_eq_zero (by rw [ra.length, e]; rfl)
      subst e2
      exact hq F H _ (.refl F) R ry
    · have e2 : ys = [] := List.eq_nil_of_length_eq_zero (by rw [rb.length, e]; rfl)
      subst e2
      rw [List.append_nil] at hq
      exact hq F H _ (.refl F) R rx
  · split at hp
    · rename_i xs ys h1 h2
      obtain ⟨h3, h4⟩ := of_ite hp
      cases h4
      obtain ⟨a, us, rfl, sa, ra⟩ := asT_sq R rx h1
      obtain ⟨b, ws, rfl, sb, rb⟩ := asT_sq R ry h2
      exact .inr (.inr (.inl ⟨a, b, us, ws, rfl, rfl, sa, sb, by rw [← ra.length, ← rb.length]; exact h3, new_lst R (ra.append rb) hq⟩))
    · cases hp
def repD (xs : List DV) (k : Nat) : List DV := (List.replicate k xs).flatten
def pMul : P2 := fun x y S => match x, y with
  | .int i, .int j => (match gMul i j with
    | some k => some (.int k, S)
    | none => none)
  | x, .int k => (match asT S x with
    | some xs => if k.natAbs < 9223372036854775808 ∧ xs.length * k.toNat ≤ sizeLine then some (.lst .own (repD xs k.toNat), S) else none
    | none => none)
  | _, _ => none
def pMulM : P2 := fun x y S => match y with
  | .int k => (match asT S x with
    | some xs => if k.natAbs < 9223372036854775808 ∧ xs.length * k.toNat ≤ sizeLine then some (.loc S.length, S ++ [.lst (repD xs k.toNat)]) else none
    | none => none)
  | _ => none
theorem RelL.rep {F : Fm} {ds : List DV} {vs : List V} (r : RelL F ds vs) : ∀ k : Nat, RelL F (repD ds k) (List.replicate k vs).flatten
  | 0 => rfl
  | k + 1 => by
    unfold repD
    rw [List.replicate_succ, List.replicate_succ, List.flatten_cons, List.flatten_cons]
    exact r.append (RelL.rep r k)
def CMulA (i j : Int) : Prop := CMul i j ∨ CMulW i j
theorem gMul_ok {i j : Int} (h : (i.natAbs < 18446744073709551616 ∨ j.natAbs < 18446744073709551616) ∨ i.natAbs.log2 + j.natAbs.log2 < 1000000) : CMulA i j := by
  rcases h with (h | h) | h
  · exact .inl (.inl ⟨by omega, by omega⟩)
  · exact .inl (.inr ⟨by omega, by omega⟩)
  · exact .inr h
theorem op_mulA {X : Cx} : OpR X (binaryOp .Mult) (rI CMulA fun i j => .int (i * j)) := opI fun _ _ _ _ _ _ _ hc q => mul_int q (hc.elim CMul.ok CMulW.ok)
abbrev rMulAll : R2 := fun x y H Q => (rI CMulA fun i j => .int (i * j)) x y H Q ∨ rRep x y H Q
theorem op_mulAll {X : Cx} : OpR X (binaryOp .Mult) rMulAll := op_mulA.or op_rep
theorem ok_mul {K : PySem.W.Frag} : Ok2 K pMul rMulAll := fun F S H x y vx vy d S' Q hk R rx ry hp hq => by
  unfold pMul at hp
  split at hp
  · unfold gMul at hp
    split at hp
    · rename_i k hg
      obtain ⟨h1, rfl⟩ := of_ite2 hg
      cases hp
      exact .inl ⟨_, _, rx, ry, gMul_ok h1, hq F H _ (.refl F) R rfl⟩
    · cases hp
  · split at hp
    · rename_i xs h1
      obtain ⟨⟨h2, h4⟩, h5⟩ := of_ite hp
      cases h5
      obtain ⟨a, us, rfl, sa, ra⟩ := asT_sq R rx h1
      have ey : vy = .int _ := ry
      refine .inr ⟨a, _, us, rfl, ey, sa, by omega, by omega, by rw [← ra.length]; exact h4, new_lst R (ra.rep _) hq⟩
    · cases hp
  · cases hp
theorem ok_mulM {K : PySem.W.Frag} : Ok2 K pMulM rRep := fun F S H x y vx vy d S' Q hk R rx ry hp hq => by
  unfold pMulM at hp
  split at hp
  · split at hp
    · rename_i xs h1
      obtain ⟨⟨h2, h4⟩, h5⟩ := of_ite hp
      cases h5
      obtain ⟨a, us, rfl, sa, ra⟩ := asT_sq R rx h1
      have ey : vy = .int _ := ry
      refine ⟨a, _, us, rfl, ey, sa, by omega, by omega, by rw [← ra.length]; exact h4, new_lstM R (ra.rep _) hq⟩
    · cases hp
  · cases hp

/-! ### == and != -/
mutual
def toPy : DV → Option PyData
  | .non => some .none
  | .bl b => some (.bool b)
  | .int i => some (.int i)
  | .str s => some (.str s)
  | .tup ds => match toPyL ds with
    | some es => some (.tuple es)
    | none => none
  | .lst _ ds => match toPyL ds with
    | some es => some (.list es)
    | none => none
  | _ => none
def toPyL : List DV → Option (List PyData)
  | [] => some []
  | d :: ds => match toPy d with
    | some e => (match toPyL ds with
      | some es => some (e :: es)
      | none => none)
    | none => none
end
mutual
theorem toPy_dp {F : Fm} {H : Hp} (hg : Same F.G H) (hb : Same F.B H) : ∀ (d : DV) (v : V) (e : PyData), Rel F d v → toPy d = some e → Dp F.K H v e
  | .non, v, e, r, h => by
    cases (show some PyData.none = some e from h)
    rw [show v = .non from r]
    exact .non
  | .bl b, v, e, r, h => by
    cases (show some (PyData.bool b) = some e from h)
    rw [show v = .bl b from r]
    exact .bl b
  | .int b, v, e, r, h => by
    cases (show some (PyData.int b) = some e from h)
    rw [show v = .int b from r]
    exact .int b
  | .str b, v, e, r, h => by
    cases (show some (PyData.str b) = some e from h)
    rw [show v = .str b from r]
    exact .str b
  | .tup ds, v, e, r, h => by
    unfold toPy at h
    split at h
    · rename_i es he
      cases h
      obtain ⟨a, xs, rfl, hs, rl⟩ := r
      exact .tup (SqT.of (hg _ _ hs)) (toPyL_dp hg hb ds xs es rl he)
    · cases h
  | .lst k ds, v, e, r, h => by
    unfold toPy at h
    split at h
    · rename_i es he
      cases h
      cases k with
      | own =>
        obtain ⟨a, xs, rfl, hs, rl⟩ := r
        exact .lst (SqL.of (hg _ _ hs)) (toPyL_dp hg hb ds xs es rl he)
      | bor =>
        obtain ⟨a, xs, rfl, hs, rl⟩ := r
        exact .lst (SqL.of (hs.elim (hb _ _) (hg _ _))) (toPyL_dp hg hb ds xs es rl he)
      | ext =>
        obtain ⟨a, xs, rfl, hs, rl⟩ := r
        exact .lst (sqL_same hg hs) (toPyL_dp hg hb ds xs es rl he)
    · cases h
  | .dik _ _ _, v, e, r, h => by cases (show none = some e from h)
  | .tupx _, v, e, r, h => by cases (show none = some e from h)
  | .dit _ _ _, v, e, r, h => by cases (show none = some e from h)
  | .loc _, v, e, r, h => by cases (show none = some e from h)
theorem toPyL_dp {F : Fm} {H : Hp} (hg : Same F.G H) (hb : Same F.B H) : ∀ (ds : List DV) (vs : List V) (es : List PyData), RelL F ds vs → toPyL ds = some es → DpAll F.K H vs es
  | [], vs, es, r, h => by
    cases (show some ([] : List PyData) = some es from h)
    rw [show vs = [] from r]
    exact .nil
  | d :: ds, vs, es, r, h => by
    obtain ⟨x, xr, rfl, h1, h2⟩ := r
    unfold toPyL at h
    split at h
    · rename_i e he
      split at h
      · rename_i es' hes
        cases h
        exact .cons (toPy_dp hg hb d x e h1 he) (toPyL_dp hg hb ds xr es' h2 hes)
      · cases h
    · cases h
end
def scD : DV → DV → Option Bool
  | .non, .non => some true
  | .non, .int _ => some false
  | .int _, .non => some false
  | .non, .str _ => some false
  | .str _, .non => some false
  | .non, .bl _ => some false
  | .bl _, .non => some false
  | .int i, .int j => some (decide (i = j))
  | .bl i, .bl j => some (decide (i = j))
  | .str i, .str j => some (decide (i = j))
  | .int _, .str _ => some false
  | .str _, .int _ => some false
  | .bl _, .str _ => some false
  | .str _, .bl _ => some false
  | _, _ => none
def eqDeep (S : Sto) (x y : DV) : Option Bool := match cpD true S x, cpD true S y with
  | some x', some y' => (match toPy x', toPy y' with
    | some d, some e => if SeqAt.shaped d = true ∧ SeqAt.shaped e = true then some (PyData.eqv d e) else none
    | _, _ => none)
  | _, _ => none
def eqD (S : Sto) (x y : DV) : Option Bool := match scD x y with
  | some b => some b
  | none => eqDeep S x y
def pEq (neg : Bool) : P2 := fun x y S => match eqD S x y with
  | some b => some (.bl (if neg then !b else b), S)
  | none => none
theorem scD_ok {F : Fm} {x y : DV} {vx vy : V} {b : Bool} (rx : Rel F x vx) (ry : Rel F y vy) (h : scD x y = some b) : scal vx vy = true ∧ decide (vx = vy) = b := by
  have g : ∀ {i j : Int}, decide (V.int i = V.int j) = decide (i = j) := fun {i j} => by
    by_cases q : i = j
    · rw [q, decide_eq_true rfl, decide_eq_true rfl]
    · rw [decide_eq_false q, decide_eq_false fun z => q (V.int.inj z)]
  have g2 : ∀ {i j : Bool}, decide (V.bl i = V.bl j) = decide (i = j) := fun {i j} => by
    by_cases q : i = j
    · rw [q, decide_eq_true rfl, decide_eq_true rfl]
    · rw [decide_eq_false q, decide_eq_false fun z => q (V.bl.inj z)]
  have g3 : ∀ {i j : Str}, decide (V.str i = V.str j) = decide (i = j) := fun {i j} => by
    by_cases q : i = j
    · rw [q, decide_eq_true rfl, decide_eq_true rfl]
    · rw [decide_eq_false q, decide_eq_false fun z => q (V.str.inj z)]
  cases x <;> cases y <;> first
    | (cases h; done)
    | (obtain rfl := (show vx = _ from rx)
       obtain rfl := (show vy = _ from ry)
       cases h
       first
        | exact ⟨rfl, rfl⟩
        | exact ⟨rfl, g⟩
        | exact ⟨rfl, g2⟩
        | exact ⟨rfl, g3⟩)
theorem eqDeep_ok {F : Fm} {S : Sto} {H : Hp} {x y : DV} {vx vy : V} {b : Bool} (R : Rep F S H) (rx : Rel F x vx) (ry : Rel F y vy) (h : eqDeep S x y = some b) : ∃ d e, Dp F.K H vx d ∧ Dp F.K H vy e ∧ SeqAt.shaped d = true ∧ SeqAt.shaped e = true ∧ b = PyData.eqv d e := by
  unfold eqDeep at h
  split at h
  · rename_i x' y' hx hy
    split at h
    · rename_i d e hd he
      obtain ⟨⟨s1, s2⟩, rfl⟩ := of_ite2 h
      have r1 : RelL ⟨F.K, F.G, H, fun _ => none, []⟩ [x'] [vx] := cpL_bor R (ds := [x]) (by unfold cpL mapDL mapDL; rw [show mapD true _ x = some x' from hx]) ⟨vx, [], rfl, rx, rfl⟩
      have r2 : RelL ⟨F.K, F.G, H, fun _ => none, []⟩ [y'] [vy] := cpL_bor R (ds := [y]) (by unfold cpL mapDL mapDL; rw [show mapD true _ y = some y' from hy]) ⟨vy, [], rfl, ry, rfl⟩
      obtain ⟨_, _, e1, r1, _⟩ := r1
      obtain ⟨_, _, e2, r2, _⟩ := r2
      cases e1
      cases e2
      exact ⟨d, e, toPy_dp (F := ⟨F.K, F.G, H, fun _ => none, []⟩) R.g (Same.refl _) x' vx d r1 hd, toPy_dp (F := ⟨F.K, F.G, H, fun _ => none, []⟩) R.g (Same.refl _) y' vy e r2 he, s1, s2, rfl⟩
    · cases h
  · cases h
abbrev rEqAll (K : PySem.W.Frag) : R2 := fun x y H Q => rEq x y H Q ∨ rEqD K x y H Q
abbrev rNeAll (K : PySem.W.Frag) : R2 := fun x y H Q => rNe x y H Q ∨ rNeD K x y H Q
theorem ok_eq {K : PySem.W.Frag} : Ok2 K (pEq false) (rEqAll K) := fun F S H x y vx vy d S' Q hk R rx ry hp hq => by
  unfold pEq at hp
  split at hp
  · rename_i b he
    cases hp
    unfold eqD at he
    split at he
    · rename_i b' hs
      cases he
      obtain ⟨h1, h2⟩ := scD_ok rx ry hs
      exact .inl ⟨h1, by rw [h2]; exact hq F H _ (.refl F) R rfl⟩
    · obtain ⟨d, e, h1, h2, h3, h4, rfl⟩ := eqDeep_ok R rx ry he
      rw [hk] at h1 h2
      exact .inr ⟨d, e, h1, h2, h3, h4, hq F H _ (.refl F) R rfl⟩
  · cases hp
theorem ok_ne {K : PySem.W.Frag} : Ok2 K (pEq true) (rNeAll K) := fun F S H x y vx vy d S' Q hk R rx ry hp hq => by
  unfold pEq at hp
  split at hp
  · rename_i b he
    cases hp
    unfold eqD at he
    split at he
    · rename_i b' hs
      cases he
      obtain ⟨h1, h2⟩ := scD_ok rx ry hs
      exact .inl ⟨h1, by rw [h2]; exact hq F H _ (.refl F) R rfl⟩
    · obtain ⟨d, e, h1, h2, h3, h4, rfl⟩ := eqDeep_ok R rx ry he
      rw [hk] at h1 h2
      exact .inr ⟨d, e, h1, h2, h3, h4, hq F H _ (.refl F) R rfl⟩
  · cases hp

/-! ### other comparisons -/
def pCmp (g : Int → Int → Bool) : P2 := fun x y S => match x, y with
  | .int i, .int j => some (.bl (g i j), S)
  | _, _ => none
abbrev pLt : P2 := pCmp fun i j => decide (i < j)
abbrev pLe : P2 := pCmp fun i j => decide (i ≤ j)
abbrev pGt : P2 := pCmp fun i j => decide (j < i)
abbrev pGe : P2 := pCmp fun i j => decide (j ≤ i)
theorem ok_cmp {K : PySem.W.Frag} {g : Int → Int → Bool} : Ok2 K (pCmp g) (rI0 fun i j => .bl (g i j)) := fun F S H x y vx vy d S' Q hk R rx ry hp hq => by
  unfold pCmp at hp
  split at hp
  · cases hp
    exact ⟨_, _, rx, ry, hq F H _ (.refl F) R rfl⟩
  · cases hp
def isNon : DV → Bool
  | .non => true
  | _ => false
def pIs (neg : Bool) : P2 := fun x y S => match y with
  | .non => some (.bl (if neg then !isNon x else isNon x), S)
  | _ => none
theorem isNon_ok {F : Fm} {x : DV} {v : V} (r : Rel F x v) : decide (v = .non) = isNon x := by
  cases x with
  | non =>
    obtain rfl := (show v = _ from r)
    exact decide_eq_true rfl
  | bl b =>
    obtain rfl := (show v = _ from r)
    exact decide_eq_false fun q => nomatch q
  | int b =>
    obtain rfl := (show v = _ from r)
    exact decide_eq_false fun q => nomatch q
  | str b =>
    obtain rfl := (show v = _ from r)
    exact decide_eq_false fun q => nomatch q
  | tup ds =>
    obtain ⟨a, xs, rfl, _⟩ := r
    exact decide_eq_false fun q => nomatch q
  | lst k ds =>
    cases k <;>
    · obtain ⟨a, xs, rfl, _⟩ := r
      exact decide_eq_false fun q => nomatch q
  | tupx ds =>
    obtain ⟨a, xs, rfl, _⟩ := r
    exact decide_eq_false fun q => nomatch q
  | dik k ks ds =>
    obtain ⟨a, xs, rfl, _⟩ := r
    exact decide_eq_false fun q => nomatch q
  | dit k ks ds =>
    obtain ⟨a, xs, rfl, _⟩ := r
    exact decide_eq_false fun q => nomatch q
  | loc n =>
    obtain ⟨a, _, rfl⟩ := r
    exact decide_eq_false fun q => nomatch q
theorem ok_is {K : PySem.W.Frag} : Ok2 K (pIs false) (fun x y H Q => y = .non ∧ Q (.bl (decide (x = .non))) H) := fun F S H x y vx vy d S' Q hk R rx ry hp hq => by
  unfold pIs at hp
  split at hp
  · cases hp
    exact ⟨ry, by rw [isNon_ok rx]; exact hq F H _ (.refl F) R rfl⟩
  · cases hp
theorem ok_isnot {K : PySem.W.Frag} : Ok2 K (pIs true) (fun x y H Q => y = .non ∧ Q (.bl (!decide (x = .non))) H) := fun F S H x y vx vy d S' Q hk R rx ry hp hq => by
  unfold pIs at hp
  split at hp
  · cases hp
    exact ⟨ry, by rw [isNon_ok rx]; exact hq F H _ (.refl F) R rfl⟩
  · cases hp
/-- flat values: as in «in» over a list or tuple -/
def flD : DV → Bool
  | .non => true
  | .bl _ => true
  | .int _ => true
  | .str _ => true
  | _ => false
def eqF : DV → DV → Bool
  | .non, .non => true
  | .bl a, .bl b => a == b
  | .int a, .int b => a == b
  | .str a, .str b => a == b
  | .bl a, .int b => (if a then 1 else 0) == b
  | .int a, .bl b => a == (if b then 1 else 0)
  | _, _ => false
end Dn

namespace Dn
open PySem PySem.Spec PyProof.Rows L2

theorem PE.or {X : Cx} {e : Expr} {t u : TE} (h : PE X e t) (k : PE X e u) : PE X e (fun σ H Q => t σ H Q ∨ u σ H Q) := ⟨fun pins s σ H Q I w => w.elim (h.run pins s σ H Q I) (k.run pins s σ H Q I)⟩
theorem PT.or {X : Cx} {e : Expr} {t u : TT} (h : PT X e t) (k : PT X e u) : PT X e (fun σ H Q => t σ H Q ∨ u σ H Q) := ⟨fun pins s σ H Q I w => w.elim (h.run pins s σ H Q I) (k.run pins s σ H Q I)⟩
theorem PI.or {X : Cx} {tg e : Expr} {t u : TI} (h : PI X tg e t) (k : PI X tg e u) : PI X tg e (fun σ H Q => t σ H Q ∨ u σ H Q) := ⟨fun pins s σ H Q I w => w.elim (h.run pins s σ H Q I) (k.run pins s σ H Q I)⟩

/-! ### flat data -/
theorem flD_ok {F : Fm} {x : DV} {v : V} (r : Rel F x v) (h : flD x = true) : flatV v = true ∧ ∀ {y : DV} {u : V}, Rel F y u → flD y = true → eqV v u = eqF x y := by
  cases x <;> first
    | (cases h; done)
    | (obtain rfl := (show v = _ from r)
       refine ⟨rfl, fun {y u} ry hy => ?_⟩
       cases y <;> first
        | (cases hy; done)
        | (obtain rfl := (show u = _ from ry)
           rfl))
def inD (x : DV) (ds : List DV) : Bool := ds.any fun y => eqF y x
theorem inD_ok {F : Fm} {x : DV} {v : V} (r : Rel F x v) (h : flD x = true) : ∀ {ds : List DV} {vs : List V}, RelL F ds vs → ds.all flD = true → vs.all flatV = true ∧ inV v vs = inD x ds
  | [], vs, rl, _ => by
    obtain rfl := (show vs = [] from rl)
    exact ⟨rfl, rfl⟩
  | d :: ds, vs, rl, ha => by
    obtain ⟨u, ur, rfl, h1, h2⟩ := rl
    rw [List.all_cons] at ha
    obtain ⟨k1, k2⟩ := Bool.and_eq_true_iff.mp ha
    obtain ⟨e1, e2⟩ := inD_ok r h h2 k2
    obtain ⟨f1, f2⟩ := flD_ok h1 k1
    refine ⟨by rw [List.all_cons, f1, e1] <;> rfl, ?_⟩
    have e2' : (ur.any fun y => eqV y v) = ds.any fun y => eqF y x := e2
    show ((u :: ur).any fun y => eqV y v) = (d :: ds).any fun y => eqF y x
    rw [List.any_cons, List.any_cons, f2 r h, e2']

/-! ### dicts -/
def asK (S : Sto) : DV → Option (List Key × List DV)
  | .dik _ ks ds => some (ks, ds)
  | .loc n => match S[n]? with
    | some (.dik ks ds) => some (ks, ds)
    | some (.frz (.dik _ ks ds)) => some (ks, ds)
    | some (.lok ks ds) => some (ks, ds)
    | _ => none
  | _ => none
/-- .. but not of one that is being walked -/
def asK0 (S : Sto) : DV → Option (List Key × List DV)
  | .dik _ ks ds => some (ks, ds)
  | .loc n => match S[n]? with
    | some (.dik ks ds) => some (ks, ds)
    | some (.frz (.dik _ ks ds)) => some (ks, ds)
    | _ => none
  | _ => none
def asKT (S : Sto) : DV → Option (List (List Key) × List DV)
  | .dit _ ks ds => some (ks, ds)
  | .loc n => match S[n]? with
    | some (.dit ks ds) => some (ks, ds)
    | some (.frz (.dit _ ks ds)) => some (ks, ds)
    | some (.lokt ks ds) => some (ks, ds)
    | _ => none
  | _ => none
def asKT0 (S : Sto) : DV → Option (List (List Key) × List DV)
  | .dit _ ks ds => some (ks, ds)
  | .loc n => match S[n]? with
    | some (.dit ks ds) => some (ks, ds)
    | some (.frz (.dit _ ks ds)) => some (ks, ds)
    | _ => none
  | _ => none
def keyD : DV → Option Key
  | .int i => some (.inl i)
  | .str s => some (.inr s)
  | _ => none
def keysD : List DV → Option (List Key)
  | [] => some []
  | d :: ds => match keyD d with
    | some k => (match keysD ds with
      | some ks => some (k :: ks)
      | none => none)
    | none => none
def keyT : DV → Option (List Key)
  | .tup ds => keysD ds
  | _ => none
def lkD {κ : Type} [DecidableEq κ] : List κ → List DV → κ → Option DV
  | k :: ks, d :: ds, j => if k = j then some d else lkD ks ds j
  | _, _, _ => none
def rpG {κ α : Type} [DecidableEq κ] (j : κ) (x : α) : List κ → List α → List α
  | k :: ks, d :: ds => (if k = j then x else d) :: rpG j x ks ds
  | _, _ => []
def hasK {κ : Type} [DecidableEq κ] (ks : List κ) (j : κ) : Bool := ks.any fun k => decide (k = j)
def putKs {κ : Type} [DecidableEq κ] (ks : List κ) (j : κ) : List κ := if hasK ks j = true then ks else ks ++ [j]
def putVs {κ : Type} [DecidableEq κ] (ks : List κ) (ds : List DV) (j : κ) (x : DV) : List DV := if hasK ks j = true then rpG j x ks ds else ds ++ [x]
section
variable {F : Fm} {S : Sto} {H : Hp} {d : DV} {v : V}
theorem asK_ok (R : Rep F S H) (r : Rel F d v) {ks : List Key} {ds : List DV} (h : asK S d = some (ks, ds)) : ∃ a xs, v = .ref a ∧ ks.length = ds.length ∧ Rd H a (.dK (ks.zip xs)) ∧ RelL F ds xs := by
  cases d with
  | dik k es fs =>
    cases (show some (es, fs) = some (ks, ds) from h)
    obtain ⟨a, xs, rfl, hz, h, rl⟩ := r
    exact ⟨a, xs, rfl, hz, .inl (h.elim (R.g _ _) fun h => R.b _ _ h.2), rl⟩
  | loc n =>
    obtain ⟨a, ha, rfl⟩ := r
    unfold asK at h
    simp only at h
    split at h
    · rename_i es fs hc
      cases h
      obtain ⟨⟨xs, hz, e, rl⟩, _⟩ := R.cell n _ a hc ha
      exact ⟨a, xs, rfl, hz, .inl e, rl⟩
    · rename_i k es fs hc
      cases h
      obtain ⟨rl, _⟩ := R.cell n _ a hc ha
      obtain ⟨b, xs, e1, hz, h, rl⟩ := (show Rel F (.dik k ks ds) (.ref a) from rl)
      cases e1
      exact ⟨a, xs, rfl, hz, .inl (h.elim (R.g _ _) fun h => R.b _ _ h.2), rl⟩
    · rename_i es fs hc
      cases h
      obtain ⟨⟨o, xs, hz, e, rl⟩, _⟩ := R.cell n _ a hc ha
      exact ⟨a, xs, rfl, hz, .inr ⟨o, R.p _ _ e⟩, rl⟩
    · cases h
  | _ => cases h
theorem asK0_ok (R : Rep F S H) (r : Rel F d v) {ks : List Key} {ds : List DV} (h : asK0 S d = some (ks, ds)) : ∃ a xs, v = .ref a ∧ ks.length = ds.length ∧ H a = some (.dK (ks.zip xs)) ∧ RelL F ds xs := by
  cases d with
  | dik k es fs =>
    cases (show some (es, fs) = some (ks, ds) from h)
    obtain ⟨a, xs, rfl, hz, h, rl⟩ := r
    exact ⟨a, xs, rfl, hz, h.elim (R.g _ _) fun h => R.b _ _ h.2, rl⟩
  | loc n =>
    obtain ⟨a, ha, rfl⟩ := r
    unfold asK0 at h
    simp only at h
    split at h
    · rename_i es fs hc
      cases h
      obtain ⟨⟨xs, hz, e, rl⟩, _⟩ := R.cell n _ a hc ha
      exact ⟨a, xs, rfl, hz, e, rl⟩
    · rename_i k es fs hc
      cases h
      obtain ⟨rl, _⟩ := R.cell n _ a hc ha
      obtain ⟨b, xs, e1, hz, h, rl⟩ := (show Rel F (.dik k ks ds) (.ref a) from rl)
      cases e1
      exact ⟨a, xs, rfl, hz, h.elim (R.g _ _) fun h => R.b _ _ h.2, rl⟩
    · cases h
  | _ => cases h
theorem asKT_ok (R : Rep F S H) (r : Rel F d v) {ks : List (List Key)} {ds : List DV} (h : asKT S d = some (ks, ds)) : ∃ a xs, v = .ref a ∧ ks.length = ds.length ∧ Rd H a (.dT (ks.zip xs)) ∧ RelL F ds xs := by
  cases d with
  | dit k es fs =>
    cases (show some (es, fs) = some (ks, ds) from h)
    obtain ⟨a, xs, rfl, hz, h, rl⟩ := r
    exact ⟨a, xs, rfl, hz, .inl (h.elim (R.g _ _) fun h => R.b _ _ h.2), rl⟩
  | loc n =>
    obtain ⟨a, ha, rfl⟩ := r
    unfold asKT at h
    simp only at h
    split at h
    · rename_i es fs hc
      cases h
      obtain ⟨⟨xs, hz, e, rl⟩, _⟩ := R.cell n _ a hc ha
      exact ⟨a, xs, rfl, hz, .inl e, rl⟩
    · rename_i k es fs hc
      cases h
      obtain ⟨rl, _⟩ := R.cell n _ a hc ha
      obtain ⟨b, xs, e1, hz, h, rl⟩ := (show Rel F (.dit k ks ds) (.ref a) from rl)
      cases e1
      exact ⟨a, xs, rfl, hz, .inl (h.elim (R.g _ _) fun h => R.b _ _ h.2), rl⟩
    · rename_i es fs hc
      cases h
      obtain ⟨⟨o, xs, hz, e, rl⟩, _⟩ := R.cell n _ a hc ha
      exact ⟨a, xs, rfl, hz, .inr ⟨o, R.p _ _ e⟩, rl⟩
    · cases h
  | _ => cases h
theorem asKT0_ok (R : Rep F S H) (r : Rel F d v) {ks : List (List Key)} {ds : List DV} (h : asKT0 S d = some (ks, ds)) : ∃ a xs, v = .ref a ∧ ks.length = ds.length ∧ H a = some (.dT (ks.zip xs)) ∧ RelL F ds xs := by
  cases d with
  | dit k es fs =>
    cases (show some (es, fs) = some (ks, ds) from h)
    obtain ⟨a, xs, rfl, hz, h, rl⟩ := r
    exact ⟨a, xs, rfl, hz, h.elim (R.g _ _) fun h => R.b _ _ h.2, rl⟩
  | loc n =>
    obtain ⟨a, ha, rfl⟩ := r
    unfold asKT0 at h
    simp only at h
    split at h
    · rename_i es fs hc
      cases h
      obtain ⟨⟨xs, hz, e, rl⟩, _⟩ := R.cell n _ a hc ha
      exact ⟨a, xs, rfl, hz, e, rl⟩
    · rename_i k es fs hc
      cases h
      obtain ⟨rl, _⟩ := R.cell n _ a hc ha
      obtain ⟨b, xs, e1, hz, h, rl⟩ := (show Rel F (.dit k ks ds) (.ref a) from rl)
      cases e1
      exact ⟨a, xs, rfl, hz, h.elim (R.g _ _) fun h => R.b _ _ h.2, rl⟩
    · cases h
  | _ => cases h
theorem keyD_ok {k : Key} (r : Rel F d v) (h : keyD d = some k) : v = kV k := by
  cases d <;> first
    | (cases h; done)
    | (cases h
       exact r)
theorem keysD_ok : ∀ {ds : List DV} {vs : List V} {ks : List Key}, RelL F ds vs → keysD ds = some ks → vs = ks.map kV
  | [], vs, ks, r, h => by
    cases (show some ([] : List Key) = some ks from h)
    exact r
  | d :: ds, vs, ks, r, h => by
    obtain ⟨x, xr, rfl, h1, h2⟩ := r
    unfold keysD at h
    split at h
    · rename_i k hk
      split at h
      · rename_i ks' hks
        cases h
        rw [keyD_ok h1 hk, keysD_ok h2 hks] <;> rfl
      · cases h
    · cases h
theorem lk_ok {κ : Type} [DecidableEq κ] (j : κ) : ∀ {ks : List κ} {ds : List DV} {xs : List V}, RelL F ds xs → (∀ {e : DV}, lkD ks ds j = some e → ∃ x, valV (ks.zip xs) j = some x ∧ Rel F e x) ∧ (ks.length = ds.length → lkD ks ds j = none → valV (ks.zip xs) j = none)
  | [], ds, xs, r => by
    refine ⟨fun {e} h => ?_, fun _ _ => ?_⟩
    · unfold lkD at h
      cases h
    · rw [List.zip_nil_left] <;> rfl
  | k :: ks, [], xs, r => by
    refine ⟨fun {e} h => ?_, fun h => ?_⟩
    · unfold lkD at h
      cases h
    · cases h
  | k :: ks, d :: ds, xs, r => by
    obtain ⟨x, xr, rfl, h1, h2⟩ := r
    obtain ⟨i1, i2⟩ := lk_ok j (ks := ks) h2
    rw [List.zip_cons_cons]
    by_cases q : k = j
    · refine ⟨fun {e} h => ?_, fun _ h => ?_⟩
      · unfold lkD at h
        rw [if_pos q] at h
        cases h
        exact ⟨x, valV_pos q, h1⟩
      · unfold lkD at h
        rw [if_pos q] at h
        cases h
    · refine ⟨fun {e} h => ?_, fun hl h => ?_⟩
      · unfold lkD at h
        rw [if_neg q] at h
        obtain ⟨y, y1, y2⟩ := i1 h
        exact ⟨y, by rw [valV_neg q]; exact y1, y2⟩
      · unfold lkD at h
        rw [if_neg q] at h
        rw [valV_neg q]
        exact i2 (Nat.succ.inj hl) h
end
/-- what a dict has for a key: none: this is no dict or no key -/
def getD (S : Sto) (x k : DV) : Option (Option DV) := match asK S x, keyD k with
  | some (ks, ds), some j => some (lkD ks ds j)
  | _, _ => (match asKT S x, keyT k with
    | some (ks, ds), some j => some (lkD ks ds j)
    | _, _ => none)
theorem getD_ok {F : Fm} {S : Sto} {H : Hp} {x k : DV} {vx vk : V} {o : Option DV} (R : Rep F S H) (rx : Rel F x vx) (rk : Rel F k vk) (h : getD S x k = some o) : ∃ a r, vx = .ref a ∧ DGet H a vk r ∧ (∀ {d}, o = some d → ∃ v, r = some v ∧ Rel F d v) ∧ (o = none → r = none) := by
  unfold getD at h
  split at h
  · rename_i ks ds j h1 h2
    cases h
    obtain ⟨a, xs, rfl, hz, e, rl⟩ := asK_ok R rx h1
    obtain rfl := keyD_ok rk h2
    obtain ⟨i1, i2⟩ := lk_ok (F := F) j (ks := ks) rl
    exact ⟨a, _, rfl, .inl ⟨_, _, e, rfl, rfl⟩, fun {d} q => i1 q, fun q => i2 hz q⟩
  · split at h
    · rename_i ks ds j h1 h2
      cases h
      obtain ⟨a, xs, rfl, hz, e, rl⟩ := asKT_ok R rx h1
      unfold keyT at h2
      split at h2
      · rename_i es
        obtain ⟨b, us, rfl, hH, rb⟩ := tup_at R rk
        obtain rfl := keysD_ok rb h2
        obtain ⟨i1, i2⟩ := lk_ok (F := F) j (ks := ks) rl
        exact ⟨a, _, rfl, .inr ⟨_, _, b, e, rfl, hH, rfl⟩, fun {d} q => i1 q, fun q => i2 hz q⟩
      · cases h2
    · cases h
end Dn

namespace Dn
open PySem PySem.Spec PyProof.Rows L2

/-! ### in, not in -/
def pIn (neg : Bool) : P2 := fun x y S => match y with
  | .str b => (match x with
    | .str a => (match a.cps.toList with
      | [c] => some (.bl (if neg then !decide (c ∈ b.cps.toList) else decide (c ∈ b.cps.toList)), S)
      | _ => none)
    | _ => none)
  | .tup ds => if flD x = true ∧ ds.all flD = true then some (.bl (if neg then !inD x ds else inD x ds), S) else none
  | .tupx ds => if flD x = true ∧ ds.all flD = true then some (.bl (if neg then !inD x ds else inD x ds), S) else none
  | y => (match asL S y with
    | some ds => if flD x = true ∧ ds.all flD = true then some (.bl (if neg then !inD x ds else inD x ds), S) else
      (match cpD true S x, cpL true S ds with
      | some x', some ds' => (match toPy x', toPyL ds' with
        | some d, some es => if SeqAt.shaped d = true ∧ SeqAt.shaped (.list es) = true then some (.bl (if neg then !es.any (fun z => PyData.eqv z d) else es.any (fun z => PyData.eqv z d)), S) else none
        | _, _ => none)
      | _, _ => none)
    | none => (match getD S y x with
      | some o => some (.bl (if neg then !o.isSome else o.isSome), S)
      | none => none))
abbrev rInSign (neg : Bool) : R2 := fun x y H Q => ∃ (c : Nat) (z : Str), x = .str ⟨#[c]⟩ ∧ y = .str z ∧ Q (.bl (if neg then !decide (c ∈ z.cps.toList) else decide (c ∈ z.cps.toList))) H
abbrev rInSeq3 (K : PySem.W.Frag) (neg : Bool) : R2 := fun x y H Q => rInSign neg x y H Q ∨ (fun x y H Q => rIn K neg x y H Q ∨ (fun x y H Q => ∃ d ds, Dp K H x d ∧ Dp K H y (.list ds) ∧ SeqAt.shaped d = true ∧ SeqAt.shaped (.list ds) = true ∧ Q (.bl (if neg then !ds.any (fun z => PyData.eqv z d) else ds.any fun z => PyData.eqv z d)) H) x y H Q) x y H Q
abbrev rDIn (neg : Bool) : R2 := fun y x H Q => ∃ a o, x = .ref a ∧ DGet H a y o ∧ Q (.bl (if neg then !o.isSome else o.isSome)) H
theorem str_one {a : Str} {c : Nat} (h : a.cps.toList = [c]) : a = ⟨#[c]⟩ := by
  apply TL.ext_tl
  exact h
theorem ok_in {K : PySem.W.Frag} {neg : Bool} : Ok2 K (pIn neg) (fun x y H Q => rInSeq3 K neg x y H Q ∨ rDIn neg x y H Q) := fun F S H x y vx vy d S' Q hk R rx ry hp hq => by
  unfold pIn at hp
  split at hp
  · rename_i b
    split at hp
    · rename_i a
      split at hp
      · rename_i c hc
        cases hp
        refine .inl (.inl ⟨c, b, ?_, ry, hq F H _ (.refl F) R rfl⟩)
        rw [show vx = .str a from rx, str_one hc]
      · cases hp
    · cases hp
  · rename_i ds
    obtain ⟨⟨h1, h2⟩, h3⟩ := of_ite hp
    cases h3
    obtain ⟨a, xs, rfl, hs, rl⟩ := tup_sq R ry
    rw [hk] at hs
    obtain ⟨e1, e2⟩ := inD_ok rx h1 rl h2
    exact .inl (.inr (.inl ⟨a, xs, rfl, .inr hs, (flD_ok rx h1).1, e1, by rw [e2]; exact hq F H _ (.refl F) R rfl⟩))
  · rename_i ds
    obtain ⟨⟨h1, h2⟩, h3⟩ := of_ite hp
    cases h3
    obtain ⟨a, xs, rfl, hs, rl⟩ := tupx_sq R ry
    rw [hk] at hs
    obtain ⟨e1, e2⟩ := inD_ok rx h1 rl h2
    exact .inl (.inr (.inl ⟨a, xs, rfl, .inr hs, (flD_ok rx h1).1, e1, by rw [e2]; exact hq F H _ (.refl F) R rfl⟩))
  · split at hp
    · rename_i ds hL
      obtain ⟨a, xs, rfl, hs, rl⟩ := asL_sq R ry hL
      split at hp
      · rename_i hfl
        cases hp
        rw [hk] at hs
        obtain ⟨e1, e2⟩ := inD_ok rx hfl.1 rl hfl.2
        exact .inl (.inr (.inl ⟨a, xs, rfl, .inl hs, (flD_ok rx hfl.1).1, e1, by rw [e2]; exact hq F H _ (.refl F) R rfl⟩))
      · split at hp
        · rename_i x' ds' hx hds
          split at hp
          · rename_i d0 es hd0 hes
            obtain ⟨⟨s1, s2⟩, h3⟩ := of_ite hp
            cases h3
            have r1 : RelL ⟨F.K, F.G, H, fun _ => none, []⟩ [x'] [vx] := cpL_bor R (ds := [x]) (by unfold cpL mapDL mapDL; rw [show mapD true _ x = some x' from hx]) ⟨vx, [], rfl, rx, rfl⟩
            obtain ⟨_, _, e1, r1, _⟩ := r1
            cases e1
            have r2 := cpL_bor R hds rl
            have d1 := toPy_dp (F := ⟨F.K, F.G, H, fun _ => none, []⟩) R.g (Same.refl _) x' vx d0 r1 hd0
            have d2 := toPyL_dp (F := ⟨F.K, F.G, H, fun _ => none, []⟩) R.g (Same.refl _) ds' xs es r2 hes
            have k1 : Dp K H vx d0 := by rw [← hk]; exact d1
            have k2 : DpAll K H xs es := by rw [← hk]; exact d2
            rw [hk] at hs
            exact .inl (.inr (.inr ⟨d0, es, k1, .lst hs k2, s1, s2, hq F H _ (.refl F) R rfl⟩))
          · cases hp
        · cases hp
    · split at hp
      · rename_i o ho
        cases hp
        obtain ⟨a, r, rfl, hg, i1, i2⟩ := getD_ok R ry rx ho
        refine .inr ⟨a, r, rfl, hg, ?_⟩
        have e : r.isSome = o.isSome := by
          cases o with
          | none => rw [i2 rfl] <;> rfl
          | some d =>
            obtain ⟨v, e1, _⟩ := i1 rfl
            rw [e1] <;> rfl
        rw [e]
        exact hq F H _ (.refl F) R rfl
      · cases hp
section
variable {X : Cx} {a b : Expr} {f g : DE} {pos : Pos}
theorem op_in3 (hu : X.A.units + 64 + 1 < cLine) : OpR X (compareOp .In) (rInSeq3 X.K false) := op_in_sign.or (op_in_seq.or (op_inD (by omega)))
theorem op_notin3 (hu : X.A.units + 64 + 1 < cLine) : OpR X (compareOp .NotIn) (rInSeq3 X.K true) := op_notIn_sign.or (op_notIn_seq.or (op_notInD (by omega)))
theorem op_dIn (hu : X.A.units + 1 < cLine) : OpR X (compareOp .In) (rDIn false) := fun pins s σ H x y v u Q I rx ry h => by
  obtain ⟨d, o, rfl, g, q⟩ := h
  obtain rfl : u = Value.ref d := ry
  exact d_in hu I g rx fun s' I' => ⟨.bl o.isSome, H, I', rfl, q⟩
theorem op_dNotIn (hu : X.A.units + 1 < cLine) : OpR X (compareOp .NotIn) (rDIn true) := fun pins s σ H x y v u Q I rx ry h => by
  obtain ⟨d, o, rfl, g, q⟩ := h
  obtain rfl : u = Value.ref d := ry
  exact d_notIn hu I g rx fun s' I' => ⟨.bl (!o.isSome), H, I', rfl, q⟩
theorem hu65 {k : Nat} {A : Around} (hr : Room k A) : A.units + 64 + 1 < cLine := by have := hr.un; omega
theorem hu1 {k : Nat} {A : Around} (hr : Room k A) : A.units + 1 < cLine := by have := hr.un; omega
theorem hu64 {k : Nat} {A : Around} (hr : Room k A) : A.units + 64 < cLine := by have := hr.un; omega
theorem td_in {k : Nat} (hr : Room k X.A) (ha : ED X a f) (hb : ED X b g) (hm : behindInMarks .In b = false) : TD X (.Compare a [.In] [b] pos) (dBin (pIn false) f g) := td_cmp ((op_in3 (hu65 hr)).or (op_dIn (hu1 hr))) ok_in ha hb hm
theorem td_notin {k : Nat} (hr : Room k X.A) (ha : ED X a f) (hb : ED X b g) (hm : behindInMarks .NotIn b = false) : TD X (.Compare a [.NotIn] [b] pos) (dBin (pIn true) f g) := td_cmp ((op_notin3 (hu65 hr)).or (op_dNotIn (hu1 hr))) ok_in ha hb hm
/-! comparisons in short -/
theorem ed_eq {k : Nat} (hr : Room k X.A) (ha : ED X a f) (hb : ED X b g) : ED X (.Compare a [.Eq] [b] pos) (dBin (pEq false) f g) := ed_cmp (op_eq.or (op_eqD (hu64 hr))) ok_eq ha hb (nomark _)
theorem td_eq {k : Nat} (hr : Room k X.A) (ha : ED X a f) (hb : ED X b g) : TD X (.Compare a [.Eq] [b] pos) (dBin (pEq false) f g) := td_cmp (op_eq.or (op_eqD (hu64 hr))) ok_eq ha hb (nomark _)
theorem td_ne {k : Nat} (hr : Room k X.A) (ha : ED X a f) (hb : ED X b g) : TD X (.Compare a [.NotEq] [b] pos) (dBin (pEq true) f g) := td_cmp (op_ne.or (op_neD (hu64 hr))) ok_ne ha hb (nomark _)
theorem ed_lt (ha : ED X a f) (hb : ED X b g) : ED X (.Compare a [.Lt] [b] pos) (dBin pLt f g) := ed_cmp op_lt ok_cmp ha hb (nomark _)
theorem td_lt (ha : ED X a f) (hb : ED X b g) : TD X (.Compare a [.Lt] [b] pos) (dBin pLt f g) := td_cmp op_lt ok_cmp ha hb (nomark _)
theorem td_gt (ha : ED X a f) (hb : ED X b g) : TD X (.Compare a [.Gt] [b] pos) (dBin pGt f g) := td_cmp op_gt ok_cmp ha hb (nomark _)
theorem td_is (ha : ED X a f) (hb : ED X b g) : TD X (.Compare a [.Is] [b] pos) (dBin (pIs false) f g) := td_cmp op_isN ok_is ha hb (nomark _)
theorem ed_isnot (ha : ED X a f) (hb : ED X b g) : ED X (.Compare a [.IsNot] [b] pos) (dBin (pIs true) f g) := ed_cmp op_notN ok_isnot ha hb (nomark _)
theorem ed_add (ha : ED X a f) (hb : ED X b g) : ED X (.BinOp a .Add b pos) (dBin pAdd f g) := ed_bin op_addAll ok_add ha hb
theorem ed_mul (ha : ED X a f) (hb : ED X b g) : ED X (.BinOp a .Mult b pos) (dBin pMul f g) := ed_bin op_mulAll ok_mul ha hb
theorem ed_mulM (ha : ED X a f) (hb : ED X b g) : ED X (.BinOp a .Mult b pos) (dBin pMulM f g) := ed_bin op_rep ok_mulM ha hb
end

/-! ### subscripts -/
def atD (ds : List DV) (i : Int) : Option DV := (ixN ds.length i).bind fun j => ds[j]?
theorem atD_ok {F : Fm} {ds : List DV} {xs : List V} {i : Int} {d : DV} (r : RelL F ds xs) (h : atD ds i = some d) : ∃ v, atI xs i = some v ∧ Rel F d v := by
  unfold atD at h
  unfold atI
  rw [← r.length]
  cases e : ixN ds.length i with
  | none =>
    rw [e] at h
    cases h
  | some j =>
    rw [e] at h
    exact r.get (i := j) h
def pIx : P2 := fun x y S => match y with
  | .int i => (match x with
    | .tup ds => (match atD ds i with
      | some d => some (d, S)
      | none => none)
    | .tupx ds => (match atD ds i with
      | some d => some (d, S)
      | none => none)
    | .str s => if s.length ≤ sizeLine then (match atI s.cps.toList i with
      | some c => some (.str ⟨#[c]⟩, S)
      | none => none) else none
    | x => (match asL S x with
      | some ds => (match atD ds i with
        | some d => some (d, S)
        | none => none)
      | none => (match getD S x y with
        | some (some d) => some (d, S)
        | _ => none)))
  | y => (match getD S x y with
    | some (some d) => some (d, S)
    | _ => none)
abbrev rDIx : R2 := fun x y H Q => ∃ a v, x = .ref a ∧ DGet H a y (some v) ∧ Q v H
theorem ix_dict {X : Cx} (hu : X.A.units + 1 < cLine) : IxR X rDIx := by
  intro value slice pins s σ H x y v u Q I rx ry h hs
  obtain ⟨a, z, rfl, g, q⟩ := h
  obtain rfl : v = Value.ref a := rx
  have hT := dict_typeIs I g
  have hget : wpAny (model X.prog X.w) X.A (getItem (.ref a) u) (EP X pins σ Q) X.xe s := d_getItem hu I g ry fun w' s3 I3 rw' => ⟨z, H, I3, rw', q⟩
  unfold subscriptTail
  refine wpAny_bind ?_
  rw [getitemInPython_of_ne hT.not_modules]
  refine wpAny_bind (wpAny_specialOf hT PySem.F.slot_dict_getitem.lookup ?_)
  have fin : wpAny (model X.prog X.w) X.A (subscripted slice false (.ref a) u) (fun r s₃ => wpAny (model X.prog X.w) X.A (letTemporaryGo value (.ref a) r >>= fun _ => pure r) (EP X pins σ Q) X.xe s₃) X.xe s := by
    rw [hs]
    exact wpAny_operating (wpAny_mono hget (fun r s₃ h₃ => wpAny_bind (wpAny_letTemporaryGo (wpAny_pure h₃))) fun _ _ x => x)
  first
    | exact wpAny_pure (wpAny_bind fin)
    | exact wpAny_bind (wpAny_pure (wpAny_bind fin))
    | exact wpAny_bind fin
theorem ok_ix {K : PySem.W.Frag} : Ok2 K pIx (fun x y H Q => rIx K x y H Q ∨ rDIx x y H Q) := fun F S H x y vx vy d S' Q hk R rx ry hp hq => by
  have dict : ∀ {o : Option DV}, getD S x y = some o → (∀ e, o = some e → e = d) → S' = S → o.isSome = true → rDIx vx vy H Q := fun {o} h1 h2 h3 h4 => by
    subst h3
    obtain ⟨a, r, rfl, hg, i1, _⟩ := getD_ok R rx ry h1
    cases o with
    | none => cases h4
    | some e =>
      obtain ⟨v, rfl, e2⟩ := i1 rfl
      have := h2 e rfl
      subst this
      exact ⟨a, v, rfl, hg, hq F H _ (.refl F) R e2⟩
  unfold pIx at hp
  split at hp
  · rename_i i
    split at hp
    · split at hp
      · rename_i e he
        cases hp
        obtain ⟨a, xs, rfl, hs, rl⟩ := tup_sq R rx
        rw [hk] at hs
        obtain ⟨v, e1, e2⟩ := atD_ok rl he
        exact .inl (.inr (.inl ⟨a, xs, i, v, rfl, ry, hs, e1, hq F H _ (.refl F) R e2⟩))
      · cases hp
    · split at hp
      · rename_i e he
        cases hp
        obtain ⟨a, xs, rfl, hs, rl⟩ := tupx_sq R rx
        rw [hk] at hs
        obtain ⟨v, e1, e2⟩ := atD_ok rl he
        exact .inl (.inr (.inl ⟨a, xs, i, v, rfl, ry, hs, e1, hq F H _ (.refl F) R e2⟩))
      · cases hp
    · obtain ⟨h1, hp⟩ := of_ite hp
      split at hp
      · rename_i c hc
        cases hp
        exact .inl (.inr (.inr ⟨_, i, c, rx, ry, h1, hc, hq F H _ (.refl F) R rfl⟩))
      · cases hp
    · split at hp
      · rename_i ds hL
        split at hp
        · rename_i e he
          cases hp
          obtain ⟨a, xs, rfl, hs, rl⟩ := asL_sq R rx hL
          rw [hk] at hs
          obtain ⟨v, e1, e2⟩ := atD_ok rl he
          exact .inl (.inl ⟨a, xs, i, v, rfl, ry, hs, e1, hq F H _ (.refl F) R e2⟩)
        · cases hp
      · split at hp
        · rename_i e he
          cases hp
          exact .inr (dict he (fun e q => (Option.some.inj q).symm) rfl rfl)
        · cases hp
  · split at hp
    · rename_i e he
      cases hp
      exact .inr (dict he (fun e q => (Option.some.inj q).symm) rfl rfl)
    · cases hp
section
variable {X : Cx} {a b e : Expr} {f g : DE} {pos : Pos}
theorem ed_ix {k : Nat} (hr : Room k X.A) (ha : ED X a f) (hb : ED X b g) (hs : PlainIx b) : ED X (.Subscript a b pos) (dBin pIx f g) :=
  .of (pe_ix (IxR.or ix_seq (ix_dict (hu1 hr))) ha.pe hb.pe hs) fun F S H ρ σ d S' Q hk R rr hf hq => bin_go ok_ix hk R rr hf hq

/-! ### slices -/
def cutD (ds : List DV) (lo hi : Option Int) : List DV := (ds.drop (HT.sIx ds.length 0 lo)).take (HT.sIx ds.length ds.length hi - HT.sIx ds.length 0 lo)
theorem cutD_ok {F : Fm} {ds : List DV} {xs : List V} {lo hi : Option Int} (r : RelL F ds xs) : RelL F (cutD ds lo hi) (cutV xs lo hi) := by
  unfold cutD cutV
  rw [r.length]
  exact (r.drop _).take _
abbrev DO := Ev → Sto → Option (Option Int × Sto)
def oNone : DO := fun _ S => some (none, S)
def oSome (f : DE) : DO := fun ρ S => match f ρ S with
  | some (.int i, S1) => some (some i, S1)
  | _ => none
structure OD (X : Cx) (e : Option Expr) (t : TO) (f : DO) : Prop where
  po : PO X e t
  go : ∀ F S H ρ σ o S' (Q : Option Int → Hp → Prop), F.K = X.K → Rep F S H → RelE F ρ σ → f ρ S = some (o, S') → (∀ F' H', Le F F' → F'.K = X.K → Rep F' S' H' → RelE F' ρ σ → Q o H') → t σ H Q
theorem od_none : OD X none tNoPart oNone := ⟨po_none, fun F S H ρ σ o S' Q hk R rr hf hq => by
  cases (show some ((none : Option Int), S) = some (o, S') from hf)
  exact hq F H (.refl F) hk R rr⟩
theorem od_some (h : ED X e f) : OD X (some e) (tPart (rdE X.K f)) (oSome f) := ⟨po_some h.pe, fun F S H ρ σ o S' Q hk R rr hf hq => by
  unfold oSome at hf
  split at hf
  · rename_i i S1 h1
    cases hf
    exact rdE.go hk R rr h1 fun F1 H1 v le hk1 R1 r1 rv => ⟨i, rv, hq F1 H1 le hk1 R1 r1⟩
  · cases hf⟩
def pSl (x : DV) (lo hi : Option Int) (S : Sto) : Option (DV × Sto) := match x with
  | .tup ds => some (.tup (cutD ds lo hi), S)
  | .str s => if s.length ≤ sizeLine then some (.str (cutS s lo hi), S) else none
  | x => (match asL S x with
    | some ds => some (.lst .own (cutD ds lo hi), S)
    | none => none)
def dSl (p : DV → Option Int → Option Int → Sto → Option (DV × Sto)) (f : DE) (lo hi : DO) : DE := fun ρ S => match f ρ S with
  | some (x, S1) => (match lo ρ S1 with
    | some (l, S2) => (match hi ρ S2 with
      | some (u, S3) => p x l u S3
      | none => none)
    | none => none)
  | none => none
def OkSl (K : PySem.W.Frag) (p : DV → Option Int → Option Int → Sto → Option (DV × Sto)) (r : V → Option Int → Option Int → Hp → VK → Prop) : Prop :=
  ∀ F S H x vx lo hi d S' Q, F.K = K → Rep F S H → Rel F x vx → p x lo hi S = some (d, S') → PostE F S' d Q → r vx lo hi H Q
theorem sl_go {K : PySem.W.Frag} {p : DV → Option Int → Option Int → Sto → Option (DV × Sto)} {r : V → Option Int → Option Int → Hp → VK → Prop} {lo hi : Option Expr} {tl th : TO} {l u : DO} (hp : OkSl X.K p r) (h1 : OD X lo tl l) (h2 : OD X hi th u) {F : Fm} {S S' : Sto} {H : Hp} {ρ : Ev} {σ : L2.St} {d : DV} {Q : VK}
    (hk : F.K = X.K) (R : Rep F S H) (rr : RelE F ρ σ) (hf : dSl p f l u ρ S = some (d, S')) (hq : PostE F S' d Q) : tSl r (rdE X.K f) tl th σ H Q := by
  unfold dSl at hf
  split at hf
  · rename_i x S1 e1
    split at hf
    · rename_i l1 S2 e2
      split at hf
      · rename_i u1 S3 e3
        exact rdE.go hk R rr e1 fun F1 H1 v le hk1 R1 r1 rv => h1.go F1 S1 H1 ρ σ l1 S2 _ hk1 R1 r1 e2 fun F2 H2 le2 hk2 R2 r2 => h2.go F2 S2 H2 ρ σ u1 S3 _ hk2 R2 r2 e3 fun F3 H3 le3 hk3 R3 r3 =>
          hp F3 S3 H3 x v l1 u1 d S' Q hk3 R3 (rv.le (le2.trans le3)) hf (hq.le ((le.trans le2).trans le3))
      · cases hf
    · cases hf
  · cases hf
theorem ok_sl {K : PySem.W.Frag} : OkSl K pSl (fun x lo hi H Q => rSlL K x lo hi H Q ∨ (fun x lo hi H Q => rSlA K x lo hi H Q ∨ rSlS x lo hi H Q) x lo hi H Q) := fun F S H x vx lo hi d S' Q hk R rx hp hq => by
  unfold pSl at hp
  split at hp
  · rename_i ds
    cases hp
    obtain ⟨a, xs, e, hs, rl⟩ := tup_sq R rx
    rw [hk] at hs
    refine .inr (.inl ⟨a, xs, e, hs, fun hw => ?_, fun _ => new_tup R (cutD_ok rl) hq⟩)
    refine hq F H _ (.refl F) R ?_
    have e2 : cutD ds lo hi = ds := by
      unfold cutD
      rw [rl.length, hw.1, hw.2]
      rw [List.drop_zero, Nat.sub_zero, ← rl.length, List.take_length]
    rw [e2, ← e]
    exact rx
  · obtain ⟨h1, h2⟩ := of_ite hp
    cases h2
    exact .inr (.inr ⟨_, rx, h1, hq F H _ (.refl F) R rfl⟩)
  · split at hp
    · rename_i ds hL
      cases hp
      obtain ⟨a, xs, rfl, hs, rl⟩ := asL_sq R rx hL
      rw [hk] at hs
      exact .inl ⟨a, xs, rfl, hs, new_lst R (cutD_ok rl) hq⟩
    · cases hp
theorem ed_sl {lo hi : Option Expr} {tl th : TO} {l u : DO} {p2 : Pos} (ha : ED X a f) (h1 : OD X lo tl l) (h2 : OD X hi th u) : ED X (.Subscript a (.Slice lo hi none p2) pos) (dSl pSl f l u) :=
  .of (pe_slice (sl_list.or (sl_tupA.or sl_str)) ha.pe h1.po h2.po) fun F S H ρ σ d S' Q hk R rr hf hq => sl_go (K := X.K) ok_sl h1 h2 hk R rr hf hq
end
end Dn

namespace Dn
open PySem PySem.Spec PyProof.Rows L2

/-! ### built-ins -/
def pLen : PL := fun xs S => match xs with
  | [.str s] => if s.length ≤ sizeLine then some (.int s.length, S) else none
  | [.tup ds] => some (.int ds.length, S)
  | [.tupx ds] => some (.int ds.length, S)
  | [x] => (match asL S x with
    | some ds => some (.int ds.length, S)
    | none => (match asK0 S x with
      | some (ks, _) => some (.int ks.length, S)
      | none => (match asKT0 S x with
        | some (ks, _) => some (.int ks.length, S)
        | none => none)))
  | _ => none
abbrev rLenAll (K : PySem.W.Frag) : List V → Hp → VK → Prop := fun xs H Q => (∃ x n, xs = [x] ∧ LenV K x H n ∧ Q (.int n) H) ∨ (fun xs H Q => (∃ a kvs, xs = [V.ref a] ∧ H a = some (.dK kvs) ∧ Q (.int kvs.length) H) ∨ rLenT xs H Q) xs H Q
theorem call_lenAll {X : Cx} : CallR X (.builtin "len") (rLenAll X.K) := call_len.or (call_lenD.or call_len_dT)
theorem ok_len {K : PySem.W.Frag} : OkL K pLen (rLenAll K) := fun F S H xs vs d S' Q hk R r hp hq => by
  unfold pLen at hp
  split at hp
  · rename_i s
    obtain ⟨h1, h2⟩ := of_ite hp
    cases h2
    obtain ⟨v, _, rfl, rv, e⟩ := r
    obtain rfl := (show _ = [] from e)
    exact .inl ⟨v, s.length, rfl, by rw [show v = .str s from rv]; exact ⟨h1, rfl⟩, hq F H _ (.refl F) R rfl⟩
  · rename_i ds
    cases hp
    obtain ⟨v, _, rfl, rv, e⟩ := r
    obtain rfl := (show _ = [] from e)
    obtain ⟨a, us, rfl, hs, rl⟩ := tup_sq R rv
    rw [hk] at hs
    exact .inl ⟨_, us.length, rfl, .inr ⟨us, hs, rfl⟩, by rw [← rl.length]; exact hq F H _ (.refl F) R rfl⟩
  · rename_i ds
    cases hp
    obtain ⟨v, _, rfl, rv, e⟩ := r
    obtain rfl := (show _ = [] from e)
    obtain ⟨a, us, rfl, hs, rl⟩ := tupx_sq R rv
    rw [hk] at hs
    exact .inl ⟨_, us.length, rfl, .inr ⟨us, hs, rfl⟩, by rw [← rl.length]; exact hq F H _ (.refl F) R rfl⟩
  · obtain ⟨v, _, rfl, rv, e⟩ := r
    obtain rfl := (show _ = [] from e)
    split at hp
    · rename_i ds hL
      cases hp
      obtain ⟨a, us, rfl, hs, rl⟩ := asL_sq R rv hL
      rw [hk] at hs
      exact .inl ⟨_, us.length, rfl, .inl ⟨us, hs, rfl⟩, by rw [← rl.length]; exact hq F H _ (.refl F) R rfl⟩
    · split at hp
      · rename_i ks ds hK
        cases hp
        obtain ⟨a, us, rfl, hz, hs, rl⟩ := asK0_ok R rv hK
        refine .inr (.inl ⟨a, _, rfl, hs, ?_⟩)
        have e : (ks.zip us).length = ks.length := by
          rw [List.length_zip, ← rl.length, hz, Nat.min_self]
        rw [e]
        exact hq F H _ (.refl F) R rfl
      · split at hp
        · rename_i ks ds hK
          cases hp
          obtain ⟨a, us, rfl, hz, hs, rl⟩ := asKT0_ok R rv hK
          refine .inr (.inr ⟨a, _, rfl, hs, ?_⟩)
          have e : (ks.zip us).length = ks.length := by
            rw [List.length_zip, ← rl.length, hz, Nat.min_self]
          rw [e]
          exact hq F H _ (.refl F) R rfl
        · cases hp
  · cases hp
/-- int(..) of an int, a truth, a text -/
def pInt : PL := fun xs S => match xs with
  | [.int i] => some (.int i, S)
  | [.bl b] => some (.int (if b then 1 else 0), S)
  | [.str a] => if a.length ≤ 640 then (match PySem.intText? a with
    | some n => some (.int n, S)
    | none => none) else none
  | _ => none
theorem rel1 {F : Fm} {d : DV} {v : V} (h : Rel F d v) : RelL F [d] [v] := ⟨v, [], rfl, h, rfl⟩
theorem one {F : Fm} {d : DV} {vs : List V} (r : RelL F [d] vs) : ∃ v, vs = [v] ∧ Rel F d v := by
  obtain ⟨v, _, rfl, rv, e⟩ := r
  obtain rfl := (show _ = [] from e)
  exact ⟨v, rfl, rv⟩
theorem two {F : Fm} {d e : DV} {vs : List V} (r : RelL F [d, e] vs) : ∃ v u, vs = [v, u] ∧ Rel F d v ∧ Rel F e u := by
  obtain ⟨v, _, rfl, rv, r⟩ := r
  obtain ⟨u, rfl, ru⟩ := one r
  exact ⟨v, u, rfl, rv, ru⟩
abbrev rIntAll : List V → Hp → VK → Prop := fun xs H Q => ((∃ i, xs = [.int i] ∧ Q (.int i) H) ∨ ∃ k, xs = [.bl k] ∧ Q (.int (if k then 1 else 0)) H) ∨ (∃ a n, xs = [.str a] ∧ PySem.intText? a = some n ∧ a.length ≤ 640 ∧ Q (.int n) H)
theorem call_intAll {X : Cx} : CallR X (.type "int") rIntAll := call_int1.or call_int_str
theorem ok_int {K : PySem.W.Frag} : OkL K pInt rIntAll := fun F S H xs vs d S' Q hk R r hp hq => by
  unfold pInt at hp
  split at hp
  · rename_i i
    cases hp
    obtain ⟨v, rfl, rv⟩ := one r
    obtain rfl := (show v = .int i from rv)
    exact .inl (.inl ⟨i, rfl, hq F H _ (.refl F) R rfl⟩)
  · rename_i b
    cases hp
    obtain ⟨v, rfl, rv⟩ := one r
    obtain rfl := (show v = .bl b from rv)
    exact .inl (.inr ⟨b, rfl, hq F H _ (.refl F) R rfl⟩)
  · rename_i a
    obtain ⟨h1, hp⟩ := of_ite hp
    split at hp
    · rename_i n hn
      cases hp
      obtain ⟨v, rfl, rv⟩ := one r
      obtain rfl := (show v = .str a from rv)
      exact .inr ⟨a, n, rfl, hn, h1, hq F H _ (.refl F) R rfl⟩
    · cases hp
  · cases hp
/-- list(..), tuple(..) -/
def kdv : Key → DV
  | .inl i => .int i
  | .inr s => .str s
theorem kdv_rel {F : Fm} : ∀ ks : List Key, RelL F (ks.map kdv) (ks.map kV)
  | [] => rfl
  | .inl i :: ks => ⟨_, _, rfl, rfl, kdv_rel ks⟩
  | .inr i :: ks => ⟨_, _, rfl, rfl, kdv_rel ks⟩
def itemsD (S : Sto) (x : DV) : Option (List DV) := match x with
  | .tup ds => some ds
  | .tupx ds => some ds
  | x => asL S x
def pList : PL := fun xs S => match xs with
  | [x] => (match itemsD S x with
    | some ds => some (.lst .own ds, S)
    | none => (match asK0 S x with
      | some (ks, _) => some (.lst .own (ks.map kdv), S)
      | none => (match asKT S x with
        | some (ks, _) => some (.lst .own (ks.map fun k => .tup (k.map kdv)), S)
        | none => none)))
  | _ => none
def pListM : PL := fun xs S => match xs with
  | [x] => (match itemsD S x with
    | some ds => some (.loc S.length, S ++ [.lst ds])
    | none => (match asK0 S x with
      | some (ks, _) => some (.loc S.length, S ++ [.lst (ks.map kdv)])
      | none => (match asKT S x with
        | some (ks, _) => some (.loc S.length, S ++ [.lst (ks.map fun k => .tup (k.map kdv))])
        | none => none)))
  | _ => none
def pTuple : PL := fun xs S => match xs with
  | [.tup ds] => some (.tup ds, S)
  | [x] => (match asL S x with
    | some ds => some (.tup ds, S)
    | none => none)
  | _ => none
theorem itemsD_sq {F : Fm} {S : Sto} {H : Hp} {x : DV} {v : V} {ds : List DV} (R : Rep F S H) (r : Rel F x v) (h : itemsD S x = some ds) : ∃ a xs, v = .ref a ∧ (SqL F.K H a xs ∨ SqT F.K H a xs) ∧ RelL F ds xs := by
  unfold itemsD at h
  split at h
  · cases h
    obtain ⟨a, us, rfl, hs, rl⟩ := tup_sq R r
    exact ⟨a, us, rfl, .inr hs, rl⟩
  · cases h
    obtain ⟨a, us, rfl, hs, rl⟩ := tupx_sq R r
    exact ⟨a, us, rfl, .inr hs, rl⟩
  · obtain ⟨a, us, rfl, hs, rl⟩ := asL_sq R r h
    exact ⟨a, us, rfl, .inl hs, rl⟩
abbrev rListAll (K : PySem.W.Frag) : List V → Hp → VK → Prop := fun xs H Q => ((∃ p ys, xs = [.ref p] ∧ (SqL K H p ys ∨ SqT K H p ys) ∧ ∀ l, H l = none → Q (.ref l) (upd H l (.lst ys))) ∨ rListD xs H Q) ∨ ∃ d kvs, xs = [V.ref d] ∧ Rd H d (.dT kvs) ∧ ∀ p bs, H p = none → IsKeys H kvs bs → Q (.ref p) (upd H p (.lst (bs.map V.ref)))
theorem call_listAll {X : Cx} (hc : X.calm = true) : CallR X (.type "list") (rListAll X.K) := (call_list_of.or (call_list_dK hc)).or (call_list_dT hc)
/-- a tuple that stands is data -/
theorem keys_rel {F : Fm} {S : Sto} {H : Hp} (R : Rep F S H) : ∀ {ks : List (List Key)} {us : List V} {bs : List Addr}, ks.length = us.length → IsKeys H (ks.zip us) bs → RelL F (ks.map fun k => DV.tup (k.map kdv)) (bs.map V.ref)
  | [], us, bs, _, h => by
    rw [List.zip_nil_left] at h
    cases h
    exact rfl
  | k :: ks, [], bs, hz, h => by cases hz
  | k :: ks, u :: us, bs, hz, h => by
    rw [List.zip_cons_cons] at h
    cases h with
    | cons h1 h2 => exact ⟨_, _, rfl, ⟨_, _, rfl, R.tup _ _ h1, kdv_rel k⟩, keys_rel R (Nat.succ.inj hz) h2⟩
theorem zip_keys {κ : Type} : ∀ {ks : List κ} {us : List V}, ks.length = us.length → (ks.zip us).map (·.1) = ks
  | [], _, _ => by rw [List.zip_nil_left] <;> rfl
  | k :: ks, [], h => by cases h
  | k :: ks, u :: us, h => by
    rw [List.zip_cons_cons, List.map_cons, zip_keys (Nat.succ.inj h)]
theorem ok_list {K : PySem.W.Frag} : OkL K pList (rListAll K) := fun F S H xs vs d S' Q hk R r hp hq => by
  unfold pList at hp
  split at hp
  · rename_i x
    obtain ⟨v, rfl, rv⟩ := one r
    split at hp
    · rename_i ds hL
      cases hp
      obtain ⟨a, us, rfl, hs, rl⟩ := itemsD_sq R rv hL
      rw [hk] at hs
      exact .inl (.inl ⟨a, us, rfl, hs, new_lst R rl hq⟩)
    · split at hp
      · rename_i ks ds hK
        cases hp
        obtain ⟨a, us, rfl, hz, hs, rl⟩ := asK0_ok R rv hK
        refine .inl (.inr ⟨a, _, rfl, hs, ?_⟩)
        have e : (ks.zip us).map (fun kv => kV kv.1) = ks.map kV := by
          have := zip_keys (ks := ks) (us := us) (hz.trans rl.length)
          rw [← this, List.map_map, this] <;> rfl
        rw [e]
        exact new_lst R (kdv_rel ks) hq
      · split at hp
        · rename_i ks ds hK
          cases hp
          obtain ⟨a, us, rfl, hz, hs, rl⟩ := asKT_ok R rv hK
          exact .inr ⟨a, _, rfl, hs, fun p bs hp hk => new_lst R (keys_rel R (hz.trans rl.length) hk) hq p hp⟩
        · cases hp
  · cases hp
theorem ok_listM {K : PySem.W.Frag} : OkL K pListM (rListAll K) := fun F S H xs vs d S' Q hk R r hp hq => by
  unfold pListM at hp
  split at hp
  · rename_i x
    obtain ⟨v, rfl, rv⟩ := one r
    split at hp
    · rename_i ds hL
      cases hp
      obtain ⟨a, us, rfl, hs, rl⟩ := itemsD_sq R rv hL
      rw [hk] at hs
      exact .inl (.inl ⟨a, us, rfl, hs, new_lstM R rl hq⟩)
    · split at hp
      · rename_i ks ds hK
        cases hp
        obtain ⟨a, us, rfl, hz, hs, rl⟩ := asK0_ok R rv hK
        refine .inl (.inr ⟨a, _, rfl, hs, ?_⟩)
        have e : (ks.zip us).map (fun kv => kV kv.1) = ks.map kV := by
          have := zip_keys (ks := ks) (us := us) (hz.trans rl.length)
          rw [← this, List.map_map, this] <;> rfl
        rw [e]
        exact new_lstM R (kdv_rel ks) hq
      · split at hp
        · rename_i ks ds hK
          cases hp
          obtain ⟨a, us, rfl, hz, hs, rl⟩ := asKT_ok R rv hK
          exact .inr ⟨a, _, rfl, hs, fun p bs hp hk => new_lstM R (keys_rel R (hz.trans rl.length) hk) hq p hp⟩
        · cases hp
  · cases hp
abbrev rTupAll (K : PySem.W.Frag) : List V → Hp → VK → Prop := fun xs H Q => ∃ p ys, xs = [.ref p] ∧ ((SqL K H p ys ∧ ∀ l, H l = none → Q (.ref l) (upd H l (.tup ys))) ∨ (SqT K H p ys ∧ Q (.ref p) H))
theorem ok_tuple {K : PySem.W.Frag} : OkL K pTuple (rTupAll K) := fun F S H xs vs d S' Q hk R r hp hq => by
  unfold pTuple at hp
  split at hp
  · rename_i ds
    cases hp
    obtain ⟨v, rfl, rv⟩ := one r
    obtain ⟨a, us, e, hs, rl⟩ := tup_sq R rv
    rw [hk] at hs
    exact ⟨a, us, by rw [e], .inr ⟨hs, by rw [← e]; exact hq F H _ (.refl F) R rv⟩⟩
  · obtain ⟨v, rfl, rv⟩ := one r
    split at hp
    · rename_i ds hL
      cases hp
      obtain ⟨a, us, rfl, hs, rl⟩ := asL_sq R rv hL
      rw [hk] at hs
      exact ⟨a, us, rfl, .inl ⟨hs, new_tup R rl hq⟩⟩
    · cases hp
  · cases hp
/-! isinstance(x, T), T a built-in class -/
inductive Ty7 where
  | non | bool | int | str | list | tuple | dict
  deriving DecidableEq
def Ty7.name : Ty7 → String
  | .non => "NoneType"
  | .bool => "bool"
  | .int => "int"
  | .str => "str"
  | .list => "list"
  | .tuple => "tuple"
  | .dict => "dict"
def isT : Ty7 → Ty7 → Bool
  | .bool, .int => true
  | a, b => decide (a = b)
theorem isT_ok : ∀ a b : Ty7, b ≠ .non → kitB a.name b.name = some (isT a b) := by
  intro a b h
  cases a <;> cases b <;> first | exact absurd rfl h | rfl | decide +kernel
def tyD (S : Sto) : DV → Option Ty7
  | .non => some .non
  | .bl _ => some .bool
  | .int _ => some .int
  | .str _ => some .str
  | .tup _ => some .tuple
  | .lst .own _ => some .list
  | .lst .bor _ => some .list
  | .dik _ _ _ => some .dict
  | .dit _ _ _ => some .dict
  | .loc n => match S[n]? with
    | some (.lst _) => some .list
    | some (.dik _ _) => some .dict
    | some (.dit _ _) => some .dict
    | some (.frz (.lst .own _)) => some .list
    | _ => none
  | _ => none
theorem tyD_ok {F : Fm} {S : Sto} {H : Hp} {d : DV} {v : V} {t : Ty7} (R : Rep F S H) (r : Rel F d v) (h : tyD S d = some t) : TyX F.K H v (.type t.name) := by
  cases d with
  | non =>
    cases h
    obtain rfl := (show v = _ from r)
    exact .base .non
  | bl b =>
    cases h
    obtain rfl := (show v = _ from r)
    exact .base (.bl b)
  | int b =>
    cases h
    obtain rfl := (show v = _ from r)
    exact .base (.int b)
  | str b =>
    cases h
    obtain rfl := (show v = _ from r)
    exact .base (.str b)
  | tup ds =>
    cases h
    obtain ⟨a, xs, rfl, hs, _⟩ := tup_at R r
    exact .base (.tup hs)
  | tupx ds => cases h
  | lst k ds =>
    cases k with
    | own =>
      cases h
      obtain ⟨a, xs, rfl, hs, _⟩ := r
      exact .base (.lst (R.g _ _ hs))
    | bor =>
      cases h
      obtain ⟨a, xs, rfl, hs, _⟩ := r
      exact .base (.lst (hs.elim (R.b _ _) (R.g _ _)))
    | ext => cases h
  | dik k ks ds =>
    cases h
    obtain ⟨a, xs, rfl, _, hs, _⟩ := r
    exact .base (.dK (hs.elim (R.g _ _) fun h => R.b _ _ h.2))
  | dit k ks ds =>
    cases h
    obtain ⟨a, xs, rfl, _, hs, _⟩ := r
    exact .base (.dT (hs.elim (R.g _ _) fun h => R.b _ _ h.2))
  | loc n =>
    obtain ⟨a, ha, rfl⟩ := r
    unfold tyD at h
    simp only at h
    split at h
    · rename_i es hc
      cases h
      obtain ⟨⟨xs, e, rl⟩, _⟩ := R.cell n _ a hc ha
      exact .base (.lst e)
    · rename_i es fs hc
      cases h
      obtain ⟨⟨xs, hz, e, rl⟩, _⟩ := R.cell n _ a hc ha
      exact .base (.dK e)
    · rename_i es fs hc
      cases h
      obtain ⟨⟨xs, hz, e, rl⟩, _⟩ := R.cell n _ a hc ha
      exact .base (.dT e)
    · rename_i es hc
      cases h
      obtain ⟨rl, _⟩ := R.cell n _ a hc ha
      obtain ⟨b, xs, e1, hs, _⟩ := (show Rel F (.lst .own es) (.ref a) from rl)
      cases e1
      exact .base (.lst (R.g _ _ hs))
    · cases h
def dIsi (T : Ty7) (f : DE) : DE := fun ρ S => match f ρ S with
  | some (x, S1) => (match tyD S1 x with
    | some t => some (.bl (isT t T), S1)
    | none => none)
  | none => none
section
variable {X : Cx} {e a b : Expr} {f g : DE} {pos : Pos}
theorem isi_go {T : Ty7} (hT : T ≠ .non) {F : Fm} {S S' : Sto} {H : Hp} {ρ : Ev} {σ : L2.St} {d : DV} {Q : VK} (hk : F.K = X.K) (R : Rep F S H) (rr : RelE F ρ σ) (hf : dIsi T f ρ S = some (d, S')) (hq : PostE F S' d Q) :
    tCB (rIsi X.K) (tCons (rdE X.K f) (tCons (tC (.ty T.name)) tNil)) σ H Q := by
  unfold dIsi at hf
  split at hf
  · rename_i x S1 h1
    split at hf
    · rename_i t ht
      cases hf
      refine rdE.go hk R rr h1 fun F1 H1 v le hk1 R1 r1 rv => ?_
      have ty := tyD_ok R1 rv ht
      rw [hk1] at ty
      exact ⟨v, .ty T.name, .type t.name, .type T.name, isT t T, rfl, .ty _, ty, kit_ty (isT_ok t T hT), hq F1 H1 _ le R1 rfl⟩
    · cases hf
  · cases hf
theorem ed_isi {T : Ty7} (hT : T ≠ .non) (ha : ED X a f) (h : ∀ {t : TE}, PE X a t → PE X e (tCB (rIsi X.K) (tCons t (tCons (tC (.ty T.name)) tNil)))) : ED X e (dIsi T f) :=
  .of (h ha.pe) fun F S H ρ σ d S' Q hk R rr hf hq => isi_go hT hk R rr hf hq
end
/-! min, max, sum, any, all -/
def intsD : List DV → Option (List Int)
  | [] => some []
  | .int i :: ds => (match intsD ds with
    | some is => some (i :: is)
    | none => none)
  | _ => none
def strsD : List DV → Option (List Str)
  | [] => some []
  | .str i :: ds => (match strsD ds with
    | some is => some (i :: is)
    | none => none)
  | _ => none
theorem intsD_ok {F : Fm} : ∀ {ds : List DV} {vs : List V} {is : List Int}, RelL F ds vs → intsD ds = some is → vs = is.map V.int
  | [], vs, is, r, h => by
    cases (show some ([] : List Int) = some is from h)
    exact r
  | d :: ds, vs, is, r, h => by
    unfold intsD at h
    split at h
    · rename_i e
      cases e
    · rename_i i ds' e
      cases e
      split at h
      · rename_i js hj
        cases h
        obtain ⟨x, xr, rfl, h1, h2⟩ := r
        rw [intsD_ok h2 hj, show x = .int i from h1] <;> rfl
      · cases h
    · cases h
theorem strsD_ok {F : Fm} : ∀ {ds : List DV} {vs : List V} {is : List Str}, RelL F ds vs → strsD ds = some is → vs = is.map V.str
  | [], vs, is, r, h => by
    cases (show some ([] : List Str) = some is from h)
    exact r
  | d :: ds, vs, is, r, h => by
    unfold strsD at h
    split at h
    · rename_i e
      cases e
    · rename_i i ds' e
      cases e
      split at h
      · rename_i js hj
        cases h
        obtain ⟨x, xr, rfl, h1, h2⟩ := r
        rw [strsD_ok h2 hj, show x = .str i from h1] <;> rfl
      · cases h
    · cases h
def minI : List Int → Option Int
  | [] => none
  | [i] => some i
  | i :: is => match minI is with
    | some j => some (if i ≤ j then i else j)
    | none => none
theorem minI_ok : ∀ {is : List Int} {m : Int}, minI is = some m → m ∈ is ∧ ∀ y ∈ is, m ≤ y
  | [], m, h => by cases h
  | [i], m, h => by
    cases h
    exact ⟨List.mem_singleton.mpr rfl, fun y hy => by rw [List.mem_singleton.mp hy]; exact Int.le_refl _⟩
  | i :: j :: is, m, h => by
    unfold minI at h
    split at h
    · rename_i k hk
      cases h
      obtain ⟨h1, h2⟩ := minI_ok hk
      split
      · rename_i hle
        refine ⟨List.mem_cons_self, fun y hy => ?_⟩
        rcases List.mem_cons.mp hy with rfl | hy
        · exact Int.le_refl _
        · exact Int.le_trans hle (h2 y hy)
      · rename_i hle
        refine ⟨List.mem_cons_of_mem _ h1, fun y hy => ?_⟩
        rcases List.mem_cons.mp hy with rfl | hy
        · omega
        · exact h2 y hy
    · cases h
def pMin : PL := fun xs S => match xs with
  | [.int i, .int j] => some (.int (if j < i then j else i), S)
  | [x] => (match asL S x with
    | some ds => (match intsD ds with
      | some is => (match minI is with
        | some m => some (.int m, S)
        | none => none)
      | none => none)
    | none => none)
  | _ => none
abbrev rMinAll (K : PySem.W.Frag) : List V → Hp → VK → Prop := fun xs H Q => (∃ i j : Int, xs = [.int i, .int j] ∧ Q (.int (if j < i then j else i)) H) ∨ rMin K xs H Q
theorem call_minAll {X : Cx} (hc : X.calm = true) : CallR X (.builtin "min") (rMinAll X.K) := (call_min2 hc).or (cr_min hc)
theorem ok_min {K : PySem.W.Frag} : OkL K pMin (rMinAll K) := fun F S H xs vs d S' Q hk R r hp hq => by
  unfold pMin at hp
  split at hp
  · rename_i i j
    cases hp
    obtain ⟨v, u, rfl, rv, ru⟩ := two r
    obtain rfl := (show v = .int i from rv)
    obtain rfl := (show u = .int j from ru)
    exact .inl ⟨i, j, rfl, hq F H _ (.refl F) R rfl⟩
  · obtain ⟨v, rfl, rv⟩ := one r
    split at hp
    · rename_i ds hL
      split at hp
      · rename_i is his
        split at hp
        · rename_i m hm
          cases hp
          obtain ⟨a, us, rfl, hs, rl⟩ := asL_sq R rv hL
          rw [hk] at hs
          obtain rfl := intsD_ok rl his
          obtain ⟨m1, m2⟩ := minI_ok hm
          refine .inr ⟨a, is, rfl, hs, List.length_pos_iff.mpr (List.ne_nil_of_mem m1), fun m' h1 h2 => ?_⟩
          have e : m' = m := Int.le_antisymm (h2 _ m1) (m2 _ h1)
          rw [e]
          exact hq F H _ (.refl F) R rfl
        · cases hp
      · cases hp
    · cases hp
  · cases hp
def pSum : PL := fun xs S => match xs with
  | [x] => (match asL S x with
    | some ds => (match intsD ds with
      | some is => some (.int is.sum, S)
      | none => none)
    | none => none)
  | _ => none
theorem ok_sum {K : PySem.W.Frag} : OkL K pSum (rSum K) := fun F S H xs vs d S' Q hk R r hp hq => by
  unfold pSum at hp
  split at hp
  · obtain ⟨v, rfl, rv⟩ := one r
    split at hp
    · rename_i ds hL
      split at hp
      · rename_i is his
        cases hp
        obtain ⟨a, us, rfl, hs, rl⟩ := asL_sq R rv hL
        rw [hk] at hs
        obtain rfl := intsD_ok rl his
        exact ⟨a, is, rfl, hs, hq F H _ (.refl F) R rfl⟩
      · cases hp
    · cases hp
  · cases hp
end Dn

namespace Dn
open PySem PySem.Spec PyProof.Rows L2

/-! ### methods of lists -/
abbrev PM := DV → List DV → Sto → Option (DV × Sto)
def dMt (p : PM) (f : DE) (fa : DA) : DE := fun ρ S => match f ρ S with
  | some (x, S1) => (match asL S1 x with
    | some _ => (match fa ρ S1 with
      | some (xs, S2) => p x xs S2
      | none => none)
    | none => none)
  | none => none
def OkM (K : PySem.W.Frag) (p : PM) (r : V → List V → Hp → VK → Prop) : Prop := ∀ F S H x vx xs vs d S' Q, F.K = K → Rep F S H → Rel F x vx → RelL F xs vs → p x xs S = some (d, S') → PostE F S' d Q → r vx vs H Q
section
variable {X : Cx} {e a b o : Expr} {f g : DE} {fa : DA} {pos : Pos} {st : Stmt}
theorem mt_go {p : PM} {r : V → List V → Hp → VK → Prop} (hp : OkM X.K p r) {F : Fm} {S S' : Sto} {H : Hp} {ρ : Ev} {σ : L2.St} {d : DV} {Q : VK} (hk : F.K = X.K) (R : Rep F S H) (rr : RelE F ρ σ) (hf : dMt p f fa ρ S = some (d, S')) (hq : PostE F S' d Q) :
    tBM X.K "list" r (rdE X.K f) (rdA X.K fa) σ H Q := by
  unfold dMt at hf
  split at hf
  · rename_i x S1 h1
    split at hf
    · rename_i ds hL
      split at hf
      · rename_i xs S2 h2
        refine rdE.go hk R rr h1 fun F1 H1 v le hk1 R1 r1 rv => ?_
        obtain ⟨l, us, rfl, hs, rl⟩ := asL_sq R1 rv hL
        rw [hk1] at hs
        refine ⟨.inl ⟨rfl, us, hs⟩, rdA.go hk1 R1 r1 h2 fun F2 H2 vs le2 hk2 R2 r2 ra => ?_⟩
        exact hp F2 S2 H2 x _ xs vs d S' Q hk2 R2 (rv.le le2) ra hf (hq.le (le.trans le2))
      · cases hf
    · cases hf
  · cases hf
theorem ed_mt {es : List Expr} {p : PM} {r : V → List V → Hp → VK → Prop} (hp : OkM X.K p r) (ho : ED X o f) (ha : AD X es fa) (h : ∀ {t : TA} {u : TE}, PE X o u → PA X es t → PE X e (tBM X.K "list" r u t)) : ED X e (dMt p f fa) :=
  .of (h ho.pe ha.pa) fun F S H ρ σ d S' Q hk R rr hf hq => mt_go hp hk R rr hf hq
end
def pAppend : PM := fun x xs S => match x, xs with
  | .loc n, [y] => (match S[n]? with
    | some (.lst ds) => if ds.length < sizeLine then some (.non, S.set n (.lst (ds ++ [y]))) else none
    | _ => none)
  | _, _ => none
def pExtend : PM := fun x xs S => match x, xs with
  | .loc n, [y] => (match S[n]?, asT S y with
    | some (.lst ds), some es => if ds.length + es.length ≤ sizeLine then some (.non, S.set n (.lst (ds ++ es))) else none
    | _, _ => none)
  | _, _ => none
theorem lst_write {F : Fm} {S : Sto} {H : Hp} {n : Nat} {ds es : List DV} {vs us : List V} {a : Addr} {v : V} {d : DV} {Q : VK} (R : Rep F S H) (hc : S[n]? = some (.lst ds)) (ha : F.lm[n]? = some a) (rl : RelL F es us) (rd : Rel F d v) (hq : PostE F (S.set n (.lst es)) d Q) : Q v (upd H a (.lst us)) :=
  hq F _ v (.refl F) (R.write hc rfl ha (fun _ q => nomatch q) rfl ⟨us, upd_same, rl⟩) rd
section
variable {K : PySem.W.Frag}
theorem ok_append : OkM K pAppend rAppend := fun F S H x vx xs vs d S' Q hk R rx rl hp hq => by
  unfold pAppend at hp
  split at hp
  · rename_i n y
    split at hp
    · rename_i ds hc
      obtain ⟨h1, h2⟩ := of_ite hp
      cases h2
      obtain ⟨a, ha, rfl⟩ := rx
      obtain ⟨v, rfl, rv⟩ := one rl
      obtain ⟨⟨us, e, ru⟩, _⟩ := R.cell n _ a hc ha
      exact ⟨a, us, v, rfl, rfl, e, by rw [← ru.length]; exact h1, lst_write (vs := us) R hc ha (us := us ++ [v]) (ru.append (rel1 rv)) (d := .non) (v := .non) rfl hq⟩
    · cases hp
  · cases hp
theorem ok_extend : OkM K pExtend rExtend := fun F S H x vx xs vs d S' Q hk R rx rl hp hq => by
  unfold pExtend at hp
  split at hp
  · rename_i n y
    split at hp
    · rename_i ds es hc he
      obtain ⟨h1, h2⟩ := of_ite hp
      cases h2
      obtain ⟨a, ha, rfl⟩ := rx
      obtain ⟨v, rfl, rv⟩ := one rl
      obtain ⟨b, ws, rfl, hb, rb⟩ := asT_sq R rv he
      obtain ⟨⟨us, e, ru⟩, _⟩ := R.cell n _ a hc ha
      exact ⟨a, b, us, ws, rfl, rfl, e, hb, by rw [← ru.length, ← rb.length]; exact h1, lst_write (vs := us) R hc ha (ru.append rb) (d := .non) (v := .non) rfl hq⟩
    · cases hp
  · cases hp
end

/-! ### methods of texts with one argument -/
def dM1 (p : Str → DV → Sto → Option (DV × Sto)) (f g : DE) : DE := fun ρ S => match f ρ S with
  | some (.str a, S1) => (match g ρ S1 with
    | some (y, S2) => p a y S2
    | none => none)
  | _ => none
section
variable {X : Cx} {e a b o : Expr} {f g : DE} {fa : DA} {pos : Pos} {st : Stmt}
theorem ed_m1 {p : Str → DV → Sto → Option (DV × Sto)} {r : V → List V → Hp → VK → Prop} (hp : ∀ F S H x y vy d S' Q, F.K = X.K → Rep F S H → Rel F y vy → p x y S = some (d, S') → PostE F S' d Q → r (.str x) [vy] H Q)
    (ho : ED X o f) (hb : ED X b g) (h : ∀ {t u : TE}, PE X o t → PE X b u → PE X e (tM1 r t u)) : ED X e (dM1 p f g) :=
  .of (h ho.pe hb.pe) fun F S H ρ σ d S' Q hk R rr hf hq => by
    unfold dM1 at hf
    split at hf
    · rename_i x S1 h1
      split at hf
      · rename_i y S2 h2
        refine rdE.go hk R rr h1 fun F1 H1 v le hk1 R1 r1 rv => ⟨⟨x, rv⟩, rdE.go hk1 R1 r1 h2 fun F2 H2 u le2 hk2 R2 r2 ru => ?_⟩
        obtain rfl := (show v = .str x from rv)
        exact hp F2 S2 H2 x y u d S' Q hk2 R2 ru hf (hq.le (le.trans le2))
      · cases hf
    · cases hf
def pJoin : Str → DV → Sto → Option (DV × Sto) := fun a y S => match itemsD S y with
  | some ds => (match strsD ds with
    | some ys => if (ys.map (·.length)).sum + ys.length * a.length ≤ 16777216 then some (.str (Txt.join a ys), S) else none
    | none => none)
  | none => none
theorem ok_join {K : PySem.W.Frag} (F : Fm) (S : Sto) (H : Hp) (x : Str) (y : DV) (vy : V) (d : DV) (S' : Sto) (Q : VK) (hk : F.K = K) (R : Rep F S H) (ry : Rel F y vy) (hp : pJoin x y S = some (d, S')) (hq : PostE F S' d Q) :
    ∃ a p, ∃ ys : List Str, V.str x = .str a ∧ [vy] = [.ref p] ∧ (SqL K H p (ys.map V.str) ∨ SqT K H p (ys.map V.str)) ∧ (ys.map (·.length)).sum + ys.length * a.length ≤ 16777216 ∧ Q (.str (Txt.join a ys)) H := by
  unfold pJoin at hp
  split at hp
  · rename_i ds hL
    split at hp
    · rename_i ys hy
      obtain ⟨h1, h2⟩ := of_ite hp
      cases h2
      obtain ⟨p, us, rfl, hs, rl⟩ := itemsD_sq R ry hL
      rw [hk] at hs
      obtain rfl := strsD_ok rl hy
      exact ⟨x, p, ys, rfl, rfl, hs, h1, hq F H _ (.refl F) R rfl⟩
    · cases hp
  · cases hp
theorem strs_rel {F : Fm} : ∀ ys : List Str, RelL F (ys.map DV.str) (ys.map V.str)
  | [] => rfl
  | y :: ys => ⟨_, _, rfl, rfl, strs_rel ys⟩
theorem ints_rel {F : Fm} : ∀ ys : List Int, RelL F (ys.map DV.int) (ys.map V.int)
  | [] => rfl
  | y :: ys => ⟨_, _, rfl, rfl, ints_rel ys⟩
/-! ### d.get -/
def isD (S : Sto) (x : DV) : Bool := (asK S x).isSome || (asKT S x).isSome
theorem isD_ok {F : Fm} {S : Sto} {H : Hp} {x : DV} {v : V} (R : Rep F S H) (r : Rel F x v) (h : isD S x = true) : ∃ a, v = .ref a ∧ IsD H a := by
  unfold isD at h
  cases h1 : asK S x with
  | some p =>
    obtain ⟨a, us, rfl, _, e, _⟩ := asK_ok R r (ks := p.1) (ds := p.2) h1
    exact ⟨a, rfl, .inl ⟨_, e⟩⟩
  | none =>
    cases h2 : asKT S x with
    | some p =>
      obtain ⟨a, us, rfl, _, e, _⟩ := asKT_ok R r (ks := p.1) (ds := p.2) h2
      exact ⟨a, rfl, .inr ⟨_, e⟩⟩
    | none =>
      rw [h1, h2] at h
      cases h
def dGet1 (f g : DE) : DE := fun ρ S => match f ρ S with
  | some (x, S1) => if isD S1 x = true then (match g ρ S1 with
    | some (y, S2) => (match getD S2 x y with
      | some (some d) => some (d, S2)
      | some none => some (.non, S2)
      | none => none)
    | none => none) else none
  | none => none
def dGet2 (f g h : DE) : DE := fun ρ S => match f ρ S with
  | some (x, S1) => if isD S1 x = true then (match g ρ S1 with
    | some (y, S2) => (match h ρ S2 with
      | some (z, S3) => (match getD S3 x y with
        | some (some d) => some (d, S3)
        | some none => some (z, S3)
        | none => none)
      | none => none)
    | none => none) else none
  | none => none
theorem ed_get1 (ho : ED X o f) (hb : ED X b g) (h : ∀ {t u : TE}, PE X o t → PE X b u → PE X e (tDGet1 t u)) : ED X e (dGet1 f g) :=
  .of (h ho.pe hb.pe) fun F S H ρ σ d S' Q hk R rr hf hq => by
    unfold dGet1 at hf
    split at hf
    · rename_i x S1 h1
      obtain ⟨hd, hf⟩ := of_ite hf
      split at hf
      · rename_i y S2 h2
        refine rdE.go hk R rr h1 fun F1 H1 v le hk1 R1 r1 rv => ?_
        obtain ⟨a, rfl, ia⟩ := isD_ok R1 rv hd
        refine ⟨a, rfl, ia, rdE.go hk1 R1 r1 h2 fun F2 H2 u le2 hk2 R2 r2 ru => ?_⟩
        split at hf
        · rename_i d0 hg
          cases hf
          obtain ⟨a', r, e, dg, i1, _⟩ := getD_ok R2 (rv.le le2) ru hg
          cases e
          obtain ⟨w, rfl, rw_⟩ := i1 rfl
          exact ⟨_, dg, hq F2 H2 w (le.trans le2) R2 rw_⟩
        · rename_i hg
          cases hf
          obtain ⟨a', r, e, dg, _, i2⟩ := getD_ok R2 (rv.le le2) ru hg
          cases e
          obtain rfl := i2 rfl
          exact ⟨_, dg, hq F2 H2 .non (le.trans le2) R2 rfl⟩
        · cases hf
      · cases hf
    · cases hf
theorem ed_get2 {c : Expr} {h2 : DE} (ho : ED X o f) (hb : ED X b g) (hc : ED X c h2) (h : ∀ {t u w : TE}, PE X o t → PE X b u → PE X c w → PE X e (tDGet2 t u w)) : ED X e (dGet2 f g h2) :=
  .of (h ho.pe hb.pe hc.pe) fun F S H ρ σ d S' Q hk R rr hf hq => by
    unfold dGet2 at hf
    split at hf
    · rename_i x S1 h1
      obtain ⟨hd, hf⟩ := of_ite hf
      split at hf
      · rename_i y S2 h2
        split at hf
        · rename_i z S3 h3
          refine rdE.go hk R rr h1 fun F1 H1 v le hk1 R1 r1 rv => ?_
          obtain ⟨a, rfl, ia⟩ := isD_ok R1 rv hd
          refine ⟨a, rfl, ia, rdE.go hk1 R1 r1 h2 fun F2 H2 u le2 hk2 R2 r2 ru => rdE.go hk2 R2 r2 h3 fun F3 H3 zz le3 hk3 R3 r3 rz => ?_⟩
          split at hf
          · rename_i d0 hg
            cases hf
            obtain ⟨a', r, e, dg, i1, _⟩ := getD_ok R3 (rv.le (le2.trans le3)) (ru.le le3) hg
            cases e
            obtain ⟨w, rfl, rw_⟩ := i1 rfl
            exact ⟨_, dg, hq F3 H3 w ((le.trans le2).trans le3) R3 rw_⟩
          · rename_i hg
            cases hf
            obtain ⟨a', r, e, dg, _, i2⟩ := getD_ok R3 (rv.le (le2.trans le3)) (ru.le le3) hg
            cases e
            obtain rfl := i2 rfl
            exact ⟨_, dg, hq F3 H3 zz ((le.trans le2).trans le3) R3 rz⟩
          · cases hf
        · cases hf
      · cases hf
    · cases hf
theorem ed_dnewK (h : PE X e tDNewK) : ED X e (fun _ S => some (.loc S.length, S ++ [.dik [] []])) :=
  .of h fun F S H ρ σ d S' Q hk R rr hf hq p hp => by
    cases hf
    have R' := R.alloc (o := .dK []) (c := .dik [] []) hp (fun _ q => nomatch q) ⟨[], rfl, upd_same, rfl⟩
    exact hq _ _ _ (F.cell_le p) R' ⟨p, by rw [← R.len]; exact get_len _ _, rfl⟩
theorem ed_dnewT (h : PE X e tDNewT) : ED X e (fun _ S => some (.loc S.length, S ++ [.dit [] []])) :=
  .of h fun F S H ρ σ d S' Q hk R rr hf hq p hp => by
    cases hf
    have R' := R.alloc (o := .dT []) (c := .dit [] []) hp (fun _ q => nomatch q) ⟨[], rfl, upd_same, rfl⟩
    exact hq _ _ _ (F.cell_le p) R' ⟨p, by rw [← R.len]; exact get_len _ _, rfl⟩

/-! ### o[i] = v -/
def setI (x i y : DV) (S : Sto) : Option Sto := match x with
  | .loc n => (match S[n]? with
    | some (.lst ds) => (match i with
      | .int k => (match ixN ds.length k with
        | some j => some (S.set n (.lst (ds.set j y)))
        | none => none)
      | _ => none)
    | some (.dik ks ds) => (match keyD i with
      | some k => if ks.length < sizeLine then some (S.set n (.dik (putKs ks k) (putVs ks ds k y))) else none
      | none => none)
    | some (.dit ks ds) => (match keyT i with
      | some k => if ks.length < sizeLine then some (S.set n (.dit (putKs ks k) (putVs ks ds k y))) else none
      | none => none)
    | _ => none)
  | _ => none
end
theorem any_zip {κ : Type} [DecidableEq κ] {j : κ} : ∀ {ks : List κ} {xs : List V}, ks.length = xs.length → ((ks.zip xs).any fun kv => decide (kv.1 = j)) = hasK ks j
  | [], _, _ => by rw [List.zip_nil_left] <;> rfl
  | k :: ks, [], h => by cases h
  | k :: ks, x :: xs, h => by
    have ih := any_zip (j := j) (Nat.succ.inj h)
    unfold hasK at ih ⊢
    rw [List.zip_cons_cons, List.any_cons, List.any_cons, ih]
theorem rp_zip {κ : Type} [DecidableEq κ] {j : κ} {v : V} : ∀ {ks : List κ} {xs : List V}, ks.length = xs.length → ks.zip (rpG j v ks xs) = (ks.zip xs).map fun kv => if kv.1 = j then (kv.1, v) else kv
  | [], _, _ => by rw [List.zip_nil_left, List.zip_nil_left] <;> rfl
  | k :: ks, [], h => by cases h
  | k :: ks, x :: xs, h => by
    have ih := rp_zip (j := j) (v := v) (Nat.succ.inj h)
    unfold rpG
    rw [List.zip_cons_cons, List.zip_cons_cons, List.map_cons, ih]
    by_cases q : k = j
    · simp only [if_pos q]
    · simp only [if_neg q]
theorem rp_len {κ α : Type} [DecidableEq κ] {j : κ} {x : α} : ∀ {ks : List κ} {xs : List α}, ks.length = xs.length → (rpG j x ks xs).length = ks.length
  | [], _, _ => rfl
  | k :: ks, [], h => by cases h
  | k :: ks, y :: xs, h => by
    unfold rpG
    rw [List.length_cons, List.length_cons, rp_len (Nat.succ.inj h)]
theorem rp_rel {κ : Type} [DecidableEq κ] {F : Fm} {j : κ} {y : DV} {v : V} (ry : Rel F y v) : ∀ {ks : List κ} {ds : List DV} {xs : List V}, RelL F ds xs → RelL F (rpG j y ks ds) (rpG j v ks xs)
  | [], _, _, _ => rfl
  | k :: ks, [], xs, h => by
    obtain rfl := h.nil
    exact rfl
  | k :: ks, d :: ds, xs, h => by
    obtain ⟨x, xr, rfl, h1, h2⟩ := h
    refine ⟨_, _, rfl, ?_, rp_rel ry h2⟩
    by_cases q : k = j
    · rw [if_pos q, if_pos q]
      exact ry
    · rw [if_neg q, if_neg q]
      exact h1
/-- a dict's values behind a store -/
theorem put_ok {κ : Type} [DecidableEq κ] {F : Fm} {j : κ} {y : DV} {v : V} (ry : Rel F y v) {ks : List κ} {ds : List DV} {xs : List V} (hz : ks.length = ds.length) (rl : RelL F ds xs) :
    ∃ ys, (putKs ks j).length = (putVs ks ds j y).length ∧ RelL F (putVs ks ds j y) ys ∧ putK (ks.zip xs) j v = (putKs ks j).zip ys := by
  have hx : ks.length = xs.length := hz.trans rl.length
  unfold putKs putVs putK
  rw [any_zip hx]
  by_cases q : hasK ks j = true
  · rw [if_pos q, if_pos q, if_pos q]
    exact ⟨rpG j v ks xs, (rp_len hz).symm, rp_rel ry rl, (rp_zip hx).symm⟩
  · rw [if_neg q, if_neg q, if_neg q]
    refine ⟨xs ++ [v], by simp [hz], rl.append (rel1 ry), ?_⟩
    rw [List.zip_append hx] <;> rfl
def rSetD : V → V → V → Hp → (Hp → Prop) → Prop := fun o i v H Q => ∃ a H', o = .ref a ∧ DPut H a i v H' ∧ Q H'
theorem set_dict {X : Cx} (hu : X.A.units + 1 < cLine) : PSet X rSetD := fun pins s σ H o i v ov iv u Q I ro ri rv h => by
  obtain ⟨a, H', rfl, g, q⟩ := h
  obtain rfl : ov = Value.ref a := ro
  exact d_setItem hu I g ri rv fun s' I' => ⟨H', I', q⟩
theorem PSet.or {X : Cx} {t u : TSet} (h : PSet X t) (k : PSet X u) : PSet X (fun o i v H Q => t o i v H Q ∨ u o i v H Q) := fun pins s σ H o i v ov iv w Q I ro ri rv h' => h'.elim (h pins s σ H o i v ov iv w Q I ro ri rv) (k pins s σ H o i v ov iv w Q I ro ri rv)
theorem setI_ok {F : Fm} {S S' : Sto} {H : Hp} {x i y : DV} {vx vi vy : V} {Q : Hp → Prop} (R : Rep F S H) (rx : Rel F x vx) (ri : Rel F i vi) (ry : Rel F y vy) (h : setI x i y S = some S') (hq : ∀ H', Rep F S' H' → Q H') : rSetL vx vi vy H Q ∨ rSetD vx vi vy H Q := by
  unfold setI at h
  split at h
  · rename_i n
    obtain ⟨a, ha, rfl⟩ := rx
    split at h
    · rename_i ds hc
      split at h
      · rename_i k
        split at h
        · rename_i j hj
          cases h
          obtain rfl := (show vi = .int k from ri)
          obtain ⟨⟨us, e, ru⟩, _⟩ := R.cell n _ a hc ha
          exact .inl ⟨a, us, k, j, rfl, rfl, e, by rw [← ru.length]; exact hj, hq _ (R.write hc rfl ha (fun _ q => nomatch q) rfl ⟨us.set j vy, upd_same, ru.set ry j⟩)⟩
        · cases h
      · cases h
    · rename_i ks ds hc
      split at h
      · rename_i k hk
        obtain ⟨h1, h⟩ := of_ite h
        cases h
        obtain rfl := keyD_ok ri hk
        obtain ⟨⟨us, hz, e, ru⟩, _⟩ := R.cell n _ a hc ha
        obtain ⟨ys, p1, p2, p3⟩ := put_ok (j := k) ry hz ru
        have hl : (ks.zip us).length < sizeLine := by
          rw [List.length_zip, ← ru.length, hz, Nat.min_self, ← hz]
          exact h1
        refine .inr ⟨a, _, rfl, DPut.k e hl, hq _ ?_⟩
        rw [p3]
        exact R.write hc rfl ha (fun _ q => nomatch q) rfl ⟨ys, p1, upd_same, p2⟩
      · cases h
    · rename_i ks ds hc
      split at h
      · rename_i k hk
        obtain ⟨h1, h⟩ := of_ite h
        cases h
        unfold keyT at hk
        split at hk
        · rename_i es
          obtain ⟨b, ws, rfl, hb, rb⟩ := tup_at R ri
          obtain rfl := keysD_ok rb hk
          obtain ⟨⟨us, hz, e, ru⟩, _⟩ := R.cell n _ a hc ha
          obtain ⟨ys, p1, p2, p3⟩ := put_ok (j := k) ry hz ru
          have hl : (ks.zip us).length < sizeLine := by
            rw [List.length_zip, ← ru.length, hz, Nat.min_self, ← hz]
            exact h1
          refine .inr ⟨a, _, rfl, DPut.t e hb hl, hq _ ?_⟩
          rw [p3]
          exact R.write hc rfl ha (fun _ q => nomatch q) rfl ⟨ys, p1, upd_same, p2⟩
        · cases hk
      · cases h
    · cases h
  · cases h
def dSub (v o i : DE) : DS := fun ρ S => match v ρ S with
  | some (y, S1) => (match o ρ S1 with
    | some (x, S2) => (match i ρ S2 with
      | some (k, S3) => (match setI x k y S3 with
        | some S4 => some (.nx ρ S4)
        | none => none)
      | none => none)
    | none => none)
  | none => none
section
variable {X : Cx} {e a b o : Expr} {f g : DE} {fa : DA} {pos : Pos} {st : Stmt}
theorem sd_sub {v : DE} (h : PS X st (tAsg (rdE X.K v) (L2.gSub (rdE X.K f) (rdE X.K g) (fun o i v H Q => rSetL o i v H Q ∨ rSetD o i v H Q)))) : SD X st (dSub v f g) := .of h fun F S H ρ σ o D hk R rr hf hq => by
  unfold dSub at hf
  split at hf
  · rename_i y S1 h1
    split at hf
    · rename_i x S2 h2
      split at hf
      · rename_i k S3 h3
        split at hf
        · rename_i S4 h4
          cases hf
          exact rdE.go hk R rr h1 fun F1 H1 vy le1 hk1 R1 r1 ry => rdE.go hk1 R1 r1 h2 fun F2 H2 vx le2 hk2 R2 r2 rx => rdE.go hk2 R2 r2 h3 fun F3 H3 vk le3 hk3 R3 r3 rk =>
            setI_ok R3 (rx.le le3) rk (ry.le (le2.trans le3)) h4 fun H' R' => hq F3 H' ((le1.trans le2).trans le3) R' σ r3
        · cases hf
      · cases hf
    · cases hf
  · cases hf
/-- x += e over ints -/
def dAug (i : Nat) (p : P2) (f : DE) : DS := fun ρ S => match ρ[i]? with
  | some (some x) => (match f ρ S with
    | some (y, S1) => (match p x y S1 with
      | some (d, S2) => some (.nx (ρ.set i (some d)) S2)
      | none => none)
    | none => none)
  | _ => none
theorem sd_aug {i : Nat} {p : P2} {t : TIp} (hp : Ok2 X.K p t) (h : PS X st (tAug i (rdE X.K f) t)) : SD X st (dAug i p f) := .of h fun F S H ρ σ o D hk R rr hf hq => by
  unfold dAug at hf
  split at hf
  · rename_i x hx
    split at hf
    · rename_i y S1 h1
      split at hf
      · rename_i d S2 h2
        cases hf
        obtain ⟨vx, e1, rx⟩ := rr.at_ i x hx
        exact ⟨vx, e1, rdE.go hk R rr h1 fun F1 H1 vy le1 hk1 R1 r1 ry => hp F1 S1 H1 x y vx vy d S2 _ hk1 R1 (rx.le le1) ry h2 fun F2 H2 v le2 R2 rv => hq F2 H2 (le1.trans le2) R2 _ ((r1.le le2).set i rv)⟩
      · cases hf
    · cases hf
  · cases hf
abbrev pAddI : P2 := pI fun i j => some (i + j)
theorem ok_ipadd {K : PySem.W.Frag} : Ok2 K pAddI (ipI fun i j => i + j) := ok_I0
/-! ### what loops walk -/
def iSeq (f : DE) : DI := fun ρ S => match f ρ S with
  | some (x, S1) => (match x with
    | .tup ds => some (ds, S1)
    | .tupx ds => some (ds, S1)
    | .lst _ ds => some (ds, S1)
    | .str s => some (s.cps.toList.map fun c => .str ⟨#[c]⟩, S1)
    | .loc n => (match S1[n]? with
      | some (.frz (.lst _ ds)) => some (ds, S1)
      | _ => none)
    | _ => none)
  | none => none
theorem walks_list {F : Fm} {a : Addr} {ds : List DV} (h : ∀ F' S H, Wk F F' → Rep F' S H → ∃ xs, SqL F.K H a xs ∧ RelL F' ds xs) : Walks (Itl F.K a) F ds := fun i F' S H w _ R => by
  obtain ⟨xs, hs, rl⟩ := h F' S H w R
  refine ⟨fun e => ⟨xs, hs, by rw [e, rl.length]; exact Nat.le_refl _⟩, fun d hd => ?_⟩
  obtain ⟨x, hx, rx⟩ := rl.get hd
  refine ⟨⟨xs, x, hs, hx⟩, fun y H' yl => ?_⟩
  obtain ⟨rfl, y2⟩ := yl
  have e := (y2 xs hs).symm.trans hx
  cases e
  exact ⟨F', .refl F', R, rx⟩
theorem walks_tup {F : Fm} {a : Addr} {ds : List DV} (h : ∀ F' S H, Wk F F' → Rep F' S H → ∃ xs, SqT F.K H a xs ∧ RelL F' ds xs) : Walks (Itt F.K a) F ds := fun i F' S H w _ R => by
  obtain ⟨xs, hs, rl⟩ := h F' S H w R
  refine ⟨fun e => ⟨xs, hs, by rw [e, rl.length]; exact Nat.le_refl _⟩, fun d hd => ?_⟩
  obtain ⟨x, hx, rx⟩ := rl.get hd
  refine ⟨⟨xs, x, hs, hx⟩, fun y H' yl => ?_⟩
  obtain ⟨rfl, y2⟩ := yl
  have e := (y2 xs hs).symm.trans hx
  cases e
  exact ⟨F', .refl F', R, rx⟩
theorem walks_str {F : Fm} {s : Str} : Walks (Its s) F (s.cps.toList.map fun c => .str ⟨#[c]⟩) := fun i F' S H w _ R => by
  refine ⟨fun e => ?_, fun d hd => ?_⟩
  · have : i = s.cps.size := by simpa using e
    show s.cps.size ≤ i
    omega
  · rw [List.getElem?_map] at hd
    cases e : s.cps.toList[i]? with
    | none =>
      rw [e] at hd
      cases hd
    | some c =>
      rw [e] at hd
      cases hd
      have e2 : s.cps[i]? = some c := by simpa using e
      refine ⟨(Array.getElem?_eq_some_iff.mp e2).1, fun x H' y => ?_⟩
      obtain ⟨rfl, c', h1, rfl⟩ := y
      rw [e2] at h1
      cases h1
      exact ⟨F', .refl F', R, rfl⟩
theorem walks_range {F : Fm} {lo : Int} {n : Nat} : Walks (Itr lo n) F ((List.range n).map fun i => .int (lo + (i : Nat))) := fun i F' S H w _ R => by
  refine ⟨fun e => ?_, fun d hd => ?_⟩
  · have : i = n := by simpa using e
    show n ≤ i
    omega
  · rw [List.getElem?_map] at hd
    cases e : (List.range n)[i]? with
    | none =>
      rw [e] at hd
      cases hd
    | some c =>
      rw [e] at hd
      cases hd
      obtain ⟨h1, h2⟩ := List.getElem?_eq_some_iff.mp e
      rw [List.getElem_range] at h2
      subst h2
      refine ⟨(by simpa using h1 : i < n), fun x H' y => ?_⟩
      obtain ⟨rfl, rfl⟩ := y
      exact ⟨F', .refl F', R, rfl⟩
theorem seq_src {F : Fm} {S : Sto} {H : Hp} {k : LK} {ds : List DV} {v : V} (R : Rep F S H) (rv : Rel F (.lst k ds) v) : ∃ a, v = .ref a ∧ (∃ xs, SqL F.K H a xs) ∧ Walks (Itl F.K a) F ds := by
  obtain ⟨a, xs, rfl, hs, _⟩ := rv.lstSq R
  refine ⟨a, rfl, ⟨xs, hs⟩, walks_list fun F' S' H' w R' => ?_⟩
  obtain ⟨a', xs', e, hs', rl'⟩ := (Rel.wk w _ _ rv).lstSq R'
  cases e
  rw [w.k] at hs'
  exact ⟨xs', hs', rl'⟩
theorem id_seq {tg : Expr} (h : ED X e f) : ID X tg e (iSeq f) :=
  .of (PI.or (pi_list h.pe) (PI.or (pi_tup h.pe) (pi_str h.pe))) fun F S H ρ σ ds S' Q hk R rr hf hq => by
    unfold iSeq at hf
    split at hf
    · rename_i x S1 h1
      split at hf
      · rename_i es
        cases hf
        refine .inr (.inl (rdE.go hk R rr h1 fun F1 H1 v le hk1 R1 r1 rv => ?_))
        obtain ⟨a, xs, rfl, hs, rl⟩ := rv
        rw [← hk1]
        refine ⟨a, rfl, ⟨xs, SqT.of (R1.g _ _ hs)⟩, hq _ F1 H1 le R1 (walks_tup fun F' S' H' w R' => ⟨xs, SqT.of (R'.g _ _ (w.g _ _ hs)), RelL.wk w _ _ rl⟩)⟩
      · rename_i es
        cases hf
        refine .inr (.inl (rdE.go hk R rr h1 fun F1 H1 v le hk1 R1 r1 rv => ?_))
        obtain ⟨a, xs, rfl, hs, rl⟩ := rv
        rw [← hk1]
        refine ⟨a, rfl, ⟨xs, sqT_same R1.g hs⟩, hq _ F1 H1 le R1 (walks_tup fun F' S' H' w R' => ⟨xs, sqT_same R'.g (sqT_same w.g hs), RelL.wk w _ _ rl⟩)⟩
      · rename_i k es
        cases hf
        refine .inl (rdE.go hk R rr h1 fun F1 H1 v le hk1 R1 r1 rv => ?_)
        obtain ⟨a, rfl, hs, hw⟩ := seq_src R1 rv
        rw [← hk1]
        exact ⟨a, rfl, hs, hq _ F1 H1 le R1 hw⟩
      · rename_i s
        cases hf
        refine .inr (.inr (rdE.go hk R rr h1 fun F1 H1 v le hk1 R1 r1 rv => ?_))
        exact ⟨s, rv, hq _ F1 H1 le R1 walks_str⟩
      · rename_i n
        split at hf
        · rename_i k es hc
          cases hf
          refine .inl (rdE.go hk R rr h1 fun F1 H1 v le hk1 R1 r1 rv => ?_)
          obtain ⟨a, ha, rfl⟩ := rv
          obtain ⟨rl, _⟩ := R1.cell n _ a hc ha
          obtain ⟨a', e, hs, hw⟩ := seq_src R1 (show Rel F1 (.lst k ds) (.ref a) from rl)
          cases e
          rw [← hk1]
          exact ⟨a, rfl, hs, hq _ F1 H1 le R1 hw⟩
        · cases hf
      · cases hf
    · cases hf
def rgD (lo : Int) (n : Nat) : List DV := (List.range n).map fun i => .int (lo + (i : Nat))
def iRange1 (f : DA) : DI := fun ρ S => match f ρ S with
  | some ([.int j], S1) => if j.natAbs < 4611686018427387904 then some (rgD 0 j.toNat, S1) else none
  | _ => none
theorem id_range1 {tg : Expr} {es : List Expr} (ha : AD X es fa) (h : ∀ {t : TA}, PA X es t → PI X tg e (iRng1 t)) : ID X tg e (iRange1 fa) :=
  .of (h ha.pa) fun F S H ρ σ ds S' Q hk R rr hf hq => by
    unfold iRange1 at hf
    split at hf
    · rename_i j S1 h1
      obtain ⟨hb, hf⟩ := of_ite hf
      cases hf
      refine rdA.go hk R rr h1 fun F1 H1 vs le hk1 R1 r1 rl => ?_
      obtain ⟨v, rfl, rv⟩ := one rl
      obtain rfl := (show v = .int j from rv)
      exact ⟨j, rfl, by omega, by omega, hq _ F1 H1 le R1 walks_range⟩
    · cases hf
def enD : Nat → List DV → List DV
  | _, [] => []
  | i, d :: ds => .tup [.int (i : Nat), d] :: enD (i + 1) ds
theorem enD_get : ∀ {ds : List DV} {k i : Nat}, (enD k ds)[i]? = (ds[i]?).map fun d => .tup [.int ((k + i : Nat) : Int), d]
  | [], k, i => by unfold enD; simp
  | d :: ds, k, 0 => by unfold enD; simp
  | d :: ds, k, i + 1 => by
    unfold enD
    rw [List.getElem?_cons_succ, List.getElem?_cons_succ, enD_get]
    have e : k + 1 + i = k + (i + 1) := by omega
    rw [e]
theorem enD_len : ∀ {ds : List DV} {k : Nat}, (enD k ds).length = ds.length
  | [], k => rfl
  | d :: ds, k => by
    unfold enD
    rw [List.length_cons, List.length_cons, enD_len]
def valL (S : Sto) : DV → Option (List DV)
  | .lst _ ds => some ds
  | .loc n => match S[n]? with
    | some (.frz (.lst _ ds)) => some ds
    | _ => none
  | _ => none
theorem valL_ok {F : Fm} {S : Sto} {H : Hp} {x : DV} {v : V} {ds : List DV} (R : Rep F S H) (r : Rel F x v) (h : valL S x = some ds) : ∃ k, Rel F (.lst k ds) v := by
  unfold valL at h
  split at h
  · rename_i k es
    cases h
    exact ⟨k, r⟩
  · rename_i n
    split at h
    · rename_i k es hc
      cases h
      obtain ⟨a, ha, rfl⟩ := r
      obtain ⟨rl, _⟩ := R.cell n _ a hc ha
      exact ⟨k, rl⟩
    · cases h
  · cases h
def iEnum (f : DA) : DI := fun ρ S => match f ρ S with
  | some ([x], S1) => (match valL S1 x with
    | some ds => some (enD 0 ds, S1)
    | none => none)
  | _ => none
theorem walks_enum {F : Fm} {a : Addr} {ds : List DV} (h : ∀ F' S H, Wk F F' → Rep F' S H → ∃ xs, SqL F.K H a xs ∧ RelL F' ds xs) : Walks (Ite F.K a) F (enD 0 ds) := fun i F' S H w _ R => by
  obtain ⟨xs, hs, rl⟩ := h F' S H w R
  refine ⟨fun e => ⟨xs, hs, by rw [e, enD_len, rl.length]; exact Nat.le_refl _⟩, fun d hd => ?_⟩
  rw [enD_get] at hd
  cases hd0 : ds[i]? with
  | none =>
    rw [hd0] at hd
    cases hd
  | some d0 =>
    rw [hd0] at hd
    cases hd
    obtain ⟨x, hx, rx⟩ := rl.get hd0
    refine ⟨⟨xs, x, hs, hx⟩, fun y H' yl => ?_⟩
    obtain ⟨T, x', rfl, hT, rfl, hy⟩ := yl
    have e := (hy xs hs).symm.trans hx
    cases e
    obtain ⟨R', le⟩ := R.add (o := .tup [.int (i : Nat), x]) hT
    exact ⟨_, le, R', T, _, rfl, upd_same, .cons (by rw [Nat.zero_add]; exact rfl) (.cons (rx.le le) rfl)⟩
end
end Dn

namespace Dn
open PySem PySem.Spec PyProof.Rows L2

/-! ### a def that is ready to be called -/
structure FnC (P : Program) (w : World) (K : PySem.W.Frag) (mg : Str → Option Value) (base : Heap) (x : Str) (k : Nat) (ps : List Str) (dvs : List V) (f : PL) : Prop where
  ex : ∃ (a : Addr) (fd : FuncData) (ds : List Value), mg x = some (.ref a) ∧ FnOk P w K mg base CX0 k a fd ps (spS K ps.length f) ∧ PySem.W.keepIn K (.ref a) = true ∧ Binds K fd ps ds ∧ Vals dvs ds
section
variable {X : Cx} {x : Str} {k j : Nat} {ps : List Str} {dvs : List V} {f : PL} {dds : List DV} {p pos : Pos} {e a b : Expr} {es : List Expr} {fa : DA}
theorem FnC.pe (C : FnC X.prog X.w X.K X.mg X.base x k ps dvs f) (hr : Room j X.A) (hj : k ≤ j) (hg : Gl X x) {t : TA} (ha : PA X (e :: es) t) (hdb : (x == ("__debug__" : Str)) = false := by decide)
    (he : starEach (e :: es) X.env = (false, eval e X.env) :: starEach es X.env := by rfl) (hpl : (backTo pos (starEach es X.env)).any (·.1) = false := by rfl) :
    PE X (.Call (.Name x p) (e :: es) [] pos) (tCall (spS X.K ps.length f) dvs E0 t) := by
  obtain ⟨a, fd, ds, h1, h2, h3, h4, h5⟩ := C.ex
  exact pe_call h2 (hr.mono hj) hg h1 h3 h4 h5 pass0 ha hdb he hpl
theorem ed_callS (C : FnC X.prog X.w X.K X.mg X.base x k ps dvs (runF np n b0)) (hn : ps.length = np) (hr : Room j X.A) (hj : k ≤ j) (hg : Gl X x) (hd : ∀ F : Fm, RelL F dds dvs) (ha : AD X (e :: es) fa) (hdb : (x == ("__debug__" : Str)) = false := by decide)
    (he : starEach (e :: es) X.env = (false, eval e X.env) :: starEach es X.env := by rfl) (hpl : (backTo pos (starEach es X.env)).any (·.1) = false := by rfl) :
    ED X (.Call (.Name x p) (e :: es) [] pos) (dPrim (cS (runF np n b0) dds) fa) := by
  subst hn
  exact ed_call (fun {t} ha => C.pe hr hj hg ha hdb he hpl) (ok_cS hd runF_len) ha
theorem ed_callP (C : FnC X.prog X.w X.K X.mg X.base x k ps dvs (runF np n b0)) (hn : ps.length = np) (hr : Room j X.A) (hj : k ≤ j) (hg : Gl X x) (hd : ∀ F : Fm, RelL F dds dvs) (ha : AD X (e :: es) fa) (hdb : (x == ("__debug__" : Str)) = false := by decide)
    (he : starEach (e :: es) X.env = (false, eval e X.env) :: starEach es X.env := by rfl) (hpl : (backTo pos (starEach es X.env)).any (·.1) = false := by rfl) :
    ED X (.Call (.Name x p) (e :: es) [] pos) (dPrim (cP (pureOf (runF np n b0)) dds) fa) := by
  subst hn
  exact ed_call (fun {t} ha => C.pe hr hj hg ha hdb he hpl) (ok_cP hd runF_len) ha
theorem ed_callM (C : FnC X.prog X.w X.K X.mg X.base x k ps dvs (runF np n b0)) (hn : ps.length = np) (hr : Room j X.A) (hj : k ≤ j) (hg : Gl X x) (hd : ∀ F : Fm, RelL F dds dvs) (ha : AD X (e :: es) fa) (hdb : (x == ("__debug__" : Str)) = false := by decide)
    (he : starEach (e :: es) X.env = (false, eval e X.env) :: starEach es X.env := by rfl) (hpl : (backTo pos (starEach es X.env)).any (·.1) = false := by rfl) :
    ED X (.Call (.Name x p) (e :: es) [] pos) (dPrim (cM (freshOf (runF np n b0)) dds) fa) := by
  subst hn
  exact ed_call (fun {t} ha => C.pe hr hj hg ha hdb he hpl) (ok_cM hd runF_len) ha
theorem dd0 (F : Fm) : RelL F [] [] := rfl
theorem FnC.of {P : Program} {w : World} {K : PySem.W.Frag} {mg : Str → Option Value} {base : Heap} {a : Addr} {fd : FuncData} {qual : Str} {params : Arguments} {body : List Stmt} {scope : Scope}
    (F : FunD K x qual params body scope [] [] a fd) (hm : mg x = some (.ref a)) (h : FnOk P w K mg base CX0 k a fd ps (spS K ps.length f))
    (hb : ∀ (kV doc pm : Value) (an : Option Addr) (cdv ct : Value) (us : List Value), us.length = ps.length → bindArgs (PySem.W.fnOf x qual params body scope .none kV doc pm an cdv ct) ⟨us, []⟩ = pure (ps.zip us)) : FnC P w K mg base x k ps [] f :=
  ⟨a, fd, [], hm, h, F.kp, F.bindsN hb, .nil⟩

/-! ### names of the module -/
def dvD : He.Dv → DV
  | .bl b => .bl b
  | .int i => .int i
  | .str s => .str s
  | _ => .non
def dvOk : He.Dv → Bool
  | .non => true
  | .bl _ => true
  | .int _ => true
  | .str _ => true
  | _ => false
theorem dvD_rel {K : PySem.W.Frag} {F : Fm} : ∀ {vs : List He.Dv}, vs.all dvOk = true → RelL F (vs.map dvD) (vs.map (He.Dv.v K))
  | [], _ => rfl
  | v :: vs, h => by
    rw [List.all_cons] at h
    obtain ⟨h1, h2⟩ := Bool.and_eq_true_iff.mp h
    refine ⟨_, _, rfl, ?_, dvD_rel h2⟩
    cases v <;> first | exact rfl | cases h1
theorem ed_kint {i : Int} (h : ∃ t, X.mg x = some (.int i t)) (hg : Gl X x := by rfl) (hd : (x == ("__debug__" : Str)) = false := by decide) : ED X (.Name x pos) (dC (.int i)) := by
  obtain ⟨t, h⟩ := h
  exact ed_c (pe_glob (v := .int i) hg h ⟨t, rfl⟩ hd) fun _ => rfl
/-! ### built-in calls in short -/
structure TB (mg : Str → Option Value) : Prop where
  len : mg "len" = none
  isinstance : mg "isinstance" = none
  range : mg "range" = none
  enumerate : mg "enumerate" = none
  list : mg "list" = none
  tuple : mg "tuple" = none
  str : mg "str" = none
  int : mg "int" = none
  max : mg "max" = none
  min : mg "min" = none
  sum : mg "sum" = none
  any : mg "any" = none
  all : mg "all" = none
  sorted : mg "sorted" = none
  set : mg "set" = none
  reversed : mg "reversed" = none
  bool : mg "bool" = none
  dict : mg "dict" = none
  zip : mg "zip" = none
  ve : mg "ValueError" = none
def frees : List He.Fa := [.free "len", .free "isinstance", .free "range", .free "enumerate", .free "list", .free "tuple", .free "str", .free "int", .free "max", .free "min", .free "sum", .free "any", .free "all", .free "sorted", .free "set", .free "reversed", .free "bool", .free "dict", .free "zip", .free "ValueError"]
theorem tb_of {K : PySem.W.Frag} {h : Heap} {mg : Str → Option Value} (X : K.In h) (G : h.Ns mainGlobals mg) (c : ∀ f ∈ frees, f.ok K = true) : TB mg := by
  have g : ∀ {x : Str}, He.Fa.free x ∈ frees → mg x = none := fun {x} hx => He.free_ok X G (c _ hx)
  have m : ∀ (i : Nat) {x : Str}, frees[i]? = some (He.Fa.free x) → mg x = none := fun i {x} e => g (List.mem_of_getElem? e)
  exact ⟨m 0 rfl, m 1 rfl, m 2 rfl, m 3 rfl, m 4 rfl, m 5 rfl, m 6 rfl, m 7 rfl, m 8 rfl, m 9 rfl, m 10 rfl, m 11 rfl, m 12 rfl, m 13 rfl, m 14 rfl, m 15 rfl, m 16 rfl, m 17 rfl, m 18 rfl, m 19 rfl⟩
section
theorem e_isi {T7 : Ty7} {e1 : Expr} {f : DE} {p1 p2 : Pos} (T : TB X.mg) (hm : X.mg (Str.ofString T7.name) = none) (hT : T7 ≠ .non) (hg : Gl X "isinstance") (hg2 : Gl X (Str.ofString T7.name)) (hb : bootBuiltins (Str.ofString T7.name) = some (.type T7.name))
    (hx : ED X e1 f) (hn : Str.ofString T7.name ≠ "__name__" := by decide) (hd : (Str.ofString T7.name == ("__debug__" : Str)) = false := by decide)
    (h1 : starEach [e1, .Name (Str.ofString T7.name) p2] X.env = (false, eval e1 X.env) :: starEach [.Name (Str.ofString T7.name) p2] X.env := by rfl)
    (hpl : (backTo pos (starEach [.Name (Str.ofString T7.name) p2] X.env)).any (·.1) = false := by rfl) :
    ED X (.Call (.Name "isinstance" p1) [e1, .Name (Str.ofString T7.name) p2] [] pos) (dIsi T7 f) :=
  ed_isi hT hx fun h => pe_callB call_isi hg T.isinstance boot_isinstance (pa_cons h (pa_cons (pe_bltn hg2 hm hb rfl hn hd) pa_nil) h1) (he := h1) (hpl := hpl)
end
end
theorem call_tupAll {X : Cx} : CallR X (.type "tuple") (rTupAll X.K) := call_tuple_of
/-! ### targets in short -/
section
variable {X : Cx} {e : Expr} {es : List Expr}
theorem gds_c {g : DG} {h : DGs} (h1 : GD X e g) (h2 : GDs X es h) (ha : (assignEach (e :: es) X.env).map (·.2) = assign e X.env :: (assignEach es X.env).map (·.2) := by rfl) : GDs X (e :: es) (gsCons g h) := gds_cons (t := rdG X.K g) (u := rdGs X.K h) h1 h2 (pgs_cons h1.pg h2.pg ha)
theorem gd_t {h : DGs} {k n : Nat} {pos : Pos} (hc : X.calm = true) (h2 : GDs X es h) (hn : (assignEach es X.env).length = n := by rfl) (hst : (assignEach es X.env).findIdx? (·.1) = none := by rfl) : GD X (.Tuple es k pos) (gTupD n h) := gd_tup h2 (pg_tup hc h2.pg hn hst)
end
/-! ### the head -/
abbrev AlX : Type := He.AlD × Bool
def obsX (n : Nat) (fa : List He.Fa) (fn : List He.DefD) (ex : PySem.W.Frag → Bool) (g : Addr → Option Obj) : AlX := (He.obsD fa fn (He.frG g (He.asD g n)), ex (He.frG g (He.asD g n)))
def hookX (n : Nat) (fa : List He.Fa) (fn : List He.DefD) (ex : PySem.W.Frag → Bool) : PySem.W.Hook where
  α := AlX
  obs := fun s => obsX n fa fn ex s.heap.get?
  val := fun _ => (He.valD fn, true)
  says := fun _ h => ∃ K : PySem.W.Frag, K.In h ∧ He.SaysD fa fn K ∧ ex K = true
  of := fun _ _ e => ⟨_, He.frG_in, congrArg Prod.fst e, congrArg Prod.snd e⟩
  keeps := fun _ _ _ ⟨K, hK, c⟩ k => ⟨K, PySem.W.Frag.In.keeps hK k, c⟩
theorem obsX_eq {n : Nat} {fa : List He.Fa} {fn : List He.DefD} {ex : PySem.W.Frag → Bool} {g : Addr → Option Obj} {s : Shared} (h : ∀ a, g a = s.heap.get? a) : obsX n fa fn ex g = (hookX n fa fn ex).obs s := by
  have e : g = s.heap.get? := funext h
  rw [e] <;> rfl
structure Facts (fa : List He.Fa) (fn : List He.DefD) (ex : PySem.W.Frag → Bool) (K : PySem.W.Frag) (mg : Str → Option Value) : Prop where
  h : ∃ h : Heap, K.In h ∧ h.Ns mainGlobals mg
  c : He.SaysD fa fn K
  e : ex K = true
section
variable {fa : List He.Fa} {fn : List He.DefD} {ex : PySem.W.Frag → Bool} {K : PySem.W.Frag} {mg : Str → Option Value}
theorem Facts.glo (Y : Facts fa fn ex K mg) (i : Nat) {x : Str} (h : fa[i]? = some (.glo x) := by rfl) : mg x = some (.ref (He.ga K x)) := by
  obtain ⟨hp, X, G⟩ := Y.h
  exact He.glo_ok X G (Y.c.fact i h)
theorem Facts.int (Y : Facts fa fn ex K mg) (i : Nat) {x : Str} {k : Int} (h : fa[i]? = some (.int x k) := by rfl) : ∃ t, mg x = some (.int k t) := by
  obtain ⟨hp, X, G⟩ := Y.h
  exact He.int_ok X G (Y.c.fact i h)
theorem Facts.str (Y : Facts fa fn ex K mg) (i : Nat) {x k : Str} (h : fa[i]? = some (.str x k) := by rfl) : ∃ t, mg x = some (.str k t) := by
  obtain ⟨hp, X, G⟩ := Y.h
  exact He.str_ok X G (Y.c.fact i h)
theorem Facts.tb0 (Y : Facts fa fn ex K mg) (hl : ∃ l, fa = l ++ frees) : TB mg := by
  obtain ⟨hp, X, G⟩ := Y.h
  obtain ⟨l, rfl⟩ := hl
  refine tb_of X G fun f hf => ?_
  obtain ⟨i, hi⟩ := List.mem_iff_getElem?.mp (List.mem_append_right l hf)
  exact Y.c.fact i hi
end
/-- the law's promise off its mathematics -/
theorem spS_law {K : PySem.W.Frag} {f : PL} {H : Hp} {a : Addr} {ns : List Int} {E : XK} (hS : SqL K H a (ns.map V.int)) (h : ∃ S', f [.lst .ext (ns.map DV.int)] [] = some (.bl true, S')) : spS K 1 f [.ref a] H (fun v _ => v = .bl true) E := by
  obtain ⟨S', h⟩ := h
  refine ⟨⟨K, H, fun _ => none, fun _ => none, []⟩, [], [.lst .ext (ns.map DV.int)], .bl true, S', rfl, ⟨Same.refl _, (fun _ _ q => nomatch q), (fun _ _ q => nomatch q), fun _ _ e => e, rfl, fun n c a h _ => by simp at h, fun n m c c' a h => by simp at h⟩, rel1 ⟨a, _, rfl, hS, ints_rel _⟩, rfl, h, fun F' H' v le R' rv => rv⟩
end Dn

namespace Dn
open PySem PySem.Spec PyProof.Rows L2

/-! ### the laws' mathematics: evaluating denotations -/
mutual
/-- a value without cells and borrowed parts -/
def plain : DV → Bool
  | .loc _ => false
  | .tup ds => plainL ds
  | .tupx ds => plainL ds
  | .lst k ds => (match k with | .bor => false | _ => true) && plainL ds
  | .dik k _ ds => (match k with | .own => true | _ => false) && plainL ds
  | .dit k _ ds => (match k with | .own => true | _ => false) && plainL ds
  | _ => true
def plainL : List DV → Bool
  | [] => true
  | d :: ds => plain d && plainL ds
end
mutual
theorem mapD_plain {b : Bool} {h : Nat → Option DV} : ∀ {d : DV}, plain d = true → mapD b h d = some d
  | .loc _, e => by cases e
  | .non, _ => rfl
  | .bl _, _ => rfl
  | .int _, _ => rfl
  | .str _, _ => rfl
  | .tup ds, e => by
    unfold mapD
    rw [mapDL_plain (d := ds) e]
  | .tupx ds, e => by
    unfold mapD
    rw [mapDL_plain (d := ds) e]
  | .lst k ds, e => by
    unfold plain at e
    obtain ⟨e1, e2⟩ := Bool.and_eq_true_iff.mp e
    unfold mapD
    rw [mapDL_plain e2]
    cases k with
    | bor => cases e1
    | own => rfl
    | ext => rfl
  | .dik k ks ds, e => by
    unfold plain at e
    obtain ⟨e1, e2⟩ := Bool.and_eq_true_iff.mp e
    unfold mapD
    rw [mapDL_plain e2]
    cases k with
    | bor => cases e1
    | own => rfl
    | ext => cases e1
  | .dit k ks ds, e => by
    unfold plain at e
    obtain ⟨e1, e2⟩ := Bool.and_eq_true_iff.mp e
    unfold mapD
    rw [mapDL_plain e2]
    cases k with
    | bor => cases e1
    | own => rfl
    | ext => cases e1
theorem mapDL_plain {b : Bool} {h : Nat → Option DV} : ∀ {d : List DV}, plainL d = true → mapDL b h d = some d
  | [], _ => rfl
  | d :: ds, e => by
    unfold plainL at e
    obtain ⟨e1, e2⟩ := Bool.and_eq_true_iff.mp e
    unfold mapDL
    rw [mapD_plain e1, mapDL_plain e2]
end
theorem cpD_plain {b : Bool} {S : Sto} {d : DV} (h : plain d = true) : cpD b S d = some d := mapD_plain h
theorem cpL_plain {b : Bool} {S : Sto} {d : List DV} (h : plainL d = true) : cpL b S d = some d := mapDL_plain h
section
variable {b : Bool} {x : Str} {i : Int} {ds : List DV} {d : DV}
@[simp] theorem plain_non : plain .non = true := (rfl)
@[simp] theorem plain_bl : plain (.bl b) = true := (rfl)
@[simp] theorem plain_int : plain (.int i) = true := (rfl)
@[simp] theorem plain_str : plain (.str x) = true := (rfl)
@[simp] theorem plain_tup : plain (.tup ds) = plainL ds := (rfl)
@[simp] theorem plain_tupx : plain (.tupx ds) = plainL ds := (rfl)
@[simp] theorem plain_own : plain (.lst .own ds) = plainL ds := by simp [plain]
@[simp] theorem plain_ext : plain (.lst .ext ds) = plainL ds := by simp [plain]
@[simp] theorem plainL_nil : plainL [] = true := (rfl)
@[simp] theorem plainL_cons : plainL (d :: ds) = (plain d && plainL ds) := (rfl)
theorem plainL_iff : ∀ {ds : List DV}, plainL ds = true ↔ ∀ d ∈ ds, plain d = true
  | [] => by simp
  | d :: ds => by simp [plainL_iff (ds := ds)]
@[simp] theorem plainL_app {a b : List DV} : plainL (a ++ b) = (plainL a && plainL b) := by
  induction a with
  | nil => simp
  | cons x r ih => simp [ih, Bool.and_assoc]
@[simp] theorem plainL_ints {ns : List Int} : plainL (ns.map DV.int) = true := plainL_iff.mpr fun d h => by
  obtain ⟨i, _, rfl⟩ := List.mem_map.mp h
  rfl
@[simp] theorem plainL_strs {ns : List Str} : plainL (ns.map DV.str) = true := plainL_iff.mpr fun d h => by
  obtain ⟨i, _, rfl⟩ := List.mem_map.mp h
  rfl
end
/-- a cell's copy -/
theorem cpD_loc {b : Bool} {S : Sto} {n : Nat} {ds : List DV} (h : S[n]? = some (.lst ds)) (hp : plainL ds = true) : cpD b S (.loc n) = some (.lst (bk b) ds) := by
  show cpN b (S.length + 1) S n = _
  unfold cpN
  simp only [h, mapDL_plain hp]
theorem pureOf_of {f : PL} {ds : List DV} {d : DV} {S' : Sto} (h : f ds [] = some (d, S')) (hp : plain d = true) : pureOf f ds = some d := by
  unfold pureOf
  rw [h]
  exact cpD_plain hp
theorem pureOf_loc {f : PL} {ds es : List DV} {n : Nat} {S' : Sto} (h : f ds [] = some (.loc n, S')) (hn : S'[n]? = some (.lst es)) (hp : plainL es = true) : pureOf f ds = some (.lst .own es) := by
  unfold pureOf
  rw [h]
  exact cpD_loc hn hp
theorem freshOf_loc {f : PL} {ds es : List DV} {n : Nat} {S' : Sto} (h : f ds [] = some (.loc n, S')) (hn : S'[n]? = some (.lst es)) (hp : plainL es = true) : freshOf f ds = some es := by
  unfold freshOf
  simp only [h, hn]
  exact cpL_plain hp

section
variable {f g h : DE} {fa : DA} {s t : DS} {p : P2} {ρ : Ev} {S : Sto} {i : Nat} {d : DV} {pl : PL} {pf : List DV → Option DV} {xs : List DV}
@[simp] theorem v_var : dVar i ρ S = (match ρ[i]? with | some (some d) => some (d, S) | _ => none) := (rfl)
@[simp] theorem v_c : dC d ρ S = some (d, S) := (rfl)
@[simp] theorem v_un {p : P1} : dUn p f ρ S = (match f ρ S with | some (x, S1) => p x S1 | none => none) := (rfl)
@[simp] theorem v_bin : dBin p f g ρ S = (match f ρ S with | some (x, S1) => (match g ρ S1 with | some (y, S2) => p x y S2 | none => none) | none => none) := (rfl)
@[simp] theorem v_and : dAnd f g ρ S = (match f ρ S with | some (.bl true, S1) => g ρ S1 | some (.bl false, S1) => some (.bl false, S1) | _ => none) := (rfl)
@[simp] theorem v_or : dOr f g ρ S = (match f ρ S with | some (.bl true, S1) => some (.bl true, S1) | some (.bl false, S1) => g ρ S1 | _ => none) := (rfl)
@[simp] theorem v_not : dNot f ρ S = (match f ρ S with | some (.bl c, S1) => some (.bl (!c), S1) | _ => none) := (rfl)
@[simp] theorem v_if : dIf h f g ρ S = (match h ρ S with | some (.bl true, S1) => f ρ S1 | some (.bl false, S1) => g ρ S1 | _ => none) := (rfl)
@[simp] theorem v_nil : aNil ρ S = some ([], S) := (rfl)
@[simp] theorem v_cons : aCons f fa ρ S = (match f ρ S with | some (x, S1) => (match fa ρ S1 with | some (xs, S2) => some (x :: xs, S2) | none => none) | none => none) := (rfl)
@[simp] theorem v_prim : dPrim pl fa ρ S = (match fa ρ S with | some (xs, S1) => pl xs S1 | none => none) := (rfl)
@[simp] theorem v_next : dNext ρ S = some (.nx ρ S) := (rfl)
@[simp] theorem v_seq : dSeq s t ρ S = (match s ρ S with | some (.nx ρ' S') => t ρ' S' | o => o) := (rfl)
@[simp] theorem v_break : dBreak ρ S = some (.bk ρ S) := (rfl)
@[simp] theorem v_cont : dCont ρ S = some (.ct ρ S) := (rfl)
@[simp] theorem v_expr : dExpr f ρ S = (match f ρ S with | some (_, S') => some (.nx ρ S') | none => none) := (rfl)
@[simp] theorem v_ret : dRet f ρ S = (match f ρ S with | some (d, S') => some (.rt d S') | none => none) := (rfl)
@[simp] theorem v_retN : dRetN ρ S = some (.rt .non S) := (rfl)
@[simp] theorem v_ifS : dIfS f s t ρ S = (match f ρ S with | some (.bl true, S1) => s ρ S1 | some (.bl false, S1) => t ρ S1 | _ => none) := (rfl)
@[simp] theorem v_gset : gSet i d ρ S = some (ρ.set i (some d), S) := (rfl)
@[simp] theorem v_set : dSet i f ρ S = (match f ρ S with | some (d, S1) => some (.nx (ρ.set i (some d)) S1) | none => none) := (rfl)
@[simp] theorem v_isi {T : Ty7} : dIsi T f ρ S = (match f ρ S with | some (x, S1) => (match tyD S1 x with | some t => some (.bl (isT t T), S1) | none => none) | none => none) := (rfl)
@[simp] theorem v_for {it : DI} {gt : DG} : dFor it gt s ρ S = (match it ρ S with | some (ds, S1) => forL gt s ds ρ S1 | none => none) := (rfl)
@[simp] theorem v_aug : dAug i p f ρ S = (match ρ[i]? with | some (some x) => (match f ρ S with | some (y, S1) => (match p x y S1 with | some (d, S2) => some (.nx (ρ.set i (some d)) S2) | none => none) | none => none) | _ => none) := (rfl)
@[simp] theorem cP_eq : cP pf [] xs S = (match cpL true S xs with | some ys => (match pf ys with | some d => some (d, S) | none => none) | none => none) := by
  unfold cP
  rw [List.append_nil] <;> rfl
@[simp] theorem cM_eq {pm : List DV → Option (List DV)} : cM pm [] xs S = (match cpL true S xs with | some ys => (match pm ys with | some es => some (.loc S.length, S ++ [.lst es]) | none => none) | none => none) := by
  unfold cM
  rw [List.append_nil] <;> rfl
@[simp] theorem v_subI {a b : Int} : pSub (.int a) (.int b) S = some (.int (a - b), S) := (rfl)
@[simp] theorem v_addI {a b : Int} : pAdd (.int a) (.int b) S = some (.int (a + b), S) := (rfl)
@[simp] theorem v_addI2 {a b : Int} : pAddI (.int a) (.int b) S = some (.int (a + b), S) := (rfl)
@[simp] theorem v_andI {a b : Int} : pAnd (.int a) (.int b) S = some (.int (Builtin.bitAnd a b), S) := (rfl)
@[simp] theorem v_orI {a b : Int} : pOr (.int a) (.int b) S = some (.int (Builtin.bitOr a b), S) := (rfl)
@[simp] theorem v_xorI {a b : Int} : pXor (.int a) (.int b) S = some (.int (Builtin.bitXor a b), S) := (rfl)
@[simp] theorem v_neg {a : Int} : pNeg (.int a) S = some (.int (-a), S) := (rfl)
theorem v_modI {a b : Int} (h : 0 < b) : pMod (.int a) (.int b) S = some (.int (a % b), S) := by
  show (match gMod a b with | some k => some (DV.int k, S) | none => none) = _
  unfold gMod
  rw [if_pos h]
theorem v_divI {a b : Int} (h : 0 < b) (h2 : b < 18446744073709551616) : pDiv (.int a) (.int b) S = some (.int (a / b), S) := by
  have h3 : b.natAbs < 2 ^ 64 := by omega
  have h4 : b.natAbs.log2 < 64 := (Nat.log2_lt (by omega)).mpr h3
  have e : gDiv a b = some (a / b) := by
    unfold gDiv
    exact if_pos ⟨h, by omega⟩
  show (match gDiv a b with | some k => some (DV.int k, S) | none => none) = _
  rw [e]
theorem v_mulI {a b : Int} (h : -18446744073709551616 < b ∧ b < 18446744073709551616) : pMul (.int a) (.int b) S = some (.int (a * b), S) := by
  show (match gMul a b with | some k => some (DV.int k, S) | none => none) = _
  unfold gMul
  rw [if_pos (.inl (.inr (by omega)))]
theorem v_mulIl {a b : Int} (h : -18446744073709551616 < a ∧ a < 18446744073709551616) : pMul (.int a) (.int b) S = some (.int (a * b), S) := by
  show (match gMul a b with | some k => some (DV.int k, S) | none => none) = _
  unfold gMul
  rw [if_pos (.inl (.inl (by omega)))]
theorem v_powI {a : Int} {b : Nat} (h2 : b ≤ 1000000) (h3 : a.natAbs < 18446744073709551616) : pPow (.int a) (.int b) S = some (.int (a ^ b), S) := by
  show (match gPow a b with | some k => some (DV.int k, S) | none => none) = _
  unfold gPow
  rw [if_pos ⟨by omega, by omega, h3⟩]
  rfl
@[simp] theorem v_addL {k l : LK} {xs ys : List DV} (hk : k ≠ .ext := by decide) (hl : l ≠ .ext := by decide) : pAdd (.lst k xs) (.lst l ys) S = (if xs.length + ys.length ≤ sizeLine then some (.lst .own (xs ++ ys), S) else none) := by
  cases k <;> cases l <;> first | rfl | exact absurd rfl hk | exact absurd rfl hl
@[simp] theorem v_addS {a b : Str} : pAdd (.str a) (.str b) S = (if a.length + b.length ≤ sizeLine then some (.str (a ++ b), S) else none) := (rfl)
@[simp] theorem v_addT {xs ys : List DV} : pAdd (.tup xs) (.tup ys) S = (if xs.length + ys.length ≤ sizeLine then some (.tup (xs ++ ys), S) else none) := (rfl)
@[simp] theorem v_pLst {xs : List DV} : pLst xs S = (if xs.length ≤ sizeLine then some (.lst .own xs, S) else none) := (rfl)
@[simp] theorem v_pLstM {xs : List DV} : pLstM xs S = (if xs.length ≤ sizeLine then some (.loc S.length, S ++ [.lst xs]) else none) := (rfl)
@[simp] theorem v_pTup {xs : List DV} : pTup xs S = (if xs.length ≤ sizeLine then some (.tup xs, S) else none) := (rfl)
@[simp] theorem size_eq : sizeLine = 16777216 := (rfl)
@[simp] theorem v_lt {a b : Int} : pLt (.int a) (.int b) S = some (.bl (decide (a < b)), S) := (rfl)
@[simp] theorem v_le {a b : Int} : pLe (.int a) (.int b) S = some (.bl (decide (a ≤ b)), S) := (rfl)
@[simp] theorem v_gt {a b : Int} : pGt (.int a) (.int b) S = some (.bl (decide (b < a)), S) := (rfl)
@[simp] theorem v_ge {a b : Int} : pGe (.int a) (.int b) S = some (.bl (decide (b ≤ a)), S) := (rfl)
@[simp] theorem v_eqI {a b : Int} : pEq false (.int a) (.int b) S = some (.bl (decide (a = b)), S) := (rfl)
@[simp] theorem v_neI {a b : Int} : pEq true (.int a) (.int b) S = some (.bl (!decide (a = b)), S) := (rfl)
@[simp] theorem v_eqS {a b : Str} : pEq false (.str a) (.str b) S = some (.bl (decide (a = b)), S) := (rfl)
@[simp] theorem v_neS {a b : Str} : pEq true (.str a) (.str b) S = some (.bl (!decide (a = b)), S) := (rfl)
@[simp] theorem v_isN : pIs false d .non S = some (.bl (isNon d), S) := (rfl)
@[simp] theorem v_isnN : pIs true d .non S = some (.bl (!isNon d), S) := (rfl)
end
@[simp] theorem isNon_int {i : Int} : isNon (.int i) = false := (rfl)
@[simp] theorem isNon_str {i : Str} : isNon (.str i) = false := (rfl)
@[simp] theorem isNon_non : isNon .non = true := (rfl)
@[simp] theorem isNon_loc {n : Nat} : isNon (.loc n) = false := (rfl)
section
variable {f : DE} {ρ : Ev} {S : Sto}
@[simp] theorem iSeq_eq : iSeq f ρ S = (match f ρ S with | some (x, S1) => (match x with | .tup ds => some (ds, S1) | .tupx ds => some (ds, S1) | .lst _ ds => some (ds, S1) | .str s => some (s.cps.toList.map fun c => .str ⟨#[c]⟩, S1) | .loc n => (match S1[n]? with | some (.frz (.lst _ ds)) => some (ds, S1) | _ => none) | _ => none) | none => none) := (rfl)
end
/-! ### places -/
theorem ixN_nat {n k : Nat} (h : k < n) : ixN n (k : Int) = some k := by
  unfold ixN
  rw [if_pos (by omega), if_pos (by omega), Int.toNat_natCast]
theorem ixN_int {n : Nat} {i : Int} (h : 0 ≤ i) (h2 : i < n) : ixN n i = some i.toNat := by
  unfold ixN
  rw [if_pos h, if_pos h2]
section
variable {S : Sto} {ds : List DV} {i : Int} {d : DV}
theorem ix_seq {k : LK} (h : atD ds i = some d) : pIx (.lst k ds) (.int i) S = some (d, S) := by
  show (match atD ds i with | some d => some (d, S) | none => none) = _
  rw [h]
theorem ix_tup (h : atD ds i = some d) : pIx (.tup ds) (.int i) S = some (d, S) := by
  show (match atD ds i with | some d => some (d, S) | none => none) = _
  rw [h]
theorem ix_loc {n : Nat} (hn : S[n]? = some (.lst ds)) (h : atD ds i = some d) : pIx (.loc n) (.int i) S = some (d, S) := by
  show (match asL S (.loc n) with | some ds => (match atD ds i with | some d => some (d, S) | none => none) | none => _) = _
  unfold asL
  simp only [hn, h]
theorem ix_str {s : Str} {c : Nat} (hl : s.length ≤ sizeLine) (h : atI s.cps.toList i = some c) : pIx (.str s) (.int i) S = some (.str ⟨#[c]⟩, S) := by
  show (if s.length ≤ sizeLine then (match atI s.cps.toList i with | some c => some (DV.str ⟨#[c]⟩, S) | none => none) else none) = _
  rw [if_pos hl, h]
theorem atD_nat {k : Nat} (h : ds[k]? = some d) : atD ds (k : Int) = some d := by
  unfold atD
  rw [ixN_nat (List.getElem?_eq_some_iff.mp h).1]
  exact h
theorem atD_int (h0 : 0 ≤ i) (h : ds[i.toNat]? = some d) : atD ds i = some d := by
  have := atD_nat h
  rwa [Int.toNat_of_nonneg h0] at this
end

/-! ### comprehensions and loops -/
inductive All2 {α β : Type} (P : α → β → Prop) : List α → List β → Prop where
  | nil : All2 P [] []
  | cons {a b as bs} (h : P a b) (t : All2 P as bs) : All2 P (a :: as) (b :: bs)
theorem lcR_of {it : DI} {g : DG} {c fe : DE} {vs : List Nat} {ρ : Ev} {S S1 S2 : Sto} {ds ys : List DV} (hi : it ρ S = some (ds, S1)) (hl : lcL g c fe (dwipe ρ vs) ds S1 = some (ys, S2)) (hz : ys.length ≤ sizeLine) : lcR it g c fe vs ρ S = some (ys, S2) := by
  unfold lcR
  simp only [hi, hl]
  rw [if_pos hz]
theorem dLc_of {it : DI} {g : DG} {c fe : DE} {vs : List Nat} {ρ : Ev} {S S1 S2 : Sto} {ds ys : List DV} (hi : it ρ S = some (ds, S1)) (hl : lcL g c fe (dwipe ρ vs) ds S1 = some (ys, S2)) (hz : ys.length ≤ sizeLine) : dLc it g c fe vs ρ S = some (.lst .own ys, S2) := by
  unfold dLc
  simp only [lcR_of hi hl hz]
theorem dLcM_of {it : DI} {g : DG} {c fe : DE} {vs : List Nat} {ρ : Ev} {S S1 S2 : Sto} {ds ys : List DV} (hi : it ρ S = some (ds, S1)) (hl : lcL g c fe (dwipe ρ vs) ds S1 = some (ys, S2)) (hz : ys.length ≤ sizeLine) : dLcM it g c fe vs ρ S = some (.loc S2.length, S2 ++ [.lst ys]) := by
  unfold dLcM
  simp only [lcR_of hi hl hz]
theorem size_ok {n : Nat} (h : n ≤ 1000000) : n ≤ sizeLine := Nat.le_trans h (by decide)
theorem mem_rgD {lo : Int} {n : Nat} {d : DV} (h : d ∈ rgD lo n) : ∃ k : Nat, k < n ∧ d = .int (lo + (k : Nat)) := by
  unfold rgD at h
  obtain ⟨k, hk, rfl⟩ := List.mem_map.mp h
  exact ⟨k, List.mem_range.mp hk, rfl⟩
theorem len_rgD {lo : Int} {n : Nat} : (rgD lo n).length = n := by unfold rgD; simp
/-- a loop by an invariant: no return, no break -/
theorem forL_inv {g : DG} {body : DS} {I : Nat → Ev → Sto → Prop} : ∀ {ds : List DV} {k : Nat} {ρ : Ev} {S : Sto}, I k ρ S →
    (∀ (i : Nat) (d : DV) ρ S, ds[i]? = some d → I (k + i) ρ S → ∃ ρ1 S1 ρ2 S2, g d ρ S = some (ρ1, S1) ∧ (body ρ1 S1 = some (.nx ρ2 S2) ∨ body ρ1 S1 = some (.ct ρ2 S2)) ∧ I (k + i + 1) ρ2 S2) →
    ∃ ρ' S', forL g body ds ρ S = some (.nx ρ' S') ∧ I (k + ds.length) ρ' S'
  | [], k, ρ, S, h, _ => ⟨ρ, S, rfl, h⟩
  | d :: ds, k, ρ, S, h, st => by
    obtain ⟨ρ1, S1, ρ2, S2, h1, h2, h3⟩ := st 0 d ρ S rfl h
    obtain ⟨ρ', S', e, i⟩ := forL_inv (k := k + 1) (ds := ds) h3 fun i d ρ S hd hi => by
      obtain ⟨a, b, c, e, x, y, z⟩ := st (i + 1) d ρ S (by simpa using hd) (by rw [show k + (i + 1) = k + 1 + i by omega]; exact hi)
      exact ⟨a, b, c, e, x, y, by rw [show k + 1 + i + 1 = k + (i + 1) + 1 by omega]; exact z⟩
    refine ⟨ρ', S', ?_, by rw [List.length_cons, show k + (ds.length + 1) = k + 1 + ds.length by omega]; exact i⟩
    unfold forL
    simp only [h1]
    rcases h2 with h2 | h2 <;> simp only [h2, e]
end Dn

namespace Dn
open PySem PySem.Spec PyProof.Rows L2
/-! ### texts of single signs -/
abbrev one1 (c : Nat) : Str := ⟨#[c]⟩
def txt (cs : List Nat) : Str := ⟨cs.toArray⟩
theorem joinL_nil : ∀ ls : List (List Nat), TL.joinL [] ls = ls.flatten
  | [] => rfl
  | [a] => by simp [TL.joinL]
  | a :: b :: r => by
    have ih := joinL_nil (b :: r)
    simp only [TL.joinL] at ih ⊢
    simp [ih]
theorem join_ones (cs : List Nat) : Txt.join "" (cs.map one1) = txt cs := by
  apply TL.ext_tl
  rw [TL.join_eq, TL.tl_join]
  show TL.joinL [] _ = cs
  rw [joinL_nil, List.map_map]
  induction cs with
  | nil => rfl
  | cons a r ih =>
    rw [List.map_cons, List.flatten_cons, ih]
    rfl
theorem strsD_map {α : Type} {f : α → Str} : ∀ {l : List α}, strsD (l.map fun a => .str (f a)) = some (l.map f)
  | [] => rfl
  | a :: l => by
    rw [List.map_cons, List.map_cons]
    unfold strsD
    rw [strsD_map]
theorem ones_sum : ∀ cs : List Nat, ((cs.map one1).map (·.length)).sum = cs.length
  | [] => rfl
  | a :: r => by
    rw [List.map_cons, List.map_cons, List.sum_cons, ones_sum r]
    show 1 + _ = _ + 1
    omega
/-- ''.join of single signs -/
theorem join_signs {f : DE} {ρ : Ev} {S : Sto} {k : LK} {cs : List Nat} (h : f ρ S = some (.lst k (cs.map fun c => .str (one1 c)), S)) (hl : cs.length ≤ 1000000) : dM1 pJoin (dC (.str "")) f ρ S = some (.str (txt cs), S) := by
  unfold dM1
  simp only [v_c, h]
  unfold pJoin itemsD
  simp only [asL, strsD_map]
  have e := ones_sum cs
  rw [if_pos, join_ones]
  rw [e]
  show cs.length + (cs.map one1).length * 0 ≤ _
  omega
def abc : Str := "abcdefghijklmnopqrstuvwxyz"
theorem abc_at : ∀ k < 26, atI abc.cps.toList (k : Nat) = some (97 + k) := by decide +kernel
theorem abc_ix {S : Sto} {i : Int} (h0 : 0 ≤ i) (h1 : i < 26) : pIx (.str "abcdefghijklmnopqrstuvwxyz") (.int i) S = some (.str (one1 (97 + i.toNat)), S) := by
  have e := abc_at i.toNat (by omega)
  rw [Int.toNat_of_nonneg h0] at e
  exact ix_str (s := abc) (by decide) e
/-- a comprehension over a range -/
theorem lcL_range {g : DG} {c fe : DE} {ρ : Ev} {S : Sto} {lo : Int} {n : Nat} {h : Nat → DV} (hh : ∀ k, k < n → ∃ ρ1, g (.int (lo + (k : Nat))) ρ S = some (ρ1, S) ∧ c ρ1 S = some (.bl true, S) ∧ fe ρ1 S = some (h k, S)) : lcL g c fe ρ (rgD lo n) S = some ((List.range n).map h, S) := by
  have gen : ∀ l : List Nat, (∀ k ∈ l, k < n) → lcL g c fe ρ (l.map fun i => .int (lo + (i : Nat))) S = some (l.map h, S) := by
    intro l
    induction l with
    | nil => intro _; rfl
    | cons a r ih =>
      intro hl
      obtain ⟨ρ1, h1, h2, h3⟩ := hh a (hl a List.mem_cons_self)
      rw [List.map_cons]
      unfold lcL
      simp only [h1, h2, h3, ih fun k hk => hl k (List.mem_cons_of_mem _ hk)]
      rfl
  exact gen _ fun k hk => List.mem_range.mp hk
theorem All2.mem {α β : Type} {P : α → β → Prop} : ∀ {as : List α} {bs : List β}, All2 P as bs → ∀ b ∈ bs, ∃ a ∈ as, P a b
  | _, _, .nil, b, h => by cases h
  | _, _, .cons h t, b, hb => by
    rcases List.mem_cons.mp hb with rfl | hb
    · exact ⟨_, List.mem_cons_self, h⟩
    · obtain ⟨a, h1, h2⟩ := All2.mem t b hb
      exact ⟨a, List.mem_cons_of_mem _ h1, h2⟩
theorem All2.len {α β : Type} {P : α → β → Prop} : ∀ {as : List α} {bs : List β}, All2 P as bs → as.length = bs.length
  | _, _, .nil => rfl
  | _, _, .cons h t => by rw [List.length_cons, List.length_cons, t.len]
/-! ### equal data -/
mutual
/-- data that == can look at -/
def good : DV → Bool
  | .non => true
  | .bl _ => true
  | .int _ => true
  | .str s => PyData.strOk s
  | .tup ds => goodL ds
  | .lst _ ds => goodL ds
  | _ => false
def goodL : List DV → Bool
  | [] => true
  | d :: ds => good d && goodL ds
end
mutual
def deep : DV → Nat
  | .tup ds => deepL ds + 1
  | .lst _ ds => deepL ds + 1
  | _ => 0
def deepL : List DV → Nat
  | [] => 0
  | d :: ds => max (deep d) (deepL ds)
end
mutual
theorem toPy_good : ∀ {d : DV}, good d = true → ∃ p, toPy d = some p ∧ p.canLay0 = true ∧ p.depth = deep d
  | .non, _ => ⟨_, rfl, rfl, rfl⟩
  | .bl b, _ => ⟨_, rfl, rfl, rfl⟩
  | .int b, _ => ⟨_, rfl, rfl, rfl⟩
  | .str b, h => ⟨_, rfl, h, rfl⟩
  | .tup ds, h => by
    obtain ⟨p, h1, h2, h3⟩ := toPyL_good (ds := ds) h
    refine ⟨.tuple p, ?_, h2, ?_⟩
    · unfold toPy
      rw [h1]
    · show PyData.depthAll p + 1 = _
      rw [h3] <;> rfl
  | .lst k ds, h => by
    obtain ⟨p, h1, h2, h3⟩ := toPyL_good (ds := ds) h
    refine ⟨.list p, ?_, h2, ?_⟩
    · unfold toPy
      rw [h1]
    · show PyData.depthAll p + 1 = _
      rw [h3] <;> rfl
  | .tupx _, h => by cases h
  | .dik _ _ _, h => by cases h
  | .dit _ _ _, h => by cases h
  | .loc _, h => by cases h
theorem toPyL_good : ∀ {ds : List DV}, goodL ds = true → ∃ p, toPyL ds = some p ∧ PyData.canLayAll0 p = true ∧ PyData.depthAll p = deepL ds
  | [], _ => ⟨[], rfl, rfl, rfl⟩
  | d :: ds, h => by
    obtain ⟨h1, h2⟩ := Bool.and_eq_true_iff.mp (show (good d && goodL ds) = true from h)
    obtain ⟨p, a1, a2, a3⟩ := toPy_good h1
    obtain ⟨q, b1, b2, b3⟩ := toPyL_good h2
    refine ⟨p :: q, ?_, ?_, ?_⟩
    · unfold toPyL
      simp only [a1, b1]
    · show (p.canLay0 && PyData.canLayAll0 q) = true
      rw [a2, b2] <;> rfl
    · show max p.depth (PyData.depthAll q) = max (deep d) (deepL ds)
      rw [a3, b3]
end
/-- what a value or a cell holds: for == -/
theorem eqDeep_same {S : Sto} {x y x' y' : DV} {p : PyData} (hx : cpD true S x = some x') (hy : cpD true S y = some y') (px : toPy x' = some p) (py : toPy y' = some p) (hl : p.canLay0 = true) (hd : p.depth ≤ 64) : eqDeep S x y = some true := by
  have s : SeqAt.shaped p = true := by
    unfold SeqAt.shaped
    rw [hl, decide_eq_true hd] <;> rfl
  unfold eqDeep
  simp only [hx, hy, px, py]
  rw [if_pos ⟨s, s⟩, SeqAt.eqv_refl p hl]
/-! ### lists of texts, each once -/
theorem get_lt {n : Nat} {S : Sto} {c : Cell} (h : S[n]? = some c) : n < S.length := (List.getElem?_eq_some_iff.mp h).1
end Dn

/-! enumerate over a tuple -/
namespace Dn
open PySem PySem.Spec PyProof.Rows L2
set_option maxHeartbeats 1000000 in
theorem meets_enum1 {v : Value} {o : Obj} {H : Heap → Prop} (B : Begins v o H) :
    Meets (Builtin.«enumerate.__new__» ⟨[.type "enumerate", v], []⟩) (fun _ R s => H s.heap ∧
      R (.ok (.ret (.ref (s.heap.push o).objs.size))) { s with heap := (s.heap.push o).push { cls := .type "enumerate", data := .fields #[.none, .bool false, .ref s.heap.objs.size, rawInt 0, .none, .none] } }) :=
  .of_wp fun prog w A R s h => by
    obtain ⟨hp, g, d, tk, os⟩ := s; obtain ⟨h1, h⟩ := h
    have hsub := sub_enumerate
    have q1 : ∀ {A' : Around} {E : Value → Shared → Prop} {Q : Value → Shared → Prop}, Q (.ref hp.objs.size) ⟨hp.push o, g, d, tk, os⟩ → wpAny (model prog w) A' (pyIter v) Q E ⟨hp, g, d, tk, os⟩ :=
      fun q => B.iter prog w _ _ ⟨hp, g, d, tk, os⟩ _ h1 q
    wp_walk using q1
    refine wpAny_stack_any fun st => wpAny_pure ?_
    split
    · rename_i c _ _ _ _ _
      cases (c == Value.type "enumerate")
      · wp_walk using q1
        exact ⟨_, rfl, h⟩
      · wp_walk using q1
        exact ⟨_, rfl, h⟩
    · wp_walk using q1
      exact ⟨_, rfl, h⟩
section
variable {prog : Program} {w : World} {A : Around} {E : Value → Shared → Prop} {s : Shared}
theorem call_enum1 {v : Value} {o : Obj} {H : Heap → Prop} {Q : Value → Shared → Prop} (B : Begins v o H) (h1 : H s.heap)
    (h : ∀ h', IsEnum h' (s.heap.objs.size + 1) s.heap.objs.size 0 .none → h'.get? s.heap.objs.size = some o → h'.objs.size = s.heap.objs.size + 2 →
      (∀ b o, s.heap.get? b = some o → h'.get? b = some o) → Q (.ref (s.heap.objs.size + 1)) { s with heap := h' }) :
    wpAny (model prog w) A (call (.type "enumerate") [v]) Q E s := by
  refine callType_new F.called_enumerate (by decide) (F.typeCall_enumerate_1 _) (F.newCall_enumerate_1 _) (fun obj => F.args_object_init_2 obj _) F.entry_enumerate_new
    (meets_enum1 B) ⟨h1, ?_⟩
  have hz : (s.heap.push o).objs.size = s.heap.objs.size + 1 := Heap.size_push ..
  show _ ∧ _
  rw [hz]
  have he : IsEnum ((s.heap.push o).push { cls := .type "enumerate", data := .fields #[.none, .bool false, .ref s.heap.objs.size, rawInt 0, .none, .none] }) (s.heap.objs.size + 1) s.heap.objs.size 0 .none := by
    have := Heap.get?_push_size (s.heap.push o) (o := { cls := .type "enumerate", data := .fields #[.none, .bool false, .ref s.heap.objs.size, rawInt 0, .none, .none] }) rfl
    rw [hz] at this; exact this
  refine ⟨⟨_, he, rfl⟩, h _ he (Heap.get?_push_of_some _ (Heap.get?_push_size _ B.free)) (by rw [Heap.size_push, hz]) fun b o x => Heap.get?_push_of_some _ (Heap.get?_push_of_some _ x)⟩
end
/-- the tuple at a, each item in a new pair -/
def Itet (K : PySem.W.Frag) (a : Addr) : It :=
  ⟨fun i H => ∃ (xs : List V) (x : V), SqT K H a xs ∧ xs[i]? = some x, fun i H v H' => ∃ T x, v = .ref T ∧ H T = none ∧ H' = upd H T (.tup [.int (i : Nat), x]) ∧ ∀ xs, SqT K H a xs → xs[i]? = some x, fun i H => ∃ xs : List V, SqT K H a xs ∧ xs.length ≤ i⟩
theorem turn_enumT {P : Program} {w : World} {K : PySem.W.Frag} {elts : List Expr} {kk : Nat} {tpos : Pos} (a e it : Addr) :
    Turn P w K (.Tuple elts kk tpos) (Itet K a) [e, it] e (fun i h => (∃ old, IsEnum h e it ((i : Nat) : Int) old) ∧ h.IsTupleIter it a i ∧ e ≠ it) where
  mem := by simp
  obj := fun i h st b hb => by
    obtain ⟨⟨old, he⟩, ⟨o, ho, hc, hd⟩, _⟩ := st
    have e' : b = e ∨ b = it := by simpa using hb
    rcases e' with z | z
    · rw [z]; exact ⟨_, he, fun v q => nomatch q⟩
    · rw [z]; exact ⟨o, ho, fun v q => by rw [hd] at q; cases q⟩
  keep := fun i h h' st k => let ⟨⟨old, he⟩, hi, hne⟩ := st; ⟨⟨old, k e (by simp) _ he⟩, hi.at fun o q => k it (by simp) o q, hne⟩
  item := by
    intro X hP hw hK hc i pins s σ H E I hf st hg
    subst hP hw hK
    obtain ⟨⟨old, he⟩, hit, hne⟩ := st
    obtain ⟨xs, x, hq, hx⟩ := hg
    obtain ⟨its, rv, p, hz⟩ := I.tuple hq
    obtain ⟨u, hu, ru⟩ := rv.get hx
    have hel : e < s.heap.objs.size := Heap.lt_size he
    have hil : it < s.heap.objs.size := by obtain ⟨_, q, _⟩ := hit; exact Heap.lt_size q
    have pt : s.heap.IsTuple a its.toArray := p
    have nai : a ≠ it := fun q => by
      obtain ⟨o1, h1, c1, _⟩ := pt
      obtain ⟨o2, h2, c2, _⟩ := id hit
      rw [q, h2] at h1
      cases h1
      rw [c2] at c1
      exact absurd c1 (by simp)
    have nae : a ≠ e := fun q => by
      obtain ⟨o1, h1, c1, _⟩ := pt
      rw [q, he] at h1
      cases h1
      exact absurd c1 (by simp)
    have hlt : i < its.toArray.size := by
      have := (List.getElem?_eq_some_iff.mp hu).1
      simpa using this
    refine wpAny_pyNext_enum_itemD (Draws.tuple (A := X.A.in1) (I.ok.hd hc) it a nai its.toArray) he ⟨hit, pt⟩ hlt hne (by simp [hne]; exact fun q => nae q.symm) fun x' h' tk hPx ho hst' hT hsz hk => ?_
    have ex' : x' = u := by
      have h2 : its.toArray[i]? = some x' := hPx
      have h3 : its.toArray[i]? = some u := by simpa using hu
      rw [h3] at h2
      exact (Option.some.inj h2).symm
    subst ex'
    refine ⟨_, rfl, wpAny_letOwnedTupleGo_enum (s := { s with heap := h', toks := tk + 1 }) ho fun h'' he' sb => ?_⟩
    have hT2 : h''.get? s.heap.objs.size = some { cls := .type "tuple", data := .seq #[.int i tk, x'] } := (sb.2 _ (Nat.ne_of_gt hel)).trans hT
    have new : ObjOk X.prog X.w (upd H s.heap.objs.size (.tup [.int (i : Nat), x])) h'' s.heap.objs.size (.tup [.int (i : Nat), x]) :=
      ⟨by show 2 ≤ sizeLine; decide, [.int i tk, x'], .cons ⟨_, rfl⟩ (.cons ru .nil), ⟨_, hT2, rfl, _, rfl⟩⟩
    have I1 : Inv X pins σ (upd H s.heap.objs.size (.tup [.int (i : Nat), x])) { s with heap := h'', toks := tk + 1 } :=
      I.turnedNew (ch := [e, it]) (fun b ob hb q => (sb.2 b (fun z => hb (by simp [z]))).trans (hk b ob (fun z => hb (by simp [z])) (fun z => hb (by simp [z])) q)) hf (Nat.le_refl _) new
    refine ⟨.ref s.heap.objs.size, _, I1, rfl, ⟨_, x, rfl, I.hok.fresh (Nat.le_refl _), rfl, fun ys hy => by rw [I.tuple_inj hy hq]; exact hx⟩, ⟨⟨x', ?_⟩, hst'.1.at fun o q => (sb.2 it (Ne.symm hne)).trans q, hne⟩, fun b hb => ?_⟩
    · have e1 : ((i + 1 : Nat) : Int) = (i : Int) + 1 := by omega
      rw [e1]; exact he'
    · have hb' : b < s.heap.objs.size := by
        have e' : b = e ∨ b = it := by simpa using hb
        rcases e' with z | z
        · rw [z]; exact hel
        · rw [z]; exact hil
      rw [upd_ne (Nat.ne_of_lt hb')]
      exact (hf b hb).1
  done := by
    intro X hP hw hK hc i pins s σ H E I hf st hg
    subst hP hw hK
    obtain ⟨⟨old, he⟩, hit, hne⟩ := st
    obtain ⟨xs, hq, hx⟩ := hg
    obtain ⟨its, rv, p, hz⟩ := I.tuple hq
    obtain ⟨f0, f1, f2, f3, f4, f5⟩ := hf it (by simp)
    have hl := rv.length
    have pt : s.heap.IsTuple a its.toArray := p
    have hT : s.TypeIs (.ref e) "enumerate" := ⟨_, he, rfl⟩
    unfold pyNext
    refine wpAny_bind (wpAny_attempt (wpAny_callSpecial?_slot (name := Str.ofString "__next__") hT F.slot_enumerate_next
      (wpAny_call_entry F.slot_enumerate_next hT F.entry_enumerate_next ?_ (F.args_enumerate_next_1 _))))
    show wpAny _ _ (PySem.field (.ref e) 2 >>= _) _ _ _
    refine wpAny_bind (wpAny_field he rfl (x := .ref it) rfl ?_)
    refine wpAny_bind (wpAny_nextOf_tuple_end (I.ok.hd hc) hit pt (by simp; omega) fun h' x he' hx' => ?_)
    obtain ⟨o, ho, hcl⟩ := hx'
    refine wpAny_bind (wpAny_isInstance (T := "StopIteration") (b := true) ⟨o, ho, hcl⟩ isSubtype_stop ?_)
    exact wpAny_pure ⟨rfl, I.turned (t' := s.toks) (fun b o hb q => he' b o hb q) f0 f1 f3 f4 f5⟩
  self := fun A i s Q E st h => let ⟨⟨_, he⟩, _⟩ := st; wpAny_pyIter_enum he h
def iEnT (K : PySem.W.Frag) (ta : TA) : TI := fun σ H R => ta σ H fun vs H1 => ∃ a xs, vs = [.ref a] ∧ SqT K H1 a xs ∧ R (Itet K a) H1
theorem pi_enumT {X : Cx} {e : Expr} {ta : TA} {p pos tpos : Pos} {elts : List Expr} {kk : Nat} (hg : Gl X "enumerate") (hm : X.mg "enumerate" = none) (ha : PA X [e] ta) (hs : starEach [e] X.env = [(false, eval e X.env)] := by rfl) :
    PI X (.Tuple elts kk tpos) (.Call (.Name "enumerate" p) [e] [] pos) (iEnT X.K ta) := by
  refine ⟨fun pins s σ H R I h => ?_⟩
  refine Call_ (ld_blt I hg hm boot_enumerate (PyProof.Rows.callWith_type1 (thn (ha.run pos pins s σ H _ I h) fun us s1 ⟨vs, H1, I1, r1, q1⟩ => ?_) hs rfl))
  obtain ⟨a, xs, ex, hq, q⟩ := q1
  subst ex
  cases r1 with
  | cons r rr =>
    cases rr
    cases r
    obtain ⟨its, rv, p', hz⟩ := I1.tuple hq
    refine call_enum1 (begins_tuple a its.toArray) (show s1.heap.IsTuple a its.toArray from p') fun h' he hit hsz hk => wpAny_pyIter_enum he ?_
    have I2 : Inv X pins σ H1 { s1 with heap := h' } := I1.kept (t' := s1.toks) hk
    refine ⟨s1.heap.objs.size + 1, [s1.heap.objs.size + 1, s1.heap.objs.size], _, _, H1, rfl, I2, turn_enumT a (s1.heap.objs.size + 1) s1.heap.objs.size, ⟨⟨.none, he⟩, ⟨_, hit, rfl, rfl⟩, Nat.succ_ne_self _⟩, fun b hb => ?_, q⟩
    have e' : b = s1.heap.objs.size + 1 ∨ b = s1.heap.objs.size := by simpa using hb
    have hle : s1.heap.objs.size ≤ b := by
      rcases e' with z | z
      · rw [z]; exact Nat.le_add_right _ _
      · rw [z]; exact Nat.le_refl _
    exact I1.fpOk hle (I1.hok.fresh hle)
theorem walks_enumT {F : Fm} {a : Addr} {ds : List DV} (h : ∀ F' S H, Wk F F' → Rep F' S H → ∃ xs, SqT F.K H a xs ∧ RelL F' ds xs) : Walks (Itet F.K a) F (enD 0 ds) := fun i F' S H w _ R => by
  obtain ⟨xs, hs, rl⟩ := h F' S H w R
  refine ⟨fun e => ⟨xs, hs, by rw [e, enD_len, rl.length]; exact Nat.le_refl _⟩, fun d hd => ?_⟩
  rw [enD_get] at hd
  cases hd0 : ds[i]? with
  | none =>
    rw [hd0] at hd
    cases hd
  | some d0 =>
    rw [hd0] at hd
    cases hd
    obtain ⟨x, hx, rx⟩ := rl.get hd0
    refine ⟨⟨xs, x, hs, hx⟩, fun y H' yl => ?_⟩
    obtain ⟨T, x', rfl, hT, rfl, hy⟩ := yl
    have e := (hy xs hs).symm.trans hx
    cases e
    obtain ⟨R', le⟩ := R.add (o := .tup [.int (i : Nat), x]) hT
    exact ⟨_, le, R', T, _, rfl, upd_same, .cons (by rw [Nat.zero_add]; exact rfl) (.cons (rx.le le) rfl)⟩
def iEnum2 (f : DA) : DI := fun ρ S => match f ρ S with
  | some ([.tup ds], S1) => some (enD 0 ds, S1)
  | some ([x], S1) => (match valL S1 x with
    | some ds => some (enD 0 ds, S1)
    | none => none)
  | _ => none
section
variable {X : Cx} {e : Expr} {fa : DA}
theorem id_enum2 {tg : Expr} {es : List Expr} (ha : AD X es fa) (h : ∀ {t : TA}, PA X es t → PI X tg e (L2.iEnum X.K t)) (h2 : ∀ {t : TA}, PA X es t → PI X tg e (iEnT X.K t)) : ID X tg e (iEnum2 fa) :=
  .of (PI.or (h ha.pa) (h2 ha.pa)) fun F S H ρ σ ds S' Q hk R rr hf hq => by
    unfold iEnum2 at hf
    split at hf
    · rename_i es S1 h1
      cases hf
      refine .inr (rdA.go hk R rr h1 fun F1 H1 vs le hk1 R1 r1 rl => ?_)
      obtain ⟨v, rfl, rv⟩ := one rl
      obtain ⟨a, xs, rfl, hs, rl⟩ := rv
      rw [← hk1]
      exact ⟨a, xs, rfl, SqT.of (R1.g _ _ hs), hq _ F1 H1 le R1 (walks_enumT fun F' S' H' w R' => ⟨xs, SqT.of (R'.g _ _ (w.g _ _ hs)), RelL.wk w _ _ rl⟩)⟩
    · rename_i x S1 h1
      split at hf
      · rename_i es hv
        cases hf
        refine .inl (rdA.go hk R rr h1 fun F1 H1 vs le hk1 R1 r1 rl => ?_)
        obtain ⟨v, rfl, rv⟩ := one rl
        obtain ⟨k, rv⟩ := valL_ok R1 rv hv
        obtain ⟨a, xs, rfl, hs, _⟩ := rv.lstSq R1
        rw [← hk1]
        refine ⟨a, xs, rfl, hs, hq _ F1 H1 le R1 (walks_enum fun F' S' H' w R' => ?_)⟩
        obtain ⟨a', xs', e, hs', rl'⟩ := (Rel.wk w _ _ rv).lstSq R'
        cases e
        rw [w.k] at hs'
        exact ⟨xs', hs', rl'⟩
      · cases hf
    · cases hf
end

/-! ### written texts are alike just where they are written alike -/
theorem charNat_inj {x y : Char} (h : x.toNat = y.toNat) : x = y := by
  apply Char.ext
  exact UInt32.toNat_inj.mp h
theorem mapNat_inj : ∀ {l m : List Char}, l.map Char.toNat = m.map Char.toNat → l = m
  | [], [], _ => rfl
  | [], _ :: _, h => by cases h
  | _ :: _, [], h => by cases h
  | x :: l, y :: m, h => by
    rw [List.map_cons, List.map_cons] at h
    injection h with h1 h2
    rw [charNat_inj h1, mapNat_inj h2]
@[simp] theorem ofString_inj {a b : String} : (Str.ofString a = Str.ofString b) = (a = b) := by
  apply propext
  constructor
  · intro h
    rw [Str.ofString_eq_toList, Str.ofString_eq_toList] at h
    have h2 : a.toList.map Char.toNat = b.toList.map Char.toNat := by
      have := congrArg (fun s : Str => s.cps.toList) h
      simpa using this
    exact String.toList_inj.mp (mapNat_inj h2)
  · intro h
    rw [h]
end Dn

namespace Dn
open PySem PySem.Spec PyProof.Rows L2
section
variable {f g : DE} {lo hi : DO} {ρ : Ev} {S : Sto} {p : DV → Option Int → Option Int → Sto → Option (DV × Sto)} {fa : DA} {pm : PM}
@[simp] theorem v_sl : dSl p f lo hi ρ S = (match f ρ S with | some (x, S1) => (match lo ρ S1 with | some (l, S2) => (match hi ρ S2 with | some (u, S3) => p x l u S3 | none => none) | none => none) | none => none) := (rfl)
@[simp] theorem dwipe_nil : dwipe ρ [] = ρ := (rfl)
@[simp] theorem dwipe_cons {v : Nat} {vs : List Nat} : dwipe ρ (v :: vs) = (dwipe ρ vs).set v none := (rfl)
@[simp] theorem v_oN : oNone ρ S = some (none, S) := (rfl)
@[simp] theorem v_oS : oSome f ρ S = (match f ρ S with | some (.int i, S1) => some (some i, S1) | _ => none) := (rfl)
@[simp] theorem v_slS {s : Str} {l u : Option Int} : pSl (.str s) l u S = (if s.length ≤ sizeLine then some (.str (cutS s l u), S) else none) := (rfl)
@[simp] theorem v_slL {k : LK} {xs : List DV} {l u : Option Int} : pSl (.lst k xs) l u S = some (.lst .own (cutD xs l u), S) := (rfl)
@[simp] theorem v_slT {xs : List DV} {l u : Option Int} : pSl (.tup xs) l u S = some (.tup (cutD xs l u), S) := (rfl)
@[simp] theorem v_mt : dMt pm f fa ρ S = (match f ρ S with | some (x, S1) => (match asL S1 x with | some _ => (match fa ρ S1 with | some (xs, S2) => pm x xs S2 | none => none) | none => none) | none => none) := (rfl)
theorem app_loc {n : Nat} {y : DV} {xs : List DV} (h : S[n]? = some (.lst xs)) (hz : xs.length < 16777216) : pAppend (.loc n) [y] S = some (.non, S.set n (.lst (xs ++ [y]))) := by
  unfold pAppend
  simp only [h]
  exact if_pos hz
theorem asL_loc {n : Nat} {xs : List DV} (h : S[n]? = some (.lst xs)) : asL S (.loc n) = some xs := by
  unfold asL
  simp only [h]
@[simp] theorem asL_lst {k : LK} {xs : List DV} : asL S (.lst k xs) = some xs := (rfl)
@[simp] theorem v_lenL {k : LK} {xs : List DV} : pLen [.lst k xs] S = some (.int xs.length, S) := (rfl)
@[simp] theorem v_lenT {xs : List DV} : pLen [.tup xs] S = some (.int xs.length, S) := (rfl)
@[simp] theorem v_lenS {x : Str} : pLen [.str x] S = (if x.length ≤ sizeLine then some (.int x.length, S) else none) := (rfl)
@[simp] theorem v_tupL {k : LK} {xs : List DV} : pTuple [.lst k xs] S = some (.tup xs, S) := (rfl)
@[simp] theorem v_tupT {xs : List DV} : pTuple [.tup xs] S = some (.tup xs, S) := (rfl)
@[simp] theorem v_listT {xs : List DV} : pList [.tup xs] S = some (.lst .own xs, S) := (rfl)
@[simp] theorem v_listL {k : LK} {xs : List DV} : pList [.lst k xs] S = some (.lst .own xs, S) := (rfl)
@[simp] theorem v_intB {b : Bool} : pInt [.bl b] S = some (.int (if b then 1 else 0), S) := (rfl)
@[simp] theorem v_intI {b : Int} : pInt [.int b] S = some (.int b, S) := (rfl)
@[simp] theorem v_chain {p q : P2} {f g h : DE} : dChain p q f g h ρ S = (match f ρ S with
  | some (x, S1) => (match g ρ S1 with
    | some (y, S2) => (match p x y S2 with
      | some (.bl true, S3) => (match h ρ S3 with
        | some (z, S4) => q y z S4
        | none => none)
      | some (.bl false, S3) => some (.bl false, S3)
      | _ => none)
    | none => none)
  | none => none) := (rfl)
@[simp] theorem v_addM {k l : LK} {xs ys : List DV} (hk : k ≠ .ext := by decide) (hl : l ≠ .ext := by decide) : pAddM (.lst k xs) (.lst l ys) S = (if xs.length + ys.length ≤ sizeLine then some (.loc S.length, S ++ [.lst (xs ++ ys)]) else none) := by
  cases k <;> cases l <;> first | rfl | exact absurd rfl hk | exact absurd rfl hl
@[simp] theorem ty_int {i : Int} : tyD S (.int i) = some .int := (rfl)
@[simp] theorem ty_str {i : Str} : tyD S (.str i) = some .str := (rfl)
@[simp] theorem ty_bl {i : Bool} : tyD S (.bl i) = some .bool := (rfl)
@[simp] theorem ty_non : tyD S .non = some .non := (rfl)
@[simp] theorem ty_tup {i : List DV} : tyD S (.tup i) = some .tuple := (rfl)
@[simp] theorem ty_own {i : List DV} : tyD S (.lst .own i) = some .list := (rfl)
@[simp] theorem ty_bor {i : List DV} : tyD S (.lst .bor i) = some .list := (rfl)
end
theorem cutS_len (z : Str) (l u : Option Int) : (cutS z l u).length ≤ z.length := by
  show ((List.take _ (List.drop _ z.cps.toList)).toArray).size ≤ z.cps.size
  simp
  omega
theorem txt_len (cs : List Nat) : (txt cs).length = cs.length := by
  show cs.toArray.size = _
  simp
theorem app_len (a b : Str) : (a ++ b).length = a.length + b.length := Str.length_append a b
theorem All2.get {α β : Type} {P : α → β → Prop} : ∀ {as : List α} {bs : List β} {i : Nat} {a : α}, All2 P as bs → as[i]? = some a → ∃ b, bs[i]? = some b ∧ P a b
  | _, _, i, a, .nil, h => by simp at h
  | _, _, 0, a, .cons p t, h => by
    cases h
    exact ⟨_, rfl, p⟩
  | _, _, i + 1, a, .cons p t, h => by
    rw [List.getElem?_cons_succ] at h
    obtain ⟨b, h1, h2⟩ := t.get h
    exact ⟨b, by rw [List.getElem?_cons_succ]; exact h1, h2⟩
end Dn

/-! objects -/
namespace Dn
open PySem PySem.Spec PyProof.Rows L2
/-- the classes' attributes that instances may have -/
abbrev ATab := List (Str × Str)
def insD (S : Sto) : DV → Option (Str × List (Str × DV))
  | .loc n => match S[n]? with
    | some (.ins C fs) => some (C, fs)
    | _ => none
  | _ => none
theorem insD_ok {F : Fm} {S : Sto} {H : Hp} {d : DV} {v : V} {C : Str} {fs : List (Str × DV)} (R : Rep F S H) (r : Rel F d v) (h : insD S d = some (C, fs)) : ∃ n a dx xs, d = .loc n ∧ S[n]? = some (.ins C fs) ∧ F.lm[n]? = some a ∧ v = .ref a ∧ H a = some (.ins (He.ga F.K C) dx ((fs.map (·.1)).zip xs)) ∧ RelL F (fs.map (·.2)) xs := by
  unfold insD at h
  split at h
  · rename_i n
    split at h
    · rename_i C' fs' hc
      cases h
      obtain ⟨a, ha, rfl⟩ := r
      obtain ⟨⟨dx, xs, e, rl⟩, _⟩ := R.cell n _ a hc ha
      exact ⟨n, a, dx, xs, rfl, hc, ha, rfl, e, rl⟩
    · cases h
  · cases h
theorem lookup_ok {F : Fm} {f : Str} : ∀ {fs : List (Str × DV)} {xs : List V}, RelL F (fs.map (·.2)) xs → (∀ {d}, fs.lookup f = some d → ∃ v, ((fs.map (·.1)).zip xs).lookup f = some v ∧ Rel F d v) ∧ (fs.lookup f = none → ((fs.map (·.1)).zip xs).lookup f = none)
  | [], xs, h => ⟨(fun {d} q => nomatch q), fun _ => by rw [List.map_nil, List.zip_nil_left] <;> rfl⟩
  | (g, d0) :: fs, xs, h => by
    obtain ⟨x, r, rfl, h1, h2⟩ := h
    obtain ⟨i1, i2⟩ := lookup_ok (f := f) h2
    rw [List.map_cons, List.zip_cons_cons]
    cases q : (f == g) with
    | true =>
      refine ⟨fun {d} e => ?_, fun e => ?_⟩
      · simp only [List.lookup_cons, q] at e
        cases e
        exact ⟨x, by simp only [List.lookup_cons, q], h1⟩
      · simp only [List.lookup_cons, q] at e
        cases e
    | false =>
      refine ⟨fun {d} e => ?_, fun e => ?_⟩
      · simp only [List.lookup_cons, q] at e ⊢
        exact i1 e
      · simp only [List.lookup_cons, q] at e ⊢
        exact i2 e
def putFD (f : Str) (v : DV) : List (Str × DV) → List (Str × DV)
  | [] => [(f, v)]
  | (g, x) :: r => if g = f then (g, v) :: r else (g, x) :: putFD f v r
theorem putF_ok {F : Fm} {f : Str} {d : DV} {v : V} (rd : Rel F d v) : ∀ {fs : List (Str × DV)} {xs : List V}, RelL F (fs.map (·.2)) xs → ∃ ys, RelL F ((putFD f d fs).map (·.2)) ys ∧ putF f v ((fs.map (·.1)).zip xs) = ((putFD f d fs).map (·.1)).zip ys
  | [], xs, h => ⟨[v], rel1 rd, by rw [List.map_nil, List.zip_nil_left] <;> rfl⟩
  | (g, d0) :: fs, xs, h => by
    obtain ⟨x, r, rfl, h1, h2⟩ := h
    rw [List.map_cons, List.zip_cons_cons]
    unfold putFD putF
    by_cases q : g = f
    · simp only [q, if_true]
      exact ⟨v :: r, .cons rd h2, by rw [List.map_cons, List.zip_cons_cons]⟩
    · simp only [q, if_false]
      obtain ⟨ys, i1, i2⟩ := putF_ok (f := f) rd h2
      exact ⟨x :: ys, .cons h1 i1, by rw [List.map_cons, List.zip_cons_cons, i2]⟩
def dFld (T : ATab) (f : Str) (o : DE) : DE := fun ρ S => match o ρ S with
  | some (x, S1) => (match insD S1 x with
    | some (C, fs) => if T.contains (C, f) = true then (match fs.lookup f with
      | some d => some (d, S1)
      | none => none) else none
    | none => none)
  | none => none
/-- what is known of the classes -/
def ATOk (K : PySem.W.Frag) (T : ATab) : Prop := ∀ C f, T.contains (C, f) = true → Cls K (He.ga K C) ∧ NoAttr K (He.ga K C) f
section
variable {X : Cx} {e o : Expr} {g : DE} {T : ATab} {f : Str} {pos : Pos}
theorem ed_fld (hT : ATOk X.K T) (h : ED X e g) (hb : attributeBase e f X.env (eval e X.env) = eval e X.env := by rfl) : ED X (.Attribute e f pos) (dFld T f g) :=
  .of (pe_fld h.pe hb) fun F S H ρ σ d S' Q hk R rr hf hq => by
    unfold dFld at hf
    split at hf
    · rename_i x S1 h1
      split at hf
      · rename_i C fs hi
        obtain ⟨ht, hf⟩ := of_ite hf
        split at hf
        · rename_i d0 hl
          cases hf
          refine rdE.go hk R rr h1 fun F1 H1 v le hk1 R1 r1 rv => ?_
          obtain ⟨n, a, dx, xs, rfl, hc, ha, rfl, e, rl⟩ := insD_ok R1 rv hi
          obtain ⟨w, e1, rw_⟩ := (lookup_ok (f := f) rl).1 hl
          obtain ⟨c1, c2⟩ := hT C f ht
          rw [hk1] at e
          exact ⟨a, _, dx, _, w, rfl, e, c1, c2, e1, hq F1 H1 w le R1 rw_⟩
        · cases hf
      · cases hf
    · cases hf
def dSetF (T : ATab) (f : Str) (v o : DE) : DS := fun ρ S => match v ρ S with
  | some (y, S1) => (match o ρ S1 with
    | some (.loc n, S2) => (match insD S2 (.loc n) with
      | some (C, fs) => if T.contains (C, f) = true ∧ fs.length < 1000 then some (.nx ρ (S2.set n (.ins C (putFD f y fs)))) else none
      | none => none)
    | _ => none)
  | none => none
theorem len_zip {fs : List (Str × DV)} {F : Fm} {xs : List V} (rl : RelL F (fs.map (·.2)) xs) : ((fs.map (·.1)).zip xs).length = fs.length := by
  have := rl.length
  rw [List.length_map] at this
  rw [List.length_zip, List.length_map, ← this, Nat.min_self]
theorem sd_setF {v : Expr} {gv : DE} {spos pos' : Pos} (hT : ATOk X.K T) (hv : ED X v gv) (ho : ED X o g) (hs : swapsWith v (some (.Attribute o f pos')) spos.line X.env = pure false := by rfl) : SD X (.Assign [.Attribute o f pos'] v spos) (dSetF T f gv g) :=
  .of (ps_fld ho.pe hv.pe hs) fun F S H ρ σ oo D hk R rr hf hq => by
    unfold dSetF at hf
    split at hf
    · rename_i y S1 h1
      split at hf
      · rename_i n S2 h2
        split at hf
        · rename_i C fs hi
          obtain ⟨⟨ht, hlen⟩, hf⟩ := of_ite hf
          cases hf
          refine rdE.go hk R rr h1 fun F1 H1 vy le1 hk1 R1 r1 ry => rdE.go hk1 R1 r1 h2 fun F2 H2 vx le2 hk2 R2 r2 rx => ?_
          obtain ⟨n', a, dx, xs, e0, hc, ha, rfl, e, rl⟩ := insD_ok R2 rx hi
          cases e0
          obtain ⟨c1, c2⟩ := hT C f ht
          obtain ⟨ys, i1, i2⟩ := putF_ok (f := f) (ry.le le2) rl
          have e' := e
          rw [hk2] at e'
          refine ⟨a, _, dx, _, rfl, e', c1, c2, by rw [len_zip rl]; exact hlen, hq F2 _ (le1.trans le2) ?_ σ r2⟩
          rw [i2]
          exact R2.write hc rfl ha (fun _ q => nomatch q) rfl ⟨dx, ys, by rw [upd_same, hk2], i1⟩
        · cases hf
      · cases hf
    · cases hf
/-- o.f op= v -/
def dAugF (T : ATab) (f : Str) (p : P2) (v o : DE) : DS := fun ρ S => match o ρ S with
  | some (.loc n, S1) => (match insD S1 (.loc n) with
    | some (C, fs) => if T.contains (C, f) = true then (match fs.lookup f with
      | some x => (match v ρ S1 with
        | some (y, S2) => (match p x y S2 with
          | some (d, S3) => (match insD S3 (.loc n) with
            | some (C', fs') => if C' = C ∧ fs'.length < 1000 then some (.nx ρ (S3.set n (.ins C' (putFD f d fs')))) else none
            | none => none)
          | none => none)
        | none => none)
      | none => none) else none
    | none => none)
  | _ => none
end

/-! ### methods, makers -/
structure MtC (P : Program) (w : World) (K : PySem.W.Frag) (mg : Str → Option Value) (base : Heap) (C m : Str) (k : Nat) (ps : List Str) (dvs : List V) (f : PL) : Prop where
  ex : ∃ (a : Addr) (fd : FuncData) (ds : List Value), Cls K (He.ga K C) ∧ Meth K (He.ga K C) m a ∧ FnOk P w K mg base CX0 k a fd ps (spS K ps.length f) ∧ Binds K fd ps ds ∧ Vals dvs ds
structure MkC (P : Program) (w : World) (K : PySem.W.Frag) (mg : Str → Option Value) (base : Heap) (C : Str) (k : Nat) (ps : List Str) (dvs : List V) (f : PL) : Prop where
  ex : ∃ (a : Addr) (fd : FuncData) (ds : List Value), mg C = some (.ref (He.ga K C)) ∧ Mk K (He.ga K C) a ∧ FnOk P w K mg base CX0 k a fd ps (spS K ps.length f) ∧ Binds K fd ps ds ∧ Vals dvs ds
def dMeth (C m : Str) (f : PL) (dds : List DV) (o : DE) (fa : DA) : DE := fun ρ S => match o ρ S with
  | some (x, S1) => (match insD S1 x with
    | some (C', fs) => if C' = C ∧ fs.lookup m = none then (match fa ρ S1 with
      | some (xs, S2) => f (x :: (xs ++ dds)) S2
      | none => none) else none
    | none => none)
  | none => none
def dMake (C : Str) (f : PL) (dds : List DV) (fa : DA) : DE := fun ρ S => match fa ρ S with
  | some (xs, S1) => (match f (.loc S1.length :: (xs ++ dds)) (S1 ++ [.ins C []]) with
    | some (.non, S2) => some (.loc S1.length, S2)
    | _ => none)
  | none => none
section
variable {X : Cx} {e o : Expr} {es : List Expr} {g : DE} {fa : DA} {C m x : Str} {k j : Nat} {ps : List Str} {dvs : List V} {dds : List DV} {np n : Nat} {b0 : DS} {p pos apos : Pos}
theorem meth_go {a : Addr} {E : XK} (hd : ∀ F : Fm, RelL F dds dvs) {F : Fm} {S S' : Sto} {H : Hp} {ρ : Ev} {σ : L2.St} {d : DV} {Q : VK} (hk : F.K = X.K) (R : Rep F S H) (rr : RelE F ρ σ) (hf : dMeth C m (runF np n b0) dds g fa ρ S = some (d, S')) (hq : PostE F S' d Q) :
    tMeth (He.ga X.K C) m (spS X.K np (runF np n b0)) dvs E (rdE X.K g) (rdA X.K fa) σ H Q := by
  unfold dMeth at hf
  split at hf
  · rename_i x S1 h1
    split at hf
    · rename_i C' fs hi
      obtain ⟨hc0, hf2⟩ := of_ite hf
      clear hf
      obtain ⟨e0, hl⟩ := hc0
      subst e0
      cases h2 : fa ρ S1 with
      | none =>
        rw [h2] at hf2
        cases hf2
      | some z =>
        obtain ⟨xs, S2⟩ := z
        rw [h2] at hf2
        refine rdE.go hk R rr h1 fun F1 H1 v le hk1 R1 r1 rv => ?_
        obtain ⟨n, a, dx, us, rfl, hc, ha, rfl, e, rl⟩ := insD_ok R1 rv hi
        have hlk := (lookup_ok (f := m) rl).2 hl
        rw [hk1] at e
        refine ⟨a, dx, _, rfl, e, hlk, rdA.go hk1 R1 r1 h2 fun F2 H2 vs le2 hk2 R2 r2 ra => ?_⟩
        exact ⟨F2, S2, .loc n :: (xs ++ dds), d, S', hk2, R2, .cons (rv.le le2) (ra.append (hd F2)), runF_len _ _ _ hf2, hf2, hq.le (le.trans le2)⟩
    · cases hf
  · cases hf
theorem ed_meth (M : MtC X.prog X.w X.K X.mg X.base C m k ps dvs (runF np n b0)) (hn : ps.length = np) (hr : Room j X.A) (hj : k ≤ j) (hd : ∀ F : Fm, RelL F dds dvs) (ho : ED X o g) (ha : AD X (e :: es) fa) {pl : Sem Bool}
    (hst : starEach (e :: es) X.env = (false, eval e X.env) :: starEach es X.env := by rfl) (hpl : (backTo pos (starEach es X.env)).any (·.1) = false := by rfl)
    (ht : eval (.Call (.Attribute o m apos) (e :: es) [] pos) X.env = (do
      let ov ← eval o X.env
      standAt apos.atName
      let (f, first) ← holding [ov] (getMethod ov m pl)
      callWith pos f first (backTo pos (starEach (e :: es) X.env)) (backToKw pos (keywordEach [] X.env))) := by rfl) : ED X (.Call (.Attribute o m apos) (e :: es) [] pos) (dMeth C m (runF np n b0) dds g fa) := by
  subst hn
  obtain ⟨a, fd, ds, h1, h2, h3, h4, h5⟩ := M.ex
  exact .of (pe_meth (E := E0) ho.pe h1 h2 h3 (hr.mono hj) h4 h5 pass0 ha.pa hst hpl ht) fun F S H ρ σ d S' Q hk R rr hf hq => meth_go (a := a) hd hk R rr hf hq
theorem ed_meth0 (M : MtC X.prog X.w X.K X.mg X.base C m k ps dvs (runF np n b0)) (hn : ps.length = np) (hr : Room j X.A) (hj : k ≤ j) (hd : ∀ F : Fm, RelL F dds dvs) (ho : ED X o g) {pl : Sem Bool}
    (ht : eval (.Call (.Attribute o m apos) [] [] pos) X.env = (do
      let ov ← eval o X.env
      standAt apos.atName
      let (f, first) ← holding [ov] (getMethod ov m pl)
      callWith pos f first (backTo pos (starEach [] X.env)) (backToKw pos (keywordEach [] X.env))) := by rfl) : ED X (.Call (.Attribute o m apos) [] [] pos) (dMeth C m (runF np n b0) dds g aNil) := by
  subst hn
  obtain ⟨a, fd, ds, h1, h2, h3, h4, h5⟩ := M.ex
  refine .of (pe_meth0 (E := E0) ho.pe h1 h2 h3 (hr.mono hj) h4 h5 pass0 ht) fun F S H ρ σ d S' Q hk R rr hf hq => ?_
  have g0 := meth_go (a := a) (E := E0) hd hk R rr hf hq
  obtain ⟨F0, S0, ρ0, x0, S10, q1, q2, q3, q4, q5⟩ := g0
  refine ⟨F0, S0, ρ0, x0, S10, q1, q2, q3, q4, fun F' H' v le R' rv => ?_⟩
  obtain ⟨a', dx, fs, z1, z2, z3, z4⟩ := q5 F' H' v le R' rv
  refine ⟨a', dx, fs, z1, z2, z3, ?_⟩
  obtain ⟨F9, S9, ρ9, x9, S19, y1, y2, y3, y4, y5⟩ := z4
  cases (show some (([] : List DV), S9) = some (x9, S19) from y4)
  exact y5 F9 H' [] (.refl F9) y2 rfl
theorem make_go {E : XK} (hd : ∀ F : Fm, RelL F dds dvs) {F : Fm} {S S' : Sto} {H : Hp} {ρ : Ev} {σ : L2.St} {d : DV} {Q : VK} (hk : F.K = X.K) (R : Rep F S H) (rr : RelE F ρ σ) (hf : dMake C (runF np n b0) dds fa ρ S = some (d, S')) (hq : PostE F S' d Q) :
    tMake (He.ga X.K C) (spS X.K np (runF np n b0)) dvs E (rdA X.K fa) σ H Q := by
  unfold dMake at hf
  split at hf
  · rename_i xs S1 h1
    split at hf
    · rename_i S2 h2
      cases hf
      refine rdA.go hk R rr h1 fun F1 H1 vs le hk1 R1 r1 ra x dx hx hdx hne => ?_
      have R2 := R1.beside (o := .own x) hdx (fun _ q => nomatch q)
      have hx2 : upd H1 dx (.own x) x = none := by rw [upd_ne fun q => hne q.symm]; exact hx
      have R3 := R2.alloc (o := .ins (He.ga X.K C) dx []) (c := .ins C []) hx2 (fun _ q => nomatch q) ⟨dx, [], by rw [upd_same, show (F1.cell x).K = X.K from hk1] <;> rfl, rfl⟩
      have le3 := F1.cell_le x
      have rloc : Rel (F1.cell x) (.loc S1.length) (.ref x) := ⟨x, by rw [← R1.len]; exact get_len _ _, rfl⟩
      refine ⟨F1.cell x, S1 ++ [.ins C []], .loc S1.length :: (xs ++ dds), .non, S', hk1, R3, .cons rloc ((ra.append (hd F1)).le le3), runF_len _ _ _ h2, h2, fun F' H' v le' R' rv => ⟨rv, ?_⟩⟩
      exact hq F' H' (.ref x) ((le.trans le3).trans le') R' (rloc.le le')
    · cases hf
  · cases hf
theorem ed_make (M : MkC X.prog X.w X.K X.mg X.base x k ps dvs (runF np n b0)) (hn : ps.length = np) (hr : Room j X.A) (hj : k + 1 ≤ j) (hg : Gl X x) (hd : ∀ F : Fm, RelL F dds dvs) (ha : AD X (e :: es) fa) (hdb : (x == ("__debug__" : Str)) = false := by decide)
    (he : starEach (e :: es) X.env = (false, eval e X.env) :: starEach es X.env := by rfl) (hpl : (backTo pos (starEach es X.env)).any (·.1) = false := by rfl) : ED X (.Call (.Name x p) (e :: es) [] pos) (dMake x (runF np n b0) dds fa) := by
  subst hn
  obtain ⟨a, fd, ds, h1, h2, h3, h4, h5⟩ := M.ex
  exact .of (pe_make (E := E0) h2 h3 (hr.mono hj) hg h1 h4 h5 pass0 ha.pa hdb he hpl) fun F S H ρ σ d S' Q hk R rr hf hq => make_go hd hk R rr hf hq
theorem ed_make0 (M : MkC X.prog X.w X.K X.mg X.base x k ps dvs (runF np n b0)) (hn : ps.length = np) (hr : Room j X.A) (hj : k + 1 ≤ j) (hg : Gl X x) (hd : ∀ F : Fm, RelL F dds dvs) (hdb : (x == ("__debug__" : Str)) = false := by decide) : ED X (.Call (.Name x p) [] [] pos) (dMake x (runF np n b0) dds aNil) := by
  subst hn
  obtain ⟨a, fd, ds, h1, h2, h3, h4, h5⟩ := M.ex
  refine .of (pe_make0 (E := E0) h2 h3 (hr.mono hj) hg h1 h4 h5 pass0 hdb) fun F S H ρ σ d S' Q hk R rr hf hq => ?_
  have g0 := make_go (C := x) (fa := aNil) (E := E0) hd hk R rr hf hq
  obtain ⟨F0, S0, ρ0, x0, S10, q1, q2, q3, q4, q5⟩ := g0
  cases (show some (([] : List DV), S0) = some (x0, S10) from q4)
  exact q5 F0 H [] (.refl F0) q2 rfl
end
theorem MtC.of {P : Program} {w : World} {K : PySem.W.Frag} {mg : Str → Option Value} {base : Heap} {C m x : Str} {k : Nat} {ps : List Str} {f : PL} {a : Addr} {fd : FuncData} {qual : Str} {params : Arguments} {body : List Stmt} {scope : Scope}
    (F : FunD K x qual params body scope [] [] a fd) (hc : (He.Fa.cls C).ok K = true) (hm : (He.Fa.meth C m).ok K = true) (ha : a = He.ma K (He.ga K C) m) (h : FnOk P w K mg base CX0 k a fd ps (spS K ps.length f))
    (hb : ∀ (kV doc pm : Value) (an : Option Addr) (cdv ct : Value) (us : List Value), us.length = ps.length → bindArgs (PySem.W.fnOf x qual params body scope .none kV doc pm an cdv ct) ⟨us, []⟩ = pure (ps.zip us)) : MtC P w K mg base C m k ps [] f := by
  subst ha
  exact ⟨_, fd, [], He.cls_ok hc, He.meth_ok hm, h, F.bindsN hb, .nil⟩
theorem MkC.of {P : Program} {w : World} {K : PySem.W.Frag} {mg : Str → Option Value} {base : Heap} {C x : Str} {k : Nat} {ps : List Str} {f : PL} {a : Addr} {fd : FuncData} {qual : Str} {params : Arguments} {body : List Stmt} {scope : Scope}
    (F : FunD K x qual params body scope [] [] a fd) (hg : mg C = some (.ref (He.ga K C))) (hm : (He.Fa.mkr C).ok K = true) (ha : a = He.ma K (He.ga K C) "__init__") (h : FnOk P w K mg base CX0 k a fd ps (spS K ps.length f))
    (hb : ∀ (kV doc pm : Value) (an : Option Addr) (cdv ct : Value) (us : List Value), us.length = ps.length → bindArgs (PySem.W.fnOf x qual params body scope .none kV doc pm an cdv ct) ⟨us, []⟩ = pure (ps.zip us)) : MkC P w K mg base C k ps [] f := by
  subst ha
  exact ⟨_, fd, [], hg, He.mkr_ok hm, h, F.bindsN hb, .nil⟩
def atB (K : PySem.W.Frag) (T : ATab) : Bool := T.all fun p => (He.Fa.cls p.1).ok K && (He.Fa.noat p.1 p.2).ok K
theorem atOk_of {K : PySem.W.Frag} {T : ATab} (h : atB K T = true) : ATOk K T := fun C f hc => by
  have h1 := List.all_eq_true.mp h (C, f) (List.contains_iff_mem.mp hc)
  obtain ⟨a, b⟩ := Bool.and_eq_true_iff.mp h1
  exact ⟨He.cls_ok a, He.noat_ok b⟩
end Dn

/-! loops and comprehensions over a list that may be changed elsewhere: read place by place -/
namespace Dn
open PySem PySem.Spec PyProof.Rows L2
section
variable {X : Cx} {e : Expr} {st : Stmt} {f : DE} {g : DG} {c fe : DE} {vs : List Nat} {t : TG} {tt : TT}
end
end Dn

namespace Dn
open PySem PySem.Spec PyProof.Rows L2
section
variable {X : Cx} {o value a b e : Expr} {f : Str} {pos pos' tpos : Pos} {T : ATab} {g gv : DE}
/-! ### o.f op= v -/
theorem sd_augF {op : Operator} {p : P2} {rd : V → V → Hp → VK → Prop} (hT : ATOk X.K T) (hop : InOp X op rd) (hp : Ok2 X.K p rd) (hv : ED X value gv) (ho : ED X o g) : SD X (.AugAssign (.Attribute o f tpos) op value pos) (dAugF T f p gv g) :=
  .of (ps_fldaug ho.pe hv.pe hop) fun F S H ρ σ oo D hk R rr hf hq => by
    unfold dAugF at hf
    split at hf
    · rename_i n S1 h1
      split at hf
      · rename_i C fs hi
        obtain ⟨ht, hf⟩ := of_ite hf
        split at hf
        · rename_i x hl
          split at hf
          · rename_i y S2 h2
            split at hf
            · rename_i d S3 h3
              split at hf
              · rename_i C' fs' hi'
                obtain ⟨⟨hc, hlen⟩, hf⟩ := of_ite hf
                cases hf
                subst hc
                refine rdE.go hk R rr h1 fun F1 H1 vx le1 hk1 R1 r1 rx => ?_
                obtain ⟨n', a, dx, xs, e0, hcell, ha, rfl, e, rl⟩ := insD_ok R1 rx hi
                cases e0
                obtain ⟨c1, c2⟩ := hT C' f ht
                obtain ⟨w, e1, rw_⟩ := (lookup_ok (f := f) rl).1 hl
                rw [hk1] at e
                refine ⟨a, _, dx, _, w, rfl, e, c1, c2, e1, rdE.go hk1 R1 r1 h2 fun F2 H2 vy le2 hk2 R2 r2 ry => ?_⟩
                refine hp F2 S2 H2 x y w vy d S3 _ hk2 R2 (rw_.le le2) ry h3 fun F3 H3 vd le3 R3 rd3 => ?_
                have hk3 : F3.K = X.K := le3.k.trans hk2
                obtain ⟨n2, a2, dx2, xs2, e02, hcell2, ha2, ea2, e2, rl2⟩ := insD_ok R3 (rx.le (le2.trans le3)) hi'
                cases e02
                cases ea2
                obtain ⟨ys, i1, i2⟩ := putF_ok (f := f) rd3 rl2
                have e2' := e2
                rw [hk3] at e2'
                refine ⟨dx2, _, e2', by rw [len_zip rl2]; exact hlen, hq F3 _ ((le1.trans le2).trans le3) ?_ σ (r2.le le3)⟩
                rw [i2]
                exact R3.write hcell2 rfl ha2 (fun _ q => nomatch q) rfl ⟨dx2, ys, by rw [upd_same, hk3], i1⟩
              · cases hf
            · cases hf
          · cases hf
        · cases hf
      · cases hf
    · cases hf
theorem ok_rAdd {K : PySem.W.Frag} : Ok2 K pAddI rAdd := ok_ipadd
/-! ### is, is not of truths -/
def pIsB (neg : Bool) : P2 := fun x y S => match x, y with
  | .bl a, .bl b => some (.bl (if neg then !decide (a = b) else decide (a = b)), S)
  | _, _ => none
variable {f1 f2 : DE}
@[simp] theorem v_isB {a b : Bool} {S : Sto} : pIsB false (.bl a) (.bl b) S = some (.bl (decide (a = b)), S) := (rfl)
@[simp] theorem v_isnotB {a b : Bool} {S : Sto} : pIsB true (.bl a) (.bl b) S = some (.bl (!decide (a = b)), S) := (rfl)
/-! ### {k: v, ..} -/
end
end Dn

namespace Dn
open PySem PySem.Spec PyProof.Rows L2
/-! ### objects' fields, evaluated -/
section
variable {T : ATab} {f C m : Str} {g o v e : DE} {fa : DA} {ρ : Ev} {S S0 S1 S2 : Sto} {n : Nat} {fs fs' : List (Str × DV)} {d x y : DV} {F : PL} {xs : List DV} {p : P2}
theorem fld_at (hg : g ρ S0 = some (.loc n, S)) (hS : S[n]? = some (.ins C fs)) (hT : T.contains (C, f) = true) (hl : fs.lookup f = some d) : dFld T f g ρ S0 = some (d, S) := by
  unfold dFld
  simp only [hg, insD, hS]
  rw [if_pos hT]
  simp only [hl]
theorem setF_at (hv : v ρ S0 = some (y, S1)) (hg : g ρ S1 = some (.loc n, S)) (hS : S[n]? = some (.ins C fs)) (hT : T.contains (C, f) = true) (hlen : fs.length < 1000) : dSetF T f v g ρ S0 = some (.nx ρ (S.set n (.ins C (putFD f y fs)))) := by
  unfold dSetF
  simp only [hv, hg, insD, hS]
  rw [if_pos ⟨hT, hlen⟩]
theorem augF_at (hg : g ρ S0 = some (.loc n, S)) (hS : S[n]? = some (.ins C fs)) (hT : T.contains (C, f) = true) (hl : fs.lookup f = some x) (hv : v ρ S = some (y, S1)) (hp : p x y S1 = some (d, S2)) (hS2 : S2[n]? = some (.ins C fs')) (hlen : fs'.length < 1000) :
    dAugF T f p v g ρ S0 = some (.nx ρ (S2.set n (.ins C (putFD f d fs')))) := by
  unfold dAugF
  simp only [hg, insD, hS]
  rw [if_pos hT]
  simp only [hl, hv, hp, hS2]
  rw [if_pos ⟨trivial, hlen⟩]
theorem meth_at (hg : o ρ S0 = some (.loc n, S)) (hS : S[n]? = some (.ins C fs)) (hl : fs.lookup m = none) (ha : fa ρ S = some (xs, S2)) : dMeth C m F [] o fa ρ S0 = F (.loc n :: xs) S2 := by
  unfold dMeth
  simp only [hg, insD, hS]
  rw [if_pos ⟨trivial, hl⟩]
  simp only [ha, List.append_nil]
end
section
variable {S S0 S1 S2 S3 : Sto} {n : Nat} {ks : List Key} {vs ds : List DV} {x : Str} {y d : DV} {i : Int} {j : Nat} {ρ : Ev} {f g h v o : DE}
theorem setI_dik (hS : S[n]? = some (.dik ks vs)) (hz : ks.length < 16777216) : setI (.loc n) (.str x) y S = some (S.set n (.dik (putKs ks (.inr x)) (putVs ks vs (.inr x) y))) := by
  unfold setI
  simp only [hS, keyD]
  rw [if_pos (by rw [size_eq]; exact hz)]
theorem setI_lst (hS : S[n]? = some (.lst ds)) (hi : ixN ds.length i = some j) : setI (.loc n) (.int i) y S = some (S.set n (.lst (ds.set j y))) := by
  unfold setI
  simp only [hS, hi]
theorem sub_at {k : DV} (hv : v ρ S = some (y, S1)) (ho : o ρ S1 = some (d, S2)) (hi : g ρ S2 = some (k, S3)) (hs : setI d k y S3 = some S0) : dSub v o g ρ S = some (.nx ρ S0) := by
  unfold dSub
  simp only [hv, ho, hi, hs]
theorem getD_dik (hS : S[n]? = some (.dik ks vs)) : getD S (.loc n) (.str x) = some (lkD ks vs (.inr x)) := by
  unfold getD asK keyD
  simp only [hS]
theorem getD_bor {k : LK} : getD S (.dik k ks vs) (.str x) = some (lkD ks vs (.inr x)) := (rfl)
theorem isD_dik (hS : S[n]? = some (.dik ks vs)) : isD S (.loc n) = true := by
  unfold isD asK
  simp only [hS]
  rfl
theorem get2_at (hf : f ρ S = some (y, S1)) (hd : isD S1 y = true) (hg : g ρ S1 = some (d, S2)) (hh : h ρ S2 = some (v', S3)) {o' : Option DV} (ho : getD S3 y d = some o') : dGet2 f g h ρ S = some (o'.getD v', S3) := by
  unfold dGet2
  simp only [hf, hg, hh, hd, if_true]
  rw [ho]
  cases o' <;> rfl
theorem ix_dik (hS : S[n]? = some (.dik ks vs)) (hl : lkD ks vs (.inr x) = some d) : pIx (.loc n) (.str x) S = some (d, S) := by
  show (match getD S (.loc n) (.str x) with | some (some d) => some (d, S) | _ => none) = _
  rw [getD_dik hS, hl]
theorem ix_dikB {k : LK} (hl : lkD ks vs (.inr x) = some d) : pIx (.dik k ks vs) (.str x) S = some (d, S) := by
  show (match getD S (.dik k ks vs) (.str x) with | some (some d) => some (d, S) | _ => none) = _
  rw [getD_bor, hl]
theorem cpD_dik {b : Bool} (h : S[n]? = some (.dik ks vs)) (hp : plainL vs = true) : cpD b S (.loc n) = some (.dik (bk b) ks vs) := by
  show cpN b (S.length + 1) S n = _
  unfold cpN
  simp only [h, mapDL_plain hp]
end
/-! ### dicts in plain Lean -/
def lkG {κ α : Type} [DecidableEq κ] : List κ → List α → κ → Option α
  | k :: ks, d :: ds, j => if k = j then some d else lkG ks ds j
  | _, _, _ => none
def putG {κ α : Type} [DecidableEq κ] (ks : List κ) (ds : List α) (j : κ) (x : α) : List α := if hasK ks j = true then rpG j x ks ds else ds ++ [x]
section
variable {κ α : Type} [DecidableEq κ] {f : α → DV} {j : κ} {v : α}
theorem lkD_map : ∀ {ks : List κ} {vs : List α}, lkD ks (vs.map f) j = (lkG ks vs j).map f
  | [], vs => by
    unfold lkD lkG
    rfl
  | k :: ks, [] => by
    unfold lkG
    rfl
  | k :: ks, v :: vs => by
    rw [List.map_cons]
    unfold lkD lkG
    by_cases q : k = j
    · rw [if_pos q, if_pos q] <;> rfl
    · rw [if_neg q, if_neg q]
      exact lkD_map
theorem rpG_map : ∀ {ks : List κ} {vs : List α}, rpG j (f v) ks (vs.map f) = (rpG j v ks vs).map f
  | [], vs => by
    unfold rpG
    rfl
  | k :: ks, [] => rfl
  | k :: ks, u :: vs => by
    rw [List.map_cons]
    unfold rpG
    rw [List.map_cons, rpG_map]
    by_cases q : k = j
    · rw [if_pos q, if_pos q]
    · rw [if_neg q, if_neg q]
theorem putVs_map {ks : List κ} {vs : List α} : putVs ks (vs.map f) j (f v) = (putG ks vs j v).map f := by
  unfold putVs putG
  by_cases q : hasK ks j = true
  · rw [if_pos q, if_pos q, rpG_map]
  · rw [if_neg q, if_neg q, List.map_append] <;> rfl
theorem rpG_mem {P : α → Prop} (hv : P v) : ∀ {ks : List κ} {vs : List α}, (∀ u ∈ vs, P u) → ∀ u ∈ rpG j v ks vs, P u
  | [], vs, h, u, hu => by
    unfold rpG at hu
    cases hu
  | k :: ks, [], h, u, hu => by
    cases hu
  | k :: ks, w :: vs, h, u, hu => by
    unfold rpG at hu
    rcases List.mem_cons.mp hu with e | e
    · by_cases q : k = j
      · rw [if_pos q] at e
        rw [e]
        exact hv
      · rw [if_neg q] at e
        rw [e]
        exact h w List.mem_cons_self
    · exact rpG_mem hv (fun u hu => h u (List.mem_cons_of_mem _ hu)) u e
theorem putG_mem {P : α → Prop} (hv : P v) {ks : List κ} {vs : List α} (h : ∀ u ∈ vs, P u) : ∀ u ∈ putG ks vs j v, P u := by
  unfold putG
  by_cases q : hasK ks j = true
  · rw [if_pos q]
    exact rpG_mem hv h
  · rw [if_neg q]
    intro u hu
    rcases List.mem_append.mp hu with e | e
    · exact h u e
    · rw [List.mem_singleton.mp e]
      exact hv
theorem putG_len {ks : List κ} {vs : List α} (h : ks.length = vs.length) : (putKs ks j).length = (putG ks vs j v).length := by
  unfold putKs putG
  by_cases q : hasK ks j = true
  · rw [if_pos q, if_pos q, rp_len h]
  · rw [if_neg q, if_neg q, List.length_append, List.length_append, h] <;> rfl
theorem putKs_len {ks : List κ} : (putKs ks j).length ≤ ks.length + 1 := by
  unfold putKs
  by_cases q : hasK ks j = true
  · rw [if_pos q]
    omega
  · rw [if_neg q, List.length_append] <;> simp
theorem putKs_has {ks : List κ} (h : hasK ks j = true) : putKs ks j = ks := by
  unfold putKs
  rw [if_pos h]
theorem putG_has {ks : List κ} {vs : List α} (h : hasK ks j = true) : putG ks vs j v = rpG j v ks vs := by
  unfold putG
  rw [if_pos h]
theorem lkG_mem : ∀ {ks : List κ} {vs : List α} {v : α}, lkG ks vs j = some v → v ∈ vs
  | [], vs, v, h => by
    unfold lkG at h
    cases h
  | k :: ks, [], v, h => by
    unfold lkG at h
    cases h
  | k :: ks, u :: vs, v, h => by
    unfold lkG at h
    by_cases q : k = j
    · rw [if_pos q] at h
      cases h
      exact List.mem_cons_self
    · rw [if_neg q] at h
      exact List.mem_cons_of_mem _ (lkG_mem h)
theorem lkG_has : ∀ {ks : List κ} {vs : List α}, ks.length = vs.length → hasK ks j = true → ∃ v, lkG ks vs j = some v
  | [], vs, _, h => by cases h
  | k :: ks, [], h, _ => by cases h
  | k :: ks, u :: vs, hl, h => by
    unfold lkG
    by_cases q : k = j
    · rw [if_pos q]
      exact ⟨_, rfl⟩
    · rw [if_neg q]
      refine lkG_has (Nat.succ.inj hl) ?_
      unfold hasK at h ⊢
      rw [List.any_cons, decide_eq_false q, Bool.false_or] at h
      exact h
end
/-! ### the plain machine in plain Lean -/
abbrev W40 : Int := 1099511627776
def In40 (z : Int) : Prop := 0 ≤ z ∧ z < 1099511627776
inductive Atm where
  | n (i : Int) | x (s : Str)
def Atm.d : Atm → DV
  | .n i => .int i
  | .x s => .str s
def Atm.Ok : Atm → Prop
  | .n i => In40 i
  | .x _ => True
@[simp] theorem Atm.plain_d {a : Atm} : plain a.d = true := by cases a <;> rfl
inductive PRow where
  | say (a : Atm) | copy (x : Str) (a : Atm) | op (x s : Str) (a b : Atm) | load (x c : Str) | store (c : Str) (a : Atm)
  | take (x s : Str) (a : Atm) | lay (s : Str) (a b : Atm) | hear (x : Str) | ifr (a : Atm) (n : Nat) | go (n : Nat) | endr (a : Atm)
def PRow.d : PRow → DV
  | .say a => .tup [.str "say", a.d]
  | .copy x a => .tup [.str "copy", .str x, a.d]
  | .op x s a b => .tup [.str "op", .str x, .str s, a.d, b.d]
  | .load x c => .tup [.str "load", .str x, .str c]
  | .store c a => .tup [.str "store", .str c, a.d]
  | .take x s a => .tup [.str "take", .str x, .str s, a.d]
  | .lay s a b => .tup [.str "lay", .str s, a.d, b.d]
  | .hear x => .tup [.str "hear", .str x]
  | .ifr a n => .tup [.str "if", a.d, .int n]
  | .go n => .tup [.str "go", .int n]
  | .endr a => .tup [.str "end", a.d]
theorem PRow.plain_d {r : PRow} : plain r.d = true := by cases r <;> simp [PRow.d]
def PRow.led (i : Nat) : PRow → List Nat
  | .endr _ => []
  | .go n => [n]
  | .ifr _ n => [n, i + 1]
  | _ => [i + 1]
def ledD (i : Nat) (r : PRow) : DV := .tup ((r.led i).map fun (n : Nat) => .int n)
def leadsD (rows : List PRow) : List DV := rows.mapIdx ledD
def isSign (s : Str) : Prop := s = "+" ∨ s = "-" ∨ s = "*" ∨ s = "<" ∨ s = "=" ∨ s = "&" ∨ s = "|" ∨ s = "^"
def valS (s : Str) (a b : Int) : Int := if s = "+" then (a + b) % W40 else if s = "-" then (a - b) % W40 else if s = "*" then a * b % W40 else
  if s = "<" then (if a < b then 1 else 0) else if s = "=" then (if a = b then 1 else 0) else if s = "&" then Builtin.bitAnd a b else if s = "|" then Builtin.bitOr a b else Builtin.bitXor a b
theorem bits40 {a b : Int} (ha : In40 a) (hb : In40 b) : In40 (Builtin.bitAnd a b) ∧ In40 (Builtin.bitOr a b) ∧ In40 (Builtin.bitXor a b) := by
  obtain ⟨a0, a1⟩ := ha
  obtain ⟨b0, b1⟩ := hb
  have h1 : a.toNat < 2 ^ 40 := by omega
  have h2 : b.toNat < 2 ^ 40 := by omega
  rw [bitAnd_pp a0 b0, Bits.bitOr_pp a0 b0, Bits.bitXor_pp a0 b0]
  have k1 := Nat.and_lt_two_pow a.toNat h2
  have k2 := Nat.or_lt_two_pow h1 h2
  have k3 := Nat.xor_lt_two_pow h1 h2
  unfold In40
  refine ⟨⟨?_, ?_⟩, ⟨?_, ?_⟩, ⟨?_, ?_⟩⟩ <;> omega
theorem valS_40 {s : Str} {a b : Int} (ha : In40 a) (hb : In40 b) : In40 (valS s a b) := by
  obtain ⟨k1, k2, k3⟩ := bits40 ha hb
  have m : ∀ z : Int, In40 (z % W40) := fun z => ⟨Int.emod_nonneg _ (by decide), Int.emod_lt_of_pos _ (by decide)⟩
  unfold valS
  repeat' split
  all_goals first
    | exact m _
    | exact k1
    | exact k2
    | exact k3
    | exact ⟨by decide, by decide⟩
structure PSt where
  at_ : Nat
  done : Nat
  hears : Nat
  res : Option Int
  hk : List Key
  hv : List Int
  ck : List Key
  cv : List Int
  sk : List Key
  sv : List (List Int)
  gone : List Int
def optI : Option Int → DV
  | none => .non
  | some v => .int v
def PSt.worth (st : PSt) : Atm → Int
  | .n i => i
  | .x s => (lkG st.hk st.hv (.inr s)).getD 0
def PSt.out (st : PSt) (x : Str) (v : Int) : PSt := { st with hk := putKs st.hk (.inr x), hv := putG st.hk st.hv (.inr x) v }
def PSt.cell (st : PSt) (c : Str) : Int := (lkG st.ck st.cv (.inr c)).getD 0
def PSt.shelf (st : PSt) (s : Str) : List Int := (lkG st.sk st.sv (.inr s)).getD [0]
def placeN (l : List Int) (v : Int) : Nat := (v % (l.length : Int)).toNat
/-- a row done, but for where it leads -/
def PSt.does (coming : List Int) (st : PSt) : PRow → PSt
  | .say a => { st with gone := st.gone ++ [st.worth a] }
  | .copy x a => st.out x (st.worth a)
  | .op x s a b => st.out x (valS s (st.worth a) (st.worth b))
  | .load x c => st.out x (st.cell c)
  | .store c a => { st with cv := rpG (.inr c) (st.worth a) st.ck st.cv }
  | .take x s a => st.out x ((st.shelf s).getD (placeN (st.shelf s) (st.worth a)) 0)
  | .lay s a b => { st with sv := rpG (.inr s) ((st.shelf s).set (placeN (st.shelf s) (st.worth a)) (st.worth b)) st.sk st.sv }
  | .hear x => { st.out x (coming.getD st.hears 0) with hears := st.hears + 1 }
  | .ifr _ _ => st
  | .go _ => st
  | .endr a => { st with res := some (st.worth a) }
def PSt.next (st : PSt) : PRow → Nat
  | .ifr a n => if st.worth a = 0 then st.at_ + 1 else n
  | .go n => n
  | .endr _ => st.at_
  | _ => st.at_ + 1
def PSt.step (rows : List PRow) (coming : List Int) (st : PSt) : PSt := match st.res with
  | some _ => st
  | none => match rows[st.at_]? with
    | none => st
    | some r => { st.does coming r with done := st.done + 1, at_ := st.next r }
def PRow.Ok (ck sk : List Key) : PRow → Prop
  | .say a => a.Ok
  | .copy _ a => a.Ok
  | .op _ s a b => isSign s ∧ a.Ok ∧ b.Ok
  | .load _ c => hasK ck (.inr c) = true
  | .store c a => hasK ck (.inr c) = true ∧ a.Ok
  | .take _ s a => hasK sk (.inr s) = true ∧ a.Ok
  | .lay s a b => hasK sk (.inr s) = true ∧ a.Ok ∧ b.Ok
  | .hear _ => True
  | .ifr a _ => a.Ok
  | .go _ => True
  | .endr a => a.Ok
structure PSt.Ok (st : PSt) : Prop where
  hl : st.hk.length = st.hv.length
  hr : ∀ v ∈ st.hv, In40 v
  cl : st.ck.length = st.cv.length
  cr : ∀ v ∈ st.cv, In40 v
  sl : st.sk.length = st.sv.length
  sr : ∀ l ∈ st.sv, l ≠ [] ∧ l.length ≤ 1000 ∧ ∀ v ∈ l, In40 v
  hd : st.hk.length ≤ st.done
  gd : st.gone.length ≤ st.done
theorem in0 : In40 0 := ⟨by decide, by decide⟩
theorem PSt.Ok.worth {st : PSt} (O : st.Ok) {a : Atm} (h : a.Ok) : In40 (st.worth a) := by
  cases a with
  | n i => exact h
  | x s =>
    show In40 ((lkG st.hk st.hv (.inr s)).getD 0)
    cases e : lkG st.hk st.hv (.inr s) with
    | none => exact in0
    | some v => exact O.hr v (lkG_mem e)
theorem PSt.Ok.shelf {st : PSt} (O : st.Ok) {s : Str} (h : hasK st.sk (.inr s) = true) : lkG st.sk st.sv (.inr s) = some (st.shelf s) ∧ st.shelf s ≠ [] ∧ (st.shelf s).length ≤ 1000 ∧ ∀ v ∈ st.shelf s, In40 v := by
  obtain ⟨l, e⟩ := lkG_has O.sl h
  have e2 : st.shelf s = l := by
    unfold PSt.shelf
    rw [e]
    rfl
  rw [e2]
  exact ⟨e, O.sr l (lkG_mem e)⟩
theorem PSt.Ok.cell {st : PSt} (O : st.Ok) {c : Str} (h : hasK st.ck (.inr c) = true) : lkG st.ck st.cv (.inr c) = some (st.cell c) ∧ In40 (st.cell c) := by
  obtain ⟨l, e⟩ := lkG_has O.cl h
  have e2 : st.cell c = l := by
    unfold PSt.cell
    rw [e]
    rfl
  rw [e2]
  exact ⟨e, O.cr l (lkG_mem e)⟩
theorem PSt.Ok.out {st : PSt} (O : st.Ok) {x : Str} {v : Int} (hv : In40 v) {d : Nat} (hd : st.done + 1 ≤ d) {h : Nat} {a : Nat} {r : Option Int} : PSt.Ok { st.out x v with done := d, hears := h, at_ := a, res := r } :=
  ⟨putG_len O.hl, putG_mem hv O.hr, O.cl, O.cr, O.sl, O.sr, by
    have h1 : (putKs st.hk (Sum.inr x : Key)).length ≤ st.hk.length + 1 := putKs_len
    have h2 := O.hd
    show (putKs st.hk (Sum.inr x : Key)).length ≤ d
    omega, by
    have h2 := O.gd
    show st.gone.length ≤ d
    omega⟩
theorem placeN_lt {l : List Int} (h : l ≠ []) (v : Int) : placeN l v < l.length := by
  have h1 : 0 < l.length := List.length_pos_iff.mpr h
  have h2 := Int.emod_lt_of_pos v (b := (l.length : Int)) (by omega)
  have h3 := Int.emod_nonneg v (b := (l.length : Int)) (by omega)
  unfold placeN
  omega
theorem PSt.Ok.step {st : PSt} (O : st.Ok) {rows : List PRow} {coming : List Int} (hc : ∀ v ∈ coming, In40 v) (hr : ∀ r ∈ rows, r.Ok st.ck st.sk) : (st.step rows coming).Ok ∧ (st.step rows coming).ck = st.ck ∧ (st.step rows coming).sk = st.sk := by
  unfold PSt.step
  cases e : st.res with
  | some v => exact ⟨O, rfl, rfl⟩
  | none =>
    cases e2 : rows[st.at_]? with
    | none => exact ⟨O, rfl, rfl⟩
    | some r =>
      have hok := hr r (List.mem_of_getElem? e2)
      have hd := O.hd
      have gd := O.gd
      cases r with
      | say a => exact ⟨⟨O.hl, O.hr, O.cl, O.cr, O.sl, O.sr, Nat.le_succ_of_le hd, by simp [PSt.does]; omega⟩, rfl, rfl⟩
      | copy x a => exact ⟨O.out (O.worth hok) (Nat.le_refl _), rfl, rfl⟩
      | op x s a b => exact ⟨O.out (valS_40 (O.worth hok.2.1) (O.worth hok.2.2)) (Nat.le_refl _), rfl, rfl⟩
      | load x c => exact ⟨O.out (O.cell hok).2 (Nat.le_refl _), rfl, rfl⟩
      | store c a => exact ⟨⟨O.hl, O.hr, (O.cl.trans ((rp_len O.cl).trans O.cl).symm), rpG_mem (O.worth hok.2) O.cr, O.sl, O.sr, Nat.le_succ_of_le hd, Nat.le_succ_of_le gd⟩, rfl, rfl⟩
      | take x s a =>
        obtain ⟨_, s1, _, s2⟩ := O.shelf hok.1
        refine ⟨O.out ?_ (Nat.le_refl _), rfl, rfl⟩
        have hlt := placeN_lt s1 (st.worth a)
        rw [List.getD_eq_getElem?_getD, List.getElem?_eq_getElem hlt]
        exact s2 _ (List.getElem_mem hlt)
      | lay s a b =>
        obtain ⟨_, s1, s3, s2⟩ := O.shelf hok.1
        refine ⟨⟨O.hl, O.hr, O.cl, O.cr, (O.sl.trans ((rp_len O.sl).trans O.sl).symm), rpG_mem (P := fun l => l ≠ [] ∧ l.length ≤ 1000 ∧ ∀ v ∈ l, In40 v) ⟨?_, by rw [List.length_set]; exact s3, fun v hv => ?_⟩ O.sr, Nat.le_succ_of_le hd, Nat.le_succ_of_le gd⟩, rfl, rfl⟩
        · exact fun q => s1 (by simpa using q)
        · rcases List.mem_or_eq_of_mem_set hv with h | h
          · exact s2 v h
          · rw [h]
            exact O.worth hok.2.2
      | hear x =>
        refine ⟨O.out ?_ (Nat.le_refl _), rfl, rfl⟩
        rw [List.getD_eq_getElem?_getD]
        cases e3 : coming[st.hears]? with
        | none => exact in0
        | some v => exact hc v (List.mem_of_getElem? e3)
      | ifr a n => exact ⟨⟨O.hl, O.hr, O.cl, O.cr, O.sl, O.sr, Nat.le_succ_of_le hd, Nat.le_succ_of_le gd⟩, rfl, rfl⟩
      | go n => exact ⟨⟨O.hl, O.hr, O.cl, O.cr, O.sl, O.sr, Nat.le_succ_of_le hd, Nat.le_succ_of_le gd⟩, rfl, rfl⟩
      | endr a => exact ⟨⟨O.hl, O.hr, O.cl, O.cr, O.sl, O.sr, Nat.le_succ_of_le hd, Nat.le_succ_of_le gd⟩, rfl, rfl⟩
end Dn

namespace Dn
open PySem PySem.Spec PyProof.Rows L2
/-! ### tuples' places -/
section
variable {a b c d e x : DV} {S : Sto} {s t u y : Str}
@[simp] theorem ix_t1_0 : pIx (.tup [a]) (.int 0) S = some (a, S) := (rfl)
@[simp] theorem ix_t2_0 : pIx (.tup [a, b]) (.int 0) S = some (a, S) := (rfl)
@[simp] theorem ix_t2_1 : pIx (.tup [a, b]) (.int 1) S = some (b, S) := (rfl)
@[simp] theorem ix_t3_0 : pIx (.tup [a, b, c]) (.int 0) S = some (a, S) := (rfl)
@[simp] theorem ix_t3_1 : pIx (.tup [a, b, c]) (.int 1) S = some (b, S) := (rfl)
@[simp] theorem ix_t3_2 : pIx (.tup [a, b, c]) (.int 2) S = some (c, S) := (rfl)
@[simp] theorem ix_t4_0 : pIx (.tup [a, b, c, d]) (.int 0) S = some (a, S) := (rfl)
@[simp] theorem ix_t4_1 : pIx (.tup [a, b, c, d]) (.int 1) S = some (b, S) := (rfl)
@[simp] theorem ix_t4_2 : pIx (.tup [a, b, c, d]) (.int 2) S = some (c, S) := (rfl)
@[simp] theorem ix_t4_3 : pIx (.tup [a, b, c, d]) (.int 3) S = some (d, S) := (rfl)
@[simp] theorem ix_t5_0 : pIx (.tup [a, b, c, d, e]) (.int 0) S = some (a, S) := (rfl)
@[simp] theorem ix_t5_1 : pIx (.tup [a, b, c, d, e]) (.int 1) S = some (b, S) := (rfl)
@[simp] theorem ix_t5_2 : pIx (.tup [a, b, c, d, e]) (.int 2) S = some (c, S) := (rfl)
@[simp] theorem ix_t5_3 : pIx (.tup [a, b, c, d, e]) (.int 3) S = some (d, S) := (rfl)
@[simp] theorem ix_t5_4 : pIx (.tup [a, b, c, d, e]) (.int 4) S = some (e, S) := (rfl)
theorem eqF_str : eqF (.str s) (.str y) = decide (s = y) := by
  show (s == y) = _
  by_cases q : s = y
  · rw [q]
    simp
  · rw [decide_eq_false q]
    simpa using q
@[simp] theorem in_t3 : pIn false (.str y) (.tup [.str s, .str t, .str u]) S = some (.bl (decide (s = y) || (decide (t = y) || decide (u = y))), S) := by
  unfold pIn
  simp [inD, eqF_str, flD]
end
/-! ### the plain machine in the store -/
structure PLoc where
  o : Nat
  l : Nat
  c : Nat
  h : Nat
  ce : Nat
  p : Nat
  g : Nat
  ss : List Nat
def PLoc.fp (L : PLoc) : List Nat := L.o :: L.l :: L.c :: L.h :: L.ce :: L.p :: L.g :: L.ss
def plF (rows : List PRow) (L : PLoc) (st : PSt) : List (Str × DV) :=
  [("rows", .tup (rows.map PRow.d)), ("leads", .loc L.l), ("coming", .loc L.c), ("at", .int st.at_), ("held", .loc L.h), ("cells", .loc L.ce), ("places", .loc L.p), ("gone", .loc L.g), ("hears", .int st.hears), ("done", .int st.done), ("result", optI st.res)]
structure PlAt (S : Sto) (L : PLoc) (rows : List PRow) (coming : List Int) (st : PSt) : Prop where
  o : S[L.o]? = some (.ins "Plain" (plF rows L st))
  l : S[L.l]? = some (.lst (leadsD rows))
  c : S[L.c]? = some (.lst (coming.map .int))
  h : S[L.h]? = some (.dik st.hk (st.hv.map .int))
  ce : S[L.ce]? = some (.dik st.ck (st.cv.map .int))
  p : S[L.p]? = some (.dik st.sk (L.ss.map .loc))
  g : S[L.g]? = some (.lst (st.gone.map .int))
  s : ∀ (i : Nat) (l : List Int), st.sv[i]? = some l → ∃ n : Nat, L.ss[i]? = some n ∧ S[n]? = some (Cell.lst (l.map DV.int))
  sl : L.ss.length = st.sv.length
  sk : st.sk.Nodup
  skl : st.sk.length = st.sv.length
  nd : L.fp.Nodup
/-- what else is in the store stays -/
def Fr (L : PLoc) (S S1 : Sto) : Prop := S1.length = S.length ∧ ∀ i, i ∉ L.fp → S1[i]? = S[i]?
theorem Fr.refl {L : PLoc} {S : Sto} : Fr L S S := ⟨rfl, fun _ _ => rfl⟩
theorem Fr.trans {L : PLoc} {S S1 S2 : Sto} (a : Fr L S S1) (b : Fr L S1 S2) : Fr L S S2 := ⟨b.1.trans a.1, fun i h => (b.2 i h).trans (a.2 i h)⟩
theorem Fr.set {L : PLoc} {S : Sto} {n : Nat} {c : Cell} (h : n ∈ L.fp) : Fr L S (S.set n c) := ⟨List.length_set, fun i hi => List.getElem?_set_ne fun q => hi (by rw [← q]; exact h)⟩
section
variable {S S' : Sto} {L : PLoc} {rows : List PRow} {coming : List Int} {st : PSt}
theorem PlAt.ext (A : PlAt S L rows coming st) (e : ∀ i, i ∈ L.fp → S'[i]? = S[i]?) : PlAt S' L rows coming st := by
  have m : ∀ n ∈ L.ss, n ∈ L.fp := fun n h => by simp [PLoc.fp, h]
  refine ⟨?_, ?_, ?_, ?_, ?_, ?_, ?_, fun i l hl => ?_, A.sl, A.sk, A.skl, A.nd⟩
  · rw [e _ (by simp [PLoc.fp])]; exact A.o
  · rw [e _ (by simp [PLoc.fp])]; exact A.l
  · rw [e _ (by simp [PLoc.fp])]; exact A.c
  · rw [e _ (by simp [PLoc.fp])]; exact A.h
  · rw [e _ (by simp [PLoc.fp])]; exact A.ce
  · rw [e _ (by simp [PLoc.fp])]; exact A.p
  · rw [e _ (by simp [PLoc.fp])]; exact A.g
  · obtain ⟨n, h1, h2⟩ := A.s i l hl
    exact ⟨n, h1, by rw [e _ (m n (List.mem_of_getElem? h1))]; exact h2⟩
theorem PlAt.setO (A : PlAt S L rows coming st) (a d h : Nat) (r : Option Int) : PlAt (S.set L.o (.ins "Plain" (plF rows L { st with at_ := a, done := d, hears := h, res := r }))) L rows coming { st with at_ := a, done := d, hears := h, res := r } := by
  have nd := A.nd
  simp only [PLoc.fp, List.nodup_cons, List.mem_cons, not_or] at nd
  obtain ⟨⟨n1, n2, n3, n4, n5, n6, n7⟩, _⟩ := nd
  refine ⟨List.getElem?_set_self (get_lt A.o), ?_, ?_, ?_, ?_, ?_, ?_, fun i l hl => ?_, A.sl, A.sk, A.skl, A.nd⟩
  · rw [List.getElem?_set_ne n1]; exact A.l
  · rw [List.getElem?_set_ne n2]; exact A.c
  · rw [List.getElem?_set_ne n3]; exact A.h
  · rw [List.getElem?_set_ne n4]; exact A.ce
  · rw [List.getElem?_set_ne n5]; exact A.p
  · rw [List.getElem?_set_ne n6]; exact A.g
  · obtain ⟨n, h1, h2⟩ := A.s i l hl
    exact ⟨n, h1, by rw [List.getElem?_set_ne fun q => n7 (by rw [q]; exact List.mem_of_getElem? h1)]; exact h2⟩
theorem PlAt.setH (A : PlAt S L rows coming st) (ks : List Key) (vs : List Int) : PlAt (S.set L.h (.dik ks (vs.map .int))) L rows coming { st with hk := ks, hv := vs } := by
  have nd := A.nd
  simp only [PLoc.fp, List.nodup_cons, List.mem_cons, not_or] at nd
  obtain ⟨⟨n1, n2, n3, n4, n5, n6, n7⟩, ⟨l1, l2, l3, l4, l5, l6⟩, ⟨c1, c2, c3, c4, c5⟩, ⟨h1, h2, h3, h4⟩, _⟩ := nd
  refine ⟨?_, ?_, ?_, List.getElem?_set_self (get_lt A.h), ?_, ?_, ?_, fun i l hl => ?_, A.sl, A.sk, A.skl, A.nd⟩
  · rw [List.getElem?_set_ne (Ne.symm n3)]; exact A.o
  · rw [List.getElem?_set_ne (Ne.symm l2)]; exact A.l
  · rw [List.getElem?_set_ne (Ne.symm c1)]; exact A.c
  · rw [List.getElem?_set_ne h1]; exact A.ce
  · rw [List.getElem?_set_ne h2]; exact A.p
  · rw [List.getElem?_set_ne h3]; exact A.g
  · obtain ⟨n, k1, k2⟩ := A.s i l hl
    exact ⟨n, k1, by rw [List.getElem?_set_ne fun q => h4 (by rw [q]; exact List.mem_of_getElem? k1)]; exact k2⟩
theorem PlAt.setC (A : PlAt S L rows coming st) (vs : List Int) : PlAt (S.set L.ce (.dik st.ck (vs.map .int))) L rows coming { st with cv := vs } := by
  have nd := A.nd
  simp only [PLoc.fp, List.nodup_cons, List.mem_cons, not_or] at nd
  obtain ⟨⟨n1, n2, n3, n4, n5, n6, n7⟩, ⟨l1, l2, l3, l4, l5, l6⟩, ⟨c1, c2, c3, c4, c5⟩, ⟨h1, h2, h3, h4⟩, ⟨e1, e2, e3⟩, _⟩ := nd
  refine ⟨?_, ?_, ?_, ?_, List.getElem?_set_self (get_lt A.ce), ?_, ?_, fun i l hl => ?_, A.sl, A.sk, A.skl, A.nd⟩
  · rw [List.getElem?_set_ne (Ne.symm n4)]; exact A.o
  · rw [List.getElem?_set_ne (Ne.symm l3)]; exact A.l
  · rw [List.getElem?_set_ne (Ne.symm c2)]; exact A.c
  · rw [List.getElem?_set_ne (Ne.symm h1)]; exact A.h
  · rw [List.getElem?_set_ne e1]; exact A.p
  · rw [List.getElem?_set_ne e2]; exact A.g
  · obtain ⟨n, k1, k2⟩ := A.s i l hl
    exact ⟨n, k1, by rw [List.getElem?_set_ne fun q => e3 (by rw [q]; exact List.mem_of_getElem? k1)]; exact k2⟩
theorem PlAt.setG (A : PlAt S L rows coming st) (vs : List Int) : PlAt (S.set L.g (.lst (vs.map .int))) L rows coming { st with gone := vs } := by
  have nd := A.nd
  simp only [PLoc.fp, List.nodup_cons, List.mem_cons, not_or] at nd
  obtain ⟨⟨n1, n2, n3, n4, n5, n6, n7⟩, ⟨l1, l2, l3, l4, l5, l6⟩, ⟨c1, c2, c3, c4, c5⟩, ⟨h1, h2, h3, h4⟩, ⟨e1, e2, e3⟩, ⟨p1, p2⟩, g1, _⟩ := nd
  refine ⟨?_, ?_, ?_, ?_, ?_, ?_, List.getElem?_set_self (get_lt A.g), fun i l hl => ?_, A.sl, A.sk, A.skl, A.nd⟩
  · rw [List.getElem?_set_ne (Ne.symm n6)]; exact A.o
  · rw [List.getElem?_set_ne (Ne.symm l5)]; exact A.l
  · rw [List.getElem?_set_ne (Ne.symm c4)]; exact A.c
  · rw [List.getElem?_set_ne (Ne.symm h3)]; exact A.h
  · rw [List.getElem?_set_ne (Ne.symm e2)]; exact A.ce
  · rw [List.getElem?_set_ne (Ne.symm p1)]; exact A.p
  · obtain ⟨n, k1, k2⟩ := A.s i l hl
    exact ⟨n, k1, by rw [List.getElem?_set_ne fun q => g1 (by rw [q]; exact List.mem_of_getElem? k1)]; exact k2⟩
theorem rpG_get {κ α : Type} [DecidableEq κ] {j : κ} {v : α} : ∀ {ks : List κ} {vs : List α} {i : Nat}, (rpG j v ks vs : List α)[i]? = match ks[i]?, vs[i]? with
    | some k, some u => some (if k = j then v else u)
    | _, _ => none
  | [], vs, i => by
    unfold rpG
    simp
  | k :: ks, [], i => by
    unfold rpG
    cases h : (k :: ks)[i]? <;> simp
  | k :: ks, u :: vs, 0 => by
    unfold rpG
    rfl
  | k :: ks, u :: vs, i + 1 => by
    unfold rpG
    rw [List.getElem?_cons_succ, List.getElem?_cons_succ, List.getElem?_cons_succ, rpG_get]
theorem lkG_ix {κ α : Type} [DecidableEq κ] {j : κ} {v : α} : ∀ {ks : List κ} {vs : List α}, lkG ks vs j = some v → ∃ i : Nat, ks[i]? = some j ∧ vs[i]? = some v ∧ ∀ {β : Type} {us : List β} {u : β}, us[i]? = some u → lkG ks us j = some u
  | [], vs, h => by
    unfold lkG at h
    cases h
  | k :: ks, [], h => by
    unfold lkG at h
    cases h
  | k :: ks, w :: vs, h => by
    unfold lkG at h
    by_cases q : k = j
    · rw [if_pos q] at h
      refine ⟨0, by rw [← q] <;> rfl, h, fun {β us u} hu => ?_⟩
      cases us with
      | nil => cases hu
      | cons x us =>
        unfold lkG
        rw [if_pos q]
        exact hu
    · rw [if_neg q] at h
      obtain ⟨i, h1, h2, h3⟩ := lkG_ix h
      refine ⟨i + 1, h1, h2, fun {β us u} hu => ?_⟩
      cases us with
      | nil => cases hu
      | cons x us =>
        unfold lkG
        rw [if_neg q]
        exact h3 hu
theorem nodup_ix {α : Type} {a : α} : ∀ {l : List α} {i j : Nat}, l.Nodup → l[i]? = some a → l[j]? = some a → i = j
  | [], i, j, _, h, _ => by simp at h
  | x :: l, 0, 0, _, _, _ => rfl
  | x :: l, 0, j + 1, n, h, h2 => by
    rw [List.nodup_cons] at n
    have e : x = a := by simpa using h
    exact absurd (List.mem_of_getElem? (by simpa using h2)) (by rw [← e]; exact n.1)
  | x :: l, i + 1, 0, n, h, h2 => by
    rw [List.nodup_cons] at n
    have e : x = a := by simpa using h2
    exact absurd (List.mem_of_getElem? (by simpa using h)) (by rw [← e]; exact n.1)
  | x :: l, i + 1, j + 1, n, h, h2 => by
    rw [List.nodup_cons] at n
    have h' : l[i]? = some a := by simpa using h
    have h2' : l[j]? = some a := by simpa using h2
    exact congrArg (· + 1) (nodup_ix n.2 h' h2')
/-- where a shelf's places are -/
theorem PlAt.shelf (A : PlAt S L rows coming st) {s : Str} {l : List Int} (h : lkG st.sk st.sv (.inr s) = some l) : ∃ n : Nat, n ∈ L.fp ∧ lkD st.sk (L.ss.map .loc) (.inr s) = some (.loc n) ∧ S[n]? = some (Cell.lst (l.map DV.int)) ∧
    ∀ l', PlAt (S.set n (.lst (l'.map .int))) L rows coming { st with sv := rpG (.inr s) l' st.sk st.sv } := by
  obtain ⟨i, h1, h2, h3⟩ := lkG_ix h
  obtain ⟨n, h4, h5⟩ := A.s i l h2
  have hm : n ∈ L.ss := List.mem_of_getElem? h4
  have nd := A.nd
  simp only [PLoc.fp, List.nodup_cons, List.mem_cons, not_or] at nd
  obtain ⟨⟨n1, n2, n3, n4, n5, n6, n7⟩, ⟨l1, l2, l3, l4, l5, l6⟩, ⟨c1, c2, c3, c4, c5⟩, ⟨k1, k2, k3, k4⟩, ⟨e1, e2, e3⟩, ⟨p1, p2⟩, g1, ns⟩ := nd
  refine ⟨n, by simp [PLoc.fp, hm], by rw [lkD_map, h3 h4] <;> rfl, h5, fun l' => ⟨?_, ?_, ?_, ?_, ?_, ?_, ?_, fun i' u hu => ?_, ?_, A.sk, ?_, A.nd⟩⟩
  · rw [List.getElem?_set_ne fun q => n7 (by rw [← q]; exact hm)]; exact A.o
  · rw [List.getElem?_set_ne fun q => l6 (by rw [← q]; exact hm)]; exact A.l
  · rw [List.getElem?_set_ne fun q => c5 (by rw [← q]; exact hm)]; exact A.c
  · rw [List.getElem?_set_ne fun q => k4 (by rw [← q]; exact hm)]; exact A.h
  · rw [List.getElem?_set_ne fun q => e3 (by rw [← q]; exact hm)]; exact A.ce
  · rw [List.getElem?_set_ne fun q => p2 (by rw [← q]; exact hm)]; exact A.p
  · rw [List.getElem?_set_ne fun q => g1 (by rw [← q]; exact hm)]; exact A.g
  · have hu' : (rpG (Sum.inr s : Key) l' st.sk st.sv)[i']? = some u := hu
    rw [rpG_get] at hu'
    cases e1 : st.sk[i']? with
    | none =>
      rw [e1] at hu'
      cases hu'
    | some k =>
      cases e2 : st.sv[i']? with
      | none =>
        rw [e1, e2] at hu'
        cases hu'
      | some w =>
        rw [e1, e2] at hu'
        cases hu'
        obtain ⟨m, m1, m2⟩ := A.s i' w e2
        by_cases q : k = Sum.inr s
        · have ii : i' = i := by
            exact nodup_ix A.sk (by rw [e1, q]) h1
          subst ii
          rw [if_pos q]
          exact ⟨n, h4, List.getElem?_set_self (get_lt h5)⟩
        · rw [if_neg q]
          refine ⟨m, m1, ?_⟩
          rw [List.getElem?_set_ne]
          · exact m2
          · intro qq
            subst qq
            have : i' = i := nodup_ix ns m1 h4
            subst this
            rw [e1] at h1
            exact q (Option.some.inj h1)
  · show L.ss.length = (rpG (Sum.inr s : Key) l' st.sk st.sv).length
    rw [rp_len A.skl, A.sl, A.skl]
  · show st.sk.length = (rpG (Sum.inr s : Key) l' st.sk st.sv).length
    rw [rp_len A.skl]
end
end Dn

/-! loops over the keys of a live dict: it is locked while it is walked -/
namespace Dn
open PySem PySem.Spec PyProof.Rows L2
def notLok : Cell → Bool
  | .lok _ _ => false
  | .lokt _ _ => false
  | _ => true
def unlockS (n : Nat) (S : Sto) : Option Sto := match S[n]? with
  | some (.lok ks ds) => if (S.set n .gone).all notLok = true then some (S.set n (.dik ks ds)) else none
  | some (.lokt ks ds) => if (S.set n .gone).all notLok = true then some (S.set n (.dit ks ds)) else none
  | _ => none
def unlockO (n : Nat) : Out → Option Out
  | .nx ρ S => (match unlockS n S with | some S' => some (.nx ρ S') | none => none)
  | .rt d S => (match unlockS n S with | some S' => some (.rt d S') | none => none)
  | .bk ρ S => (match unlockS n S with | some S' => some (.bk ρ S') | none => none)
  | .ct ρ S => (match unlockS n S with | some S' => some (.ct ρ S') | none => none)
def iKeyL (f : DE) : DI := fun ρ S => match f ρ S with
  | some (.loc n, S1) => (match S1[n]? with
    | some (.lok ks _) => some (ks.map kdv, S1)
    | some (.lokt ks _) => some (ks.map fun k => .tup (k.map kdv), S1)
    | _ => none)
  | _ => none
theorem walks_keys {F : Fm} {a : Addr} {o : Obj} {ks : List Key} {xs : List V} (h : F.P a = some (.frz o (.dK (ks.zip xs)))) (hl : ks.length = xs.length) : Walks (Itk a o (ks.zip xs)) F (ks.map kdv) := fun i F' S H w pf R => by
  have e : H a = some (.frz o (.dK (ks.zip xs))) := R.p _ _ (pf _ _ _ h)
  have hz : (ks.zip xs).length = ks.length := by rw [List.length_zip, ← hl, Nat.min_self]
  refine ⟨fun hi => ⟨e, by rw [hz]; rw [List.length_map] at hi; omega⟩, fun d hd => ?_⟩
  have hlt := (List.getElem?_eq_some_iff.mp hd).1
  rw [List.length_map] at hlt
  refine ⟨⟨e, by rw [hz]; exact hlt⟩, fun x H' y => ?_⟩
  obtain ⟨rfl, k, v, h1, rfl⟩ := y
  refine ⟨F', .refl F', R, ?_⟩
  rw [List.getElem?_map] at hd
  have h2 : ks[i]? = some k := by
    have := congrArg (Option.map Prod.fst) h1
    rw [← List.getElem?_map, List.map_fst_zip (by omega)] at this
    exact this
  rw [h2] at hd
  cases hd
  cases k with
  | inl i => exact (rfl : kV (.inl i) = .int i)
  | inr s => exact (rfl : kV (.inr s) = .str s)
theorem walks_keysT {F : Fm} {a : Addr} {o : Obj} {ks : List (List Key)} {xs : List V} (h : F.P a = some (.frz o (.dT (ks.zip xs)))) (hl : ks.length = xs.length) : Walks (Itkt a o (ks.zip xs)) F (ks.map fun k => .tup (k.map kdv)) := fun i F' S H w pf R => by
  have e : H a = some (.frz o (.dT (ks.zip xs))) := R.p _ _ (pf _ _ _ h)
  have hz : (ks.zip xs).length = ks.length := by rw [List.length_zip, ← hl, Nat.min_self]
  refine ⟨fun hi => ⟨e, by rw [hz]; rw [List.length_map] at hi; omega⟩, fun d hd => ?_⟩
  have hlt := (List.getElem?_eq_some_iff.mp hd).1
  rw [List.length_map] at hlt
  refine ⟨⟨e, by rw [hz]; exact hlt⟩, fun x H' y => ?_⟩
  obtain ⟨rfl, k, v, q, h1, rfl, h3⟩ := y
  refine ⟨F', .refl F', R, ?_⟩
  rw [List.getElem?_map] at hd
  have h2 : ks[i]? = some k := by
    have := congrArg (Option.map Prod.fst) h1
    rw [← List.getElem?_map, List.map_fst_zip (by omega)] at this
    exact this
  rw [h2] at hd
  cases hd
  exact ⟨_, _, rfl, R.tup _ _ h3, kdv_rel k⟩
section
variable {X : Cx} {e : Expr} {f : DE} {st : Stmt}
theorem id_keyL {tg : Expr} (h : ED X e f) : ID X tg e (iKeyL f) :=
  .of (pi_keys h.pe) fun F S H ρ σ ds S' Q hk R rr hf hq => by
    unfold iKeyL at hf
    split at hf
    · rename_i n S1 h1
      split at hf
      · rename_i ks ds0 hc
        cases hf
        refine rdE.go hk R rr h1 fun F1 H1 v le hk1 R1 r1 rv => ?_
        obtain ⟨a, ha, rfl⟩ := rv
        obtain ⟨⟨o, xs, hz, eP, rl⟩, _⟩ := R1.cell n _ a hc ha
        exact ⟨a, o, rfl, .inl ⟨_, R1.p _ _ eP, hq _ F1 H1 le R1 (walks_keys eP (hz.trans rl.length))⟩⟩
      · rename_i ks ds0 hc
        cases hf
        refine rdE.go hk R rr h1 fun F1 H1 v le hk1 R1 r1 rv => ?_
        obtain ⟨a, ha, rfl⟩ := rv
        obtain ⟨⟨o, xs, hz, eP, rl⟩, _⟩ := R1.cell n _ a hc ha
        exact ⟨a, o, rfl, .inr ⟨_, R1.p _ _ eP, hq _ F1 H1 le R1 (walks_keysT eP (hz.trans rl.length))⟩⟩
      · cases hf
    · cases hf
/-- a dict's cell is locked -/
def lockC : Cell → Option Cell
  | .dik ks ds => some (.lok ks ds)
  | .dit ks ds => some (.lokt ks ds)
  | _ => none
def HoC (F : Fm) : Cell → HO → Prop
  | .dik ks ds, u => ∃ xs, ks.length = ds.length ∧ u = .dK (ks.zip xs) ∧ RelL F ds xs
  | .dit ks ds, u => ∃ xs, ks.length = ds.length ∧ u = .dT (ks.zip xs) ∧ RelL F ds xs
  | _, _ => False
theorem Rep.atL {F : Fm} {S : Sto} {H : Hp} (R : Rep F S H) {n : Nat} {c c' : Cell} (hl : lockC c = some c') (h : S[n]? = some c) : ∃ a u, F.lm[n]? = some a ∧ H a = some u ∧ HoC F c u ∧ F.G a = none ∧ F.B a = none ∧ F.P a = none ∧ Mut (some u) ∧ ∀ xs, u ≠ .tup xs := by
  obtain ⟨a, ha, hcell, hfree⟩ := R.at h
  cases c with
  | dik ks ds =>
    obtain ⟨xs, hz, e, rl⟩ := hcell
    obtain ⟨ga, ba, pa⟩ := hfree rfl
    exact ⟨a, _, ha, e, ⟨xs, hz, rfl, rl⟩, ga, ba, pa, trivial, fun _ q => nomatch q⟩
  | dit ks ds =>
    obtain ⟨xs, hz, e, rl⟩ := hcell
    obtain ⟨ga, ba, pa⟩ := hfree rfl
    exact ⟨a, _, ha, e, ⟨xs, hz, rfl, rl⟩, ga, ba, pa, trivial, fun _ q => nomatch q⟩
  | _ => cases hl
theorem Rep.lock {F : Fm} {S : Sto} {H : Hp} (R : Rep F S H) {n : Nat} {c c' : Cell} (hl : lockC c = some c') {a : Addr} (h : S[n]? = some c) (ha : F.lm[n]? = some a) {u : HO} (hu : H a = some u) (od : Obj) (hd : HoC F c u) :
    Rep { F with P := upd F.P a (.frz od u) } (S.set n c') (upd H a (.frz od u)) := by
  have lv : c.live = true := by cases c <;> first | rfl | cases hl
  have dd : c'.live = false := by cases c <;> first | (cases hl; rfl) | cases hl
  obtain ⟨k1, k2⟩ := R.cell n _ a h ha
  obtain ⟨ga, ba, pa⟩ := k2 lv
  have hlt := (List.getElem?_eq_some_iff.mp h).1
  have wk : Wk F { F with P := upd F.P a (.frz od u) } := ⟨rfl, Same.refl _, Same.refl _, List.prefix_refl _⟩
  have pf : PF F { F with P := upd F.P a (.frz od u) } := fun b o w e => by
    show upd F.P a (.frz od u) b = _
    rw [upd_ne fun q => by rw [q, pa] at e; cases e]
    exact e
  have pl : ∀ b o, F.P b = some o → upd F.P a (.frz od u) b = some o := fun b o e => by
    rw [upd_ne fun q => by rw [q, pa] at e; cases e]
    exact e
  refine ⟨fun b o e => ?_, fun b o e => ?_, fun b o e => ?_, fun b xs e => ?_, by rw [List.length_set]; exact R.len, fun m cm b hm hb => ?_, fun m1 m2 c1 c2 b h1 h2 l1 l2 e1 e2 => ?_⟩
  · rw [upd_ne fun q => by rw [q, ga] at e; cases e]
    exact R.g _ _ e
  · rw [upd_ne fun q => by rw [q, ba] at e; cases e]
    exact R.b _ _ e
  · have e' : upd F.P a (.frz od u) b = some o := e
    by_cases q : b = a
    · rw [q, upd_same] at e' ⊢
      exact e'
    · rw [upd_ne q] at e' ⊢
      exact R.p _ _ e'
  · rw [upd_ne fun q => by rw [q, upd_same] at e; cases e] at e
    exact R.tup _ _ e
  · by_cases q : m = n
    · subst q
      rw [List.getElem?_set_self hlt] at hm
      cases hm
      have hb' : F.lm[m]? = some b := hb
      rw [ha] at hb'
      cases hb'
      refine ⟨?_, fun q => by rw [dd] at q; cases q⟩
      cases c with
      | dik ks ds =>
        cases hl
        obtain ⟨xs, hz, rfl, rl⟩ := hd
        exact ⟨od, xs, hz, upd_same, RelL.wk wk _ _ rl⟩
      | dit ks ds =>
        cases hl
        obtain ⟨xs, hz, rfl, rl⟩ := hd
        exact ⟨od, xs, hz, upd_same, RelL.wk wk _ _ rl⟩
      | _ => cases hl
    · rw [List.getElem?_set_ne (fun z => q z.symm)] at hm
      obtain ⟨j1, j2⟩ := R.cell m cm b hm hb
      have ne : cm.live = true → b ≠ a := fun l z => q (R.inj m n _ _ a hm h l lv (by rw [← z]; exact hb) ha)
      exact ⟨j1.wk wk pf fun l => upd_ne (ne l), fun l => ⟨(j2 l).1, (j2 l).2.1, by
        show upd F.P a (.frz od u) b = none
        rw [upd_ne (ne l)]
        exact (j2 l).2.2⟩⟩
  · have old : ∀ {m : Nat} {c : Cell}, (S.set n c')[m]? = some c → c.live = true → S[m]? = some c := fun {m c} hm l => by
      by_cases q : m = n
      · subst q
        rw [List.getElem?_set_self hlt] at hm
        cases hm
        rw [dd] at l
        cases l
      · rw [List.getElem?_set_ne (fun z => q z.symm)] at hm
        exact hm
    exact R.inj m1 m2 c1 c2 b (old h1 l1) (old h2 l2) l1 l2 e1 e2
/-- .. and free again -/
theorem Rep.unlock0 {F F' : Fm} {S' : Sto} {H' : Hp} {a : Addr} {od : Obj} {u : HO} {n : Nat} (hB : F.B a = none) (hG : F.G a = none) (hP : F.P a = none) (hut : ∀ xs, u ≠ .tup xs) (le : Le { F with P := upd F.P a (.frz od u) } F') (R : Rep F' S' H') (ha : F.lm[n]? = some a)
    {cl c0 : Cell} (hc : S'[n]? = some cl) (hall : (S'.set n .gone).all notLok = true) (lv : c0.live = true) (hok : CellOk { F' with P := F.P } (upd H' a u) a c0) : H' a = some (.frz od u) ∧ Rep { F' with P := F.P } (S'.set n c0) (upd H' a u) ∧ Le F { F' with P := F.P } := by
  have pa : F'.P a = some (.frz od u) := by rw [le.p]; exact upd_same
  have h0 : H' a = some (.frz od u) := R.p _ _ pa
  have ga : F'.G a = none := by
    cases e : F'.G a with
    | none => rfl
    | some o =>
      rcases le.n a o e with q | q
      · have q' : F.G a = some o := q
        rw [hG] at q'
        cases q'
      · have q' : upd F.P a (.frz od u) a = none := q.2
        rw [upd_same] at q'
        cases q'
  have bb : F'.B = F.B := le.b
  have ha' : F'.lm[n]? = some a := prefix_get le.m ha
  have pq : ∀ b, b ≠ a → F'.P b = F.P b := fun b q => by
    rw [le.p]
    exact upd_ne q
  have hlt := (List.getElem?_eq_some_iff.mp hc).1
  have wk : Wk F' { F' with P := F.P } := ⟨rfl, Same.refl _, Same.refl _, List.prefix_refl _⟩
  have ne : ∀ {m : Nat} {c : Cell} {b : Addr}, S'[m]? = some c → c.live = true → F'.lm[m]? = some b → b ≠ a := fun {m c b} hm l hb q => by
    have := ((R.cell m c b hm hb).2 l).2.2
    rw [q, pa] at this
    cases this
  refine ⟨h0, ⟨fun b o e => ?_, fun b o e => ?_, fun b o e => ?_, fun b xs e => ?_, by rw [List.length_set]; exact R.len, fun m c b hm hb => ?_, fun m1 m2 c1 c2 b h1 h2 l1 l2 e1 e2 => ?_⟩, ⟨le.k, bb, rfl, le.g, fun b o e => ?_, le.m⟩⟩
  · rw [upd_ne fun q => by rw [q, ga] at e; cases e]
    exact R.g _ _ e
  · have e' : F'.B b = some o := e
    rw [upd_ne fun q => by rw [q, bb, hB] at e'; cases e']
    exact R.b _ _ e'
  · have e' : F.P b = some o := e
    have q : b ≠ a := fun q => by rw [q, hP] at e'; cases e'
    rw [upd_ne q]
    exact R.p _ _ (by rw [pq b q]; exact e')
  · by_cases q : b = a
    · rw [q, upd_same] at e
      exact absurd (Option.some.inj e) (hut xs)
    · rw [upd_ne q] at e
      exact R.tup _ _ e
  · by_cases q : m = n
    · subst q
      rw [List.getElem?_set_self hlt] at hm
      cases hm
      have hb' : F'.lm[m]? = some b := hb
      rw [ha'] at hb'
      cases hb'
      exact ⟨hok, fun _ => ⟨ga, by show F'.B a = none; rw [bb]; exact hB, hP⟩⟩
    · rw [List.getElem?_set_ne (fun z => q z.symm)] at hm
      obtain ⟨j1, j2⟩ := R.cell m c b hm hb
      have nl : notLok c = true := by
        have h3 : (S'.set n .gone)[m]? = some c := by rw [List.getElem?_set_ne (fun z => q z.symm)]; exact hm
        exact List.all_eq_true.mp hall c (List.mem_of_getElem? h3)
      refine ⟨?_, fun l => ⟨(j2 l).1, (j2 l).2.1, by
        show F.P b = none
        rw [← pq b (ne hm l hb)]
        exact (j2 l).2.2⟩⟩
      cases c with
      | lok ks ds => cases nl
      | lokt ks ds => cases nl
      | lst xs =>
        obtain ⟨ys, e1, r1⟩ := j1
        exact ⟨ys, (upd_ne (ne hm rfl hb)).trans e1, RelL.wk wk _ _ r1⟩
      | dik ks ds =>
        obtain ⟨ys, z, e1, r1⟩ := j1
        exact ⟨ys, z, (upd_ne (ne hm rfl hb)).trans e1, RelL.wk wk _ _ r1⟩
      | dit ks ds =>
        obtain ⟨ys, z, e1, r1⟩ := j1
        exact ⟨ys, z, (upd_ne (ne hm rfl hb)).trans e1, RelL.wk wk _ _ r1⟩
      | ins C fs =>
        obtain ⟨dx, ys, e1, r1⟩ := j1
        exact ⟨dx, ys, (upd_ne (ne hm rfl hb)).trans e1, RelL.wk wk _ _ r1⟩
      | frz d => exact Rel.wk wk _ _ j1
      | dlf ks ds =>
        obtain ⟨es, e1, z, r1, r2, t⟩ := j1
        exact ⟨es, (upd_ne (ne hm rfl hb)).trans e1, z, RelL.wk wk _ _ r1, RelL.wk wk _ _ r2, t⟩
      | gone => trivial
  · have old : ∀ {m : Nat} {c : Cell} {b : Addr}, (S'.set n c0)[m]? = some c → c.live = true → m ≠ n → S'[m]? = some c := fun {m c b} hm l q => by
      rw [List.getElem?_set_ne (fun z => q z.symm)] at hm
      exact hm
    by_cases q1 : m1 = n
    · by_cases q2 : m2 = n
      · rw [q1, q2]
      · have e1' : F'.lm[m1]? = some b := e1
        rw [q1, ha'] at e1'
        cases e1'
        exact absurd rfl (ne (old (b := a) h2 l2 q2) l2 e2)
    · by_cases q2 : m2 = n
      · have e2' : F'.lm[m2]? = some b := e2
        rw [q2, ha'] at e2'
        cases e2'
        exact absurd rfl (ne (old (b := a) h1 l1 q1) l1 e1)
      · exact R.inj m1 m2 c1 c2 b (old (b := b) h1 l1 q1) (old (b := b) h2 l2 q2) l1 l2 e1 e2
  · have e' : F'.G b = some o := e
    rcases le.n b o e' with q | q
    · exact .inl q
    · have q3 : b ≠ a := fun z => by
        have q2 := q.2
        rw [z] at q2
        have q4 : upd F.P a _ a = none := q2
        rw [upd_same] at q4
        cases q4
      have q2 : upd F.P a _ b = none := q.2
      rw [upd_ne q3] at q2
      exact .inr ⟨q.1, q2⟩
theorem Rep.unlock {F F' : Fm} {S' S'' : Sto} {H' : Hp} {a : Addr} {od : Obj} {u : HO} {n : Nat} (hB : F.B a = none) (hG : F.G a = none) (hP : F.P a = none) (hut : ∀ xs, u ≠ .tup xs) (le : Le { F with P := upd F.P a (.frz od u) } F') (R : Rep F' S' H') (ha : F.lm[n]? = some a)
    (h : unlockS n S' = some S'') : H' a = some (.frz od u) ∧ Rep { F' with P := F.P } S'' (upd H' a u) ∧ Le F { F' with P := F.P } := by
  have pa : F'.P a = some (.frz od u) := by rw [le.p]; exact upd_same
  have ha' : F'.lm[n]? = some a := prefix_get le.m ha
  have wk : Wk F' { F' with P := F.P } := ⟨rfl, Same.refl _, Same.refl _, List.prefix_refl _⟩
  unfold unlockS at h
  split at h
  · rename_i ks ds hc
    obtain ⟨hall, h⟩ := of_ite h
    cases h
    obtain ⟨⟨o, xs, hz, eP, rl⟩, _⟩ := R.cell n _ a hc ha'
    rw [pa] at eP
    cases eP
    exact Rep.unlock0 hB hG hP hut le R ha hc hall rfl ⟨xs, hz, upd_same, RelL.wk wk _ _ rl⟩
  · rename_i ks ds hc
    obtain ⟨hall, h⟩ := of_ite h
    cases h
    obtain ⟨⟨o, xs, hz, eP, rl⟩, _⟩ := R.cell n _ a hc ha'
    rw [pa] at eP
    cases eP
    exact Rep.unlock0 hB hG hP hut le R ha hc hall rfl ⟨xs, hz, upd_same, RelL.wk wk _ _ rl⟩
  · cases h
/-- a thing done behind a lock, then free again -/
theorem unlockO_post {F F' : Fm} {a : Addr} {od : Obj} {u : HO} {n : Nat} (hB : F.B a = none) (hG : F.G a = none) (hP : F.P a = none) (hut : ∀ xs, u ≠ .tup xs) (ha : F.lm[n]? = some a) {o oo : Out} {D : Ends} (hf : unlockO n o = some oo) (hq : PostS F oo D) (le' : Le { F with P := upd F.P a (.frz od u) } F') {H' : Hp} (R' : Rep F' o.S H') :
    PostO F' ⟨fun σ' H' => H' a = some (.frz od u) ∧ D.nx σ' (upd H' a u), fun v H' => H' a = some (.frz od u) ∧ D.rt v (upd H' a u), fun σ' H' => H' a = some (.frz od u) ∧ D.bk σ' (upd H' a u), fun σ' H' => H' a = some (.frz od u) ∧ D.ct σ' (upd H' a u)⟩ H' o := by
  have un : ∀ {S' S'' : Sto}, Rep F' S' H' → unlockS n S' = some S'' → H' a = some (.frz od u) ∧ Rep { F' with P := F.P } S'' (upd H' a u) ∧ Le F { F' with P := F.P } := fun {S' S''} R' hu => Rep.unlock hB hG hP hut le' R' ha hu
  have wk2 : Wk F' { F' with P := F.P } := ⟨rfl, Same.refl _, Same.refl _, List.prefix_refl _⟩
  cases o with
  | nx ρ' S' =>
    unfold unlockO at hf
    simp only at hf
    split at hf
    · rename_i S'' hu
      cases hf
      obtain ⟨u1, u2, u3⟩ := un R' hu
      exact fun σ' r' => ⟨u1, hq _ _ u3 u2 σ' (r'.wk wk2)⟩
    · cases hf
  | rt d S' =>
    unfold unlockO at hf
    simp only at hf
    split at hf
    · rename_i S'' hu
      cases hf
      obtain ⟨u1, u2, u3⟩ := un R' hu
      exact fun v rv => ⟨u1, hq _ _ u3 u2 v (Rel.wk wk2 _ _ rv)⟩
    · cases hf
  | bk ρ' S' =>
    unfold unlockO at hf
    simp only at hf
    split at hf
    · rename_i S'' hu
      cases hf
      obtain ⟨u1, u2, u3⟩ := un R' hu
      exact fun σ' r' => ⟨u1, hq _ _ u3 u2 σ' (r'.wk wk2)⟩
    · cases hf
  | ct ρ' S' =>
    unfold unlockO at hf
    simp only at hf
    split at hf
    · rename_i S'' hu
      cases hf
      obtain ⟨u1, u2, u3⟩ := un R' hu
      exact fun σ' r' => ⟨u1, hq _ _ u3 u2 σ' (r'.wk wk2)⟩
    · cases hf
end
end Dn

/-! names set by the places of a list -/
namespace Dn
open PySem PySem.Spec PyProof.Rows L2
section
variable {X : Cx} {e : Expr} {es : List Expr}
end
end Dn

/-! sorted texts, comprehensions over a live dict, reversed ranges -/
namespace Dn
open PySem PySem.Spec PyProof.Rows L2
/-! ### texts in order -/
theorem lt_asym : ∀ a b : List Nat, ltCps a b = true → ltCps b a = false
  | [], [], h => by cases h
  | [], _ :: _, _ => rfl
  | _ :: _, [], h => by cases h
  | x :: a, y :: b, h => by
    unfold ltCps at h ⊢
    simp only [Bool.or_eq_true, decide_eq_true_eq, Bool.and_eq_true, beq_iff_eq] at h
    simp only [Bool.or_eq_false_iff, decide_eq_false_iff_not, Bool.and_eq_false_imp, beq_iff_eq]
    rcases h with h | ⟨h1, h2⟩
    · exact ⟨by omega, fun q => by omega⟩
    · exact ⟨by omega, fun _ => lt_asym a b h2⟩
theorem lt_eq : ∀ a b : List Nat, ltCps a b = false → ltCps b a = false → a = b
  | [], [], _, _ => rfl
  | [], _ :: _, h, _ => by cases h
  | _ :: _, [], _, h => by cases h
  | x :: a, y :: b, h, k => by
    unfold ltCps at h k
    simp only [Bool.or_eq_false_iff, decide_eq_false_iff_not, Bool.and_eq_false_imp, beq_iff_eq] at h k
    have e : x = y := by omega
    subst e
    rw [lt_eq a b (h.2 rfl) (k.2 rfl)]
theorem lt_trans : ∀ a b c : List Nat, ltCps b a = false → ltCps c b = false → ltCps c a = false
  | [], _, [], _, _ => rfl
  | [], [], _ :: _, _, _ => rfl
  | [], _ :: _, _ :: _, _, _ => rfl
  | _ :: _, [], _, h, _ => by cases h
  | _ :: _, _ :: _, [], _, h => by cases h
  | x :: a, y :: b, z :: c, h, k => by
    unfold ltCps at h k ⊢
    simp only [Bool.or_eq_false_iff, decide_eq_false_iff_not, Bool.and_eq_false_imp, beq_iff_eq] at h k ⊢
    refine ⟨by omega, fun q => ?_⟩
    exact lt_trans a b c (h.2 (by omega)) (k.2 (by omega))
def leS (a b : Str) : Bool := !ltCps b.cps.toList a.cps.toList
theorem leS_trans {a b c : Str} (h : leS a b = true) (k : leS b c = true) : leS a c = true := by
  unfold leS at *
  simp only [Bool.not_eq_true'] at *
  exact lt_trans _ _ _ h k
theorem leS_total (a b : Str) : (leS a b || leS b a) = true := by
  unfold leS
  cases h : ltCps b.cps.toList a.cps.toList with
  | false => rfl
  | true => rw [lt_asym _ _ h] <;> rfl
theorem str_ext {a b : Str} (h : a.cps.toList = b.cps.toList) : a = b := by
  cases a
  cases b
  congr 1
  exact Array.toList_inj.mp h
theorem leS_anti {a b : Str} (h : leS a b = true) (k : leS b a = true) : a = b := by
  unfold leS at *
  simp only [Bool.not_eq_true'] at *
  exact str_ext (lt_eq _ _ k h)
def ordS (l : List Str) : Prop := l.Pairwise fun a b => leS a b = true
theorem ord_uniq : ∀ {l m : List Str}, ordS l → ordS m → l.Perm m → l = m
  | [], m, _, _, p => (List.Perm.eq_nil p.symm).symm
  | x :: l, [], _, _, p => by cases p.length_eq
  | x :: l, y :: m, h, k, p => by
    have hx := List.pairwise_cons.mp h
    have ky := List.pairwise_cons.mp k
    have e : x = y := by
      have m1 : x ∈ y :: m := p.mem_iff.mp List.mem_cons_self
      have m2 : y ∈ x :: l := p.mem_iff.mpr List.mem_cons_self
      rcases List.mem_cons.mp m1 with e | m1
      · exact e
      · rcases List.mem_cons.mp m2 with e | m2
        · exact e.symm
        · exact leS_anti (hx.1 y m2) (ky.1 x m1)
    subst e
    rw [ord_uniq hx.2 ky.2 (List.Perm.cons_inv p)]
theorem ord_of_sorted : ∀ {l : List Str}, sortedS l = true → ordS l
  | [], _ => List.Pairwise.nil
  | [x], _ => List.pairwise_singleton _ _
  | x :: y :: l, h => by
    have h1 : (leS x y && risingS y l) = true := h
    rw [Bool.and_eq_true] at h1
    have ih : ordS (y :: l) := ord_of_sorted (l := y :: l) h1.2
    refine List.pairwise_cons.mpr ⟨fun z hz => ?_, ih⟩
    rcases List.mem_cons.mp hz with e | hz
    · rw [e]
      exact h1.1
    · exact leS_trans h1.1 ((List.pairwise_cons.mp ih).1 z hz)
def sortS (l : List Str) : List Str := l.mergeSort leS
theorem sortS_perm (l : List Str) : (sortS l).Perm l := List.mergeSort_perm l leS
theorem sortS_ord (l : List Str) : ordS (sortS l) := List.pairwise_mergeSort (le := leS) (fun a b c h k => leS_trans h k) (fun a b => leS_total a b) l
theorem sortS_uniq {l m : List Str} (p : m.Perm l) (h : sortedS m = true) : m = sortS l := ord_uniq (ord_of_sorted h) (sortS_ord l) (p.trans (sortS_perm l).symm)
/-! ### sorted -/
def keysS : List Key → Option (List Str)
  | [] => some []
  | .inr x :: ks => (match keysS ks with
    | some xs => some (x :: xs)
    | none => none)
  | _ => none
theorem keysS_ok : ∀ {ks : List Key} {xs : List Str}, keysS ks = some xs → ks = xs.map Sum.inr
  | [], xs, h => by
    cases (show some ([] : List Str) = some xs from h)
    rfl
  | .inr x :: ks, xs, h => by
    unfold keysS at h
    split at h
    · rename_i ys hy
      cases h
      rw [keysS_ok hy] <;> rfl
    · cases h
  | .inl i :: ks, xs, h => by cases h
def srt (S : Sto) (x : DV) : Option (List Str) := match asL S x with
  | some ds => (match strsD ds with
    | some xs => if xs.length < 64 then some (sortS xs) else none
    | none => none)
  | none => (match asK S x with
    | some (ks, _) => (match keysS ks with
      | some xs => if xs.length < 64 then some (sortS xs) else none
      | none => none)
    | none => none)
def pSorted : PL := fun xs S => match xs with
  | [x] => (match srt S x with
    | some ys => some (.lst .own (ys.map .str), S)
    | none => none)
  | _ => none
abbrev rSortedAll (K : PySem.W.Frag) : List V → Hp → VK → Prop := fun xs H Q => rSortedS K xs H Q ∨ (∃ (a : Addr) (kvs : List (Key × V)) (ks : List Str), xs = [.ref a] ∧ Rd H a (.dK kvs) ∧ kvs.map (·.1) = ks.map Sum.inr ∧ ks.length < 64 ∧
    ∀ ys p, ys.Perm ks → sortedS ys = true → H p = none → Q (.ref p) (upd H p (.lst (ys.map V.str))))
theorem call_sortedAll {X : Cx} (hc : X.calm = true) : CallR X (.builtin "sorted") (rSortedAll X.K) := cr_sortedS.or (call_sortedD hc)
theorem srt_go {K : PySem.W.Frag} {F : Fm} {S : Sto} {H : Hp} {x : DV} {v : V} {ys : List Str} {Q : VK} (hk : F.K = K) (R : Rep F S H) (rv : Rel F x v) (h : srt S x = some ys)
    (hq : ∀ p, H p = none → Q (.ref p) (upd H p (.lst (ys.map V.str)))) : rSortedAll K [v] H Q := by
  unfold srt at h
  split at h
  · rename_i ds hL
    split at h
    · rename_i xs hx
      obtain ⟨h64, e⟩ := of_ite h
      cases e
      obtain ⟨a, us, rfl, hs, rl⟩ := asL_sq R rv hL
      obtain rfl := strsD_ok rl hx
      rw [hk] at hs
      exact .inl ⟨a, xs, rfl, hs, h64, fun ys p hp ho hn => by
        rw [sortS_uniq hp ho]
        exact hq p hn⟩
    · cases h
  · split at h
    · rename_i ks ds hK
      split at h
      · rename_i xs hx
        obtain ⟨h64, e⟩ := of_ite h
        cases e
        obtain ⟨a, us, rfl, hz, hs, rl⟩ := asK_ok R rv hK
        have e := zip_keys (ks := ks) (us := us) (hz.trans rl.length)
        exact .inr ⟨a, _, xs, rfl, hs, by rw [e, keysS_ok hx], h64, fun ys p hp ho hn => by
          rw [sortS_uniq hp ho]
          exact hq p hn⟩
      · cases h
    · cases h
theorem ok_sorted {K : PySem.W.Frag} : OkL K pSorted (rSortedAll K) := fun F S H xs vs d S' Q hk R r hp hq => by
  unfold pSorted at hp
  split at hp
  · rename_i x
    obtain ⟨v, rfl, rv⟩ := one r
    split at hp
    · rename_i ys hy
      cases hp
      exact srt_go hk R rv hy (new_lst R (strs_rel ys) hq)
    · cases hp
  · cases hp
/-! ### an expression that walks a dict: it is locked meanwhile -/
section
variable {X : Cx} {e : Expr} {f g : DE}
end
/-! ### a statement that walks a dict -/
section
variable {X : Cx} {st : Stmt} {f : DE} {s : DS}
def dLockS (f : DE) (s : DS) : DS := fun ρ S => match f ρ S with
  | some (.loc n, _) => (match S[n]? with
    | some (.dik ks ds) => (match s ρ (S.set n (.lok ks ds)) with
      | some o => unlockO n o
      | none => none)
    | some (.dit ks ds) => (match s ρ (S.set n (.lokt ks ds)) with
      | some o => unlockO n o
      | none => none)
    | _ => none)
  | _ => none
theorem sd_lockS (h : SD X st s) : SD X st (dLockS f s) := .of (ps_lock h.ps) fun F S H ρ σ oo D hk R rr hf hq => by
  have key : ∀ {n : Nat} {c c' : Cell} {o : Out}, lockC c = some c' → S[n]? = some c → s ρ (S.set n c') = some o → unlockO n o = some oo → tLock (rdS X.K s) D σ H := fun {n c c' o} hl hc ho hf => by
    obtain ⟨a, u, ha, e, hu, ga, ba, pa, hm, ht⟩ := R.atL hl hc
    refine ⟨a, u, e, hm, fun od => ?_⟩
    have wk : Wk F { F with P := upd F.P a (.frz od u) } := ⟨rfl, Same.refl _, Same.refl _, List.prefix_refl _⟩
    exact ⟨{ F with P := upd F.P a (.frz od u) }, S.set n c', ρ, o, hk, R.lock hl hc ha e od hu, rr.wk wk, ho, fun F' H' le R' => unlockO_post ba ga pa ht ha hf hq le R'⟩
  unfold dLockS at hf
  split at hf
  · rename_i n S1 h1
    split at hf
    · rename_i ks ds hc
      split at hf
      · rename_i o ho
        exact key rfl hc ho hf
      · cases hf
    · rename_i ks ds hc
      split at hf
      · rename_i o ho
        exact key rfl hc ho hf
      · cases hf
    · cases hf
  · cases hf
end
/-! ### reversed(range(n)), range(i, j, c), text.index(sign) -/
section
variable {X : Cx} {e : Expr} {f g : DE} {fa : DA}
end
end Dn

/-! dicts with keys (number, truth) -/
namespace Dn
open PySem PySem.Spec PyProof.Rows L2

section
variable {P : Program} {w : World} {H : Hp} {h : Heap} {a b : Addr}
end
section
variable {X : Cx}
end

/-! ### over the store -/
section
variable {F : Fm} {S : Sto} {H : Hp}
end
section
variable {X : Cx} {e a b : Expr} {f g : DE} {pos : Pos} {st : Stmt}
end
end Dn

/-! tables of the module with text keys; {(i, b): v} -/
namespace Dn
open PySem PySem.Spec PyProof.Rows L2

/-! ### tables -/
section
variable {X : Cx} {e a b : Expr} {f g : DE} {pos p1 : Pos} {x : Str} {kvs : List (Str × He.Dv)}
end
/-! ### the head, with tables -/
/-! ### {(i, b): v} -/
section
variable {X : Cx} {k v : Expr} {tk tv : TE} {pos : Pos} {f g : DE}
end
end Dn

/-! sorted(set(xs)), len(set(xs)) -/
namespace Dn
open PySem PySem.Spec PyProof.Rows L2

/-! ### a set of numbers and texts whose table can be walked -/
structure KSe (P : Program) (w : World) (L : List (Key × Value)) (es : Array (Int × Value)) (t : SetTable) : Prop where
  perm : es.toList.Perm (L.map fun p => ((mixKind P w).hash p.1, p.2))
  is : ∀ p ∈ L, (mixKind P w).is p.1 p.2 = true ∧ p.2.scannable = true
  nd : (L.map (·.1)).Nodup
  few : L.length < scanBound
  fits : t.fits es.size = true
  ris : Ris t.place.toList
  led : w.params.followText "set-order" = true ∨ t.led = true
def KS (P : Program) (w : World) (h : Heap) (a : Addr) (L : List (Key × Value)) : Prop := ∃ o es ep t, h.get? a = some o ∧ o.ExactSet ∧ o.data = .set es ep t ∧ KSe P w L es t
section
variable {P : Program} {w : World} {L : List (Key × Value)} {es : Array (Int × Value)} {t : SetTable}
theorem KSe.size (K : KSe P w L es t) : es.size = L.length := by
  rw [← Array.length_toList, K.perm.length_eq, List.length_map]
theorem KS.at {h h' : Heap} {a : Addr} (R : KS P w h a L) (k : ∀ o, h.get? a = some o → h'.get? a = some o) : KS P w h' a L := by
  obtain ⟨o, es, ep, t, ho, r⟩ := R
  exact ⟨o, es, ep, t, k o ho, r⟩
end
section
variable {P : Program} {w : World} {A : Around} {E : Value → Shared → Prop} {s : Shared} {a : Addr}
end
end Dn

/-! sorted(set(xs)), len(set(xs)): the calls -/
namespace Dn
open PySem PySem.Spec PyProof.Rows L2
section
variable {P : Program} {w : World} {A : Around} {E : Value → Shared → Prop} {s : Shared}
end
end Dn

/-! sorted(set(xs)), len(set(xs)): the rules -/
namespace Dn
open PySem PySem.Spec PyProof.Rows L2
/-! ### sorted of the set at a -/
section
variable {P : Program} {w : World} {A : Around} {E : Value → Shared → Prop} {s : Shared} {a : Addr} {L : List (Key × Value)}
end
/-! ### the rules -/
section
variable {X : Cx}
end
/-! ### over the store -/
section
variable {X : Cx} {e a : Expr} {f : DE} {p p2 q pos : Pos}
end
end Dn

/-! x in (y, ..), data of any depth -/
namespace Dn
open PySem PySem.Spec PyProof.Rows L2
section
variable {X : Cx} {a b : Expr} {f g : DE} {pos : Pos}
end
end Dn

/-! (x, ..) * k -/
namespace Dn
open PySem PySem.Spec PyProof.Rows L2
section
variable {X : Cx}
end
end Dn

namespace Dn
open PySem PySem.Spec PyProof.Rows L2

/-! ### d.pop(k) -/
section
variable {X : Cx} {e a b o : Expr} {f g : DE} {fa : DA} {pos : Pos} {st : Stmt}
end

/-! ### min(d), its keys numbers -/
end Dn

/-! one step at a time -/
namespace Dn
open PySem PySem.Spec PyProof.Rows L2
section
variable {f g h : DE} {fa : DA} {s t : DS} {p : P2} {ρ ρ' : Ev} {S S1 S2 S3 S' : Sto} {i : Nat} {d x y z x' y' z' : DV} {pl F : PL} {xs ds : List DV} {o : Option Out} {r : Option (DV × Sto)}
theorem seq_nx (h : s ρ S = some (.nx ρ' S')) : dSeq s t ρ S = t ρ' S' := by rw [v_seq, h]
theorem seq_rt (h : s ρ S = some (.rt d S')) : dSeq s t ρ S = some (.rt d S') := by rw [v_seq, h]
theorem ifS_t (h : f ρ S = some (.bl true, S1)) : dIfS f s t ρ S = s ρ S1 := by rw [v_ifS, h]
theorem ifS_f (h : f ρ S = some (.bl false, S1)) : dIfS f s t ρ S = t ρ S1 := by rw [v_ifS, h]
theorem set_of (h : f ρ S = some (d, S1)) : dSet i f ρ S = some (.nx (ρ.set i (some d)) S1) := by rw [v_set, h]
theorem ret_of (h : f ρ S = some (d, S1)) : dRet f ρ S = some (.rt d S1) := by rw [v_ret, h]
theorem expr_of (h : f ρ S = some (d, S1)) : dExpr f ρ S = some (.nx ρ S1) := by rw [v_expr, h]
theorem bin_of (h1 : f ρ S = some (x, S1)) (h2 : g ρ S1 = some (y, S2)) (h3 : p x y S2 = r) : dBin p f g ρ S = r := by
  rw [v_bin, h1]
  simp only [h2, h3]
theorem prim_of (h1 : fa ρ S = some (xs, S1)) (h2 : pl xs S1 = r) : dPrim pl fa ρ S = r := by
  rw [v_prim, h1]
  simp only [h2]
theorem args1 (h1 : f ρ S = some (x, S1)) : aCons f aNil ρ S = some ([x], S1) := by
  rw [v_cons, h1]
  rfl
theorem args2 (h1 : f ρ S = some (x, S1)) (h2 : g ρ S1 = some (y, S2)) : aCons f (aCons g aNil) ρ S = some ([x, y], S2) := by
  rw [v_cons, h1]
  simp only [args1 h2]
theorem args3 (h1 : f ρ S = some (x, S1)) (h2 : g ρ S1 = some (y, S2)) (h3 : h ρ S2 = some (z, S3)) : aCons f (aCons g (aCons h aNil)) ρ S = some ([x, y, z], S3) := by
  rw [v_cons, h1]
  simp only [args2 h2 h3]
theorem argsC {xs : List DV} (h1 : f ρ S = some (x, S1)) (h2 : fa ρ S1 = some (xs, S2)) : aCons f fa ρ S = some (x :: xs, S2) := by
  rw [v_cons, h1]
  simp only [h2]
theorem callP (h1 : fa ρ S = some (xs, S1)) (hc : cpL true S1 xs = some ds) (hp : pureOf F ds = some d) : dPrim (cP (pureOf F) []) fa ρ S = some (d, S1) := by
  rw [v_prim, h1]
  simp only [cP_eq, hc, hp]
theorem callPP (h1 : fa ρ S = some (xs, S1)) (hc : plainL xs = true) (hp : pureOf F xs = some d) : dPrim (cP (pureOf F) []) fa ρ S = some (d, S1) := callP h1 (cpL_plain hc) hp
theorem callS (h1 : fa ρ S = some (xs, S1)) (hp : F xs S1 = r) : dPrim (cS F []) fa ρ S = r := by
  rw [v_prim, h1]
  show F (xs ++ []) S1 = r
  rw [List.append_nil, hp]
theorem and_t (h1 : f ρ S = some (.bl true, S1)) (h2 : g ρ S1 = r) : dAnd f g ρ S = r := by
  rw [v_and, h1]
  simp only [h2]
theorem and_f (h1 : f ρ S = some (.bl false, S1)) : dAnd f g ρ S = some (.bl false, S1) := by rw [v_and, h1]
theorem or_t (h1 : f ρ S = some (.bl true, S1)) : dOr f g ρ S = some (.bl true, S1) := by rw [v_or, h1]
theorem or_f (h1 : f ρ S = some (.bl false, S1)) (h2 : g ρ S1 = r) : dOr f g ρ S = r := by
  rw [v_or, h1]
  simp only [h2]
theorem or_b {a b : Bool} (h1 : f ρ S = some (.bl a, S1)) (h2 : g ρ S1 = some (.bl b, S1)) : dOr f g ρ S = some (.bl (a || b), S1) := by
  cases a with
  | true => exact or_t h1
  | false => exact or_f h1 h2
theorem not_of {a : Bool} (h1 : f ρ S = some (.bl a, S1)) : dNot f ρ S = some (.bl (!a), S1) := by rw [v_not, h1]
theorem for_of {it : DI} {gt : DG} (h1 : it ρ S = some (ds, S1)) (h2 : forL gt s ds ρ S1 = o) : dFor it gt s ρ S = o := by
  rw [v_for, h1]
  simp only [h2]
theorem run_rt {np n : Nat} {b : DS} (hl : xs.length = np) (h1 : b (xs.map some ++ List.replicate (n - xs.length) none) S = some (.rt d S')) : runF np n b xs S = some (d, S') := by
  unfold runF
  rw [if_pos hl, h1]
theorem run_nx {np n : Nat} {b : DS} (hl : xs.length = np) (h1 : b (xs.map some ++ List.replicate (n - xs.length) none) S = some (.nx ρ' S')) : runF np n b xs S = some (.non, S') := by
  unfold runF
  rw [if_pos hl, h1]
theorem sub_of {k : DV} (h1 : f ρ S = some (y, S1)) (h2 : g ρ S1 = some (x, S2)) (h3 : h ρ S2 = some (k, S3)) (h4 : setI x k y S3 = some S') : dSub f g h ρ S = some (.nx ρ S') := by
  unfold dSub
  simp only [h1, h2, h3, h4]
end
end Dn

/-! loops as folds -/
namespace Dn
open PySem PySem.Spec PyProof.Rows L2
theorem for_fold0 {α β : Type} {D : α → DV} {g : DG} {body : DS} {I : Nat → β → Ev → Prop} {st : β → Sto} {f : β → α → β} : ∀ (K : List α) (k : Nat) (b : β) (ρ : Ev), I k b ρ →
    (∀ (i : Nat) (a : α), K[i]? = some a → ∀ b ρ, I (k + i) b ρ → ∃ ρ1 S1 ρ2, g (D a) ρ (st b) = some (ρ1, S1) ∧ (body ρ1 S1 = some (.nx ρ2 (st (f b a))) ∨ body ρ1 S1 = some (.ct ρ2 (st (f b a)))) ∧ I (k + i + 1) (f b a) ρ2) →
    ∃ ρ', forL g body (K.map D) ρ (st b) = some (.nx ρ' (st (K.foldl f b))) ∧ I (k + K.length) (K.foldl f b) ρ'
  | [], k, b, ρ, h, _ => ⟨ρ, rfl, h⟩
  | a :: K, k, b, ρ, h, hs => by
    obtain ⟨ρ1, S1, ρ2, h1, h2, h3⟩ := hs 0 a rfl b ρ h
    obtain ⟨ρ', h4, h5⟩ := for_fold0 (D := D) (g := g) (body := body) (I := I) (st := st) (f := f) K (k + 1) (f b a) ρ2 h3 fun i a' ha b ρ hb => by
      have := hs (i + 1) a' ha b ρ (by rw [show k + (i + 1) = k + 1 + i by omega]; exact hb)
      rw [show k + (i + 1) + 1 = k + 1 + i + 1 by omega] at this
      exact this
    refine ⟨ρ', ?_, by rw [List.length_cons, List.foldl_cons, show k + (K.length + 1) = k + 1 + K.length by omega]; exact h5⟩
    rw [List.map_cons, List.foldl_cons, ← h4]
    conv => lhs; unfold forL
    simp only [h1]
    rcases h2 with h2 | h2 <;> rw [h2]
/-- a loop that keeps a state: I at each turn -/
theorem for_fold {α β : Type} {D : α → DV} {g : DG} {body : DS} {I : Nat → β → Ev → Prop} {st : β → Sto} {f : β → α → β} (K : List α) (b : β) (ρ : Ev) (h : I 0 b ρ)
    (hs : ∀ (i : Nat) (a : α), K[i]? = some a → ∀ b ρ, I i b ρ → ∃ ρ1 S1 ρ2, g (D a) ρ (st b) = some (ρ1, S1) ∧ (body ρ1 S1 = some (.nx ρ2 (st (f b a))) ∨ body ρ1 S1 = some (.ct ρ2 (st (f b a)))) ∧ I (i + 1) (f b a) ρ2) :
    ∃ ρ', forL g body (K.map D) ρ (st b) = some (.nx ρ' (st (K.foldl f b))) ∧ I K.length (K.foldl f b) ρ' := by
  have := for_fold0 (D := D) (g := g) (body := body) (I := I) (st := st) (f := f) K 0 b ρ h fun i a ha b ρ hb => by
    rw [Nat.zero_add] at hb ⊢
    exact hs i a ha b ρ hb
  rwa [Nat.zero_add] at this
/-- a loop that puts behind a list: one thing each turn -/
theorem for_app {α : Type} {D E : α → DV} {g : DG} {body : DS} {I : Ev → Prop} {st : List DV → Sto} (m : Nat) (K : List α) (acc : List DV) (ρ : Ev) (h : I ρ) (hz : acc.length + K.length ≤ m)
    (hs : ∀ a ∈ K, ∀ (b : List DV) ρ, b.length < m → I ρ → ∃ ρ1 S1 ρ2, g (D a) ρ (st b) = some (ρ1, S1) ∧ body ρ1 S1 = some (.nx ρ2 (st (b ++ [E a]))) ∧ I ρ2) :
    ∃ ρ', forL g body (K.map D) ρ (st acc) = some (.nx ρ' (st (acc ++ K.map E))) ∧ I ρ' := by
  obtain ⟨ρ', h1, h2, h3⟩ := for_fold (D := D) (g := g) (body := body) (I := fun i b ρ => b.length = acc.length + i ∧ I ρ) (st := st) (f := fun b a => b ++ [E a]) K acc ρ ⟨rfl, h⟩ fun i a ha b ρ hb => by
    have hi := (List.getElem?_eq_some_iff.mp ha).1
    obtain ⟨ρ1, S1, ρ2, a1, a2, a3⟩ := hs a (List.mem_of_getElem? ha) b ρ (by omega) hb.2
    exact ⟨ρ1, S1, ρ2, a1, .inl a2, by rw [List.length_append, List.length_singleton]; omega, a3⟩
  have e : ∀ (K : List α) (acc : List DV), K.foldl (fun b a => b ++ [E a]) acc = acc ++ K.map E := by
    intro K
    induction K with
    | nil => intro acc; rw [List.map_nil, List.append_nil] <;> rfl
    | cons a K ih => intro acc; rw [List.foldl_cons, ih, List.map_cons, List.append_assoc] <;> rfl
  rw [e] at h1
  exact ⟨ρ', h1, h3⟩
theorem append_of {f e : DE} {ρ : Ev} {S : Sto} {n : Nat} {xs : List DV} {y : DV} (h1 : f ρ S = some (.loc n, S)) (hn : S[n]? = some (.lst xs)) (h2 : e ρ S = some (y, S)) (hz : xs.length < 16777216) :
    dExpr (dMt pAppend f (aCons e aNil)) ρ S = some (.nx ρ (S.set n (.lst (xs ++ [y])))) := by
  rw [v_expr, v_mt, h1]
  simp only [asL_loc hn, args1 h2, app_loc hn hz]
theorem choose_lt {α : Type} {n : Nat} {P : Nat → α → Prop} (d : α) (h : ∀ k, k < n → ∃ x, P k x) : ∃ f : Nat → α, ∀ k, k < n → P k (f k) :=
  ⟨fun k => if hk : k < n then Classical.choose (h k hk) else d, fun k hk => by
    simp only [dif_pos hk]
    exact Classical.choose_spec (h k hk)⟩
theorem choose_all {α β : Type} {P : α → β → Prop} (h : ∀ a, ∃ x, P a x) : ∃ f : α → β, ∀ a, P a (f a) := ⟨fun a => Classical.choose (h a), fun a => Classical.choose_spec (h a)⟩
end Dn

/-! more of loops and lists -/
namespace Dn
open PySem PySem.Spec PyProof.Rows L2
/-- a loop that puts behind a list, where a thing is so -/
theorem for_filt {α : Type} {D E : α → DV} {p : α → Bool} {g : DG} {body : DS} {I : Ev → Prop} {st : List DV → Sto} (m : Nat) (K : List α) (acc : List DV) (ρ : Ev) (h : I ρ) (hz : acc.length + K.length ≤ m)
    (hs : ∀ a ∈ K, ∀ (b : List DV) ρ, b.length < m → I ρ → ∃ ρ1 S1 ρ2, g (D a) ρ (st b) = some (ρ1, S1) ∧ body ρ1 S1 = some (.nx ρ2 (st (if p a = true then b ++ [E a] else b))) ∧ I ρ2) :
    ∃ ρ', forL g body (K.map D) ρ (st acc) = some (.nx ρ' (st (acc ++ (K.filter p).map E))) ∧ I ρ' := by
  obtain ⟨ρ', h1, h2, h3⟩ := for_fold (D := D) (g := g) (body := body) (I := fun i b ρ => b.length ≤ acc.length + i ∧ I ρ) (st := st) (f := fun b a => if p a = true then b ++ [E a] else b) K acc ρ ⟨Nat.le_refl _, h⟩ fun i a ha b ρ hb => by
    have hi := (List.getElem?_eq_some_iff.mp ha).1
    obtain ⟨ρ1, S1, ρ2, a1, a2, a3⟩ := hs a (List.mem_of_getElem? ha) b ρ (by omega) hb.2
    refine ⟨ρ1, S1, ρ2, a1, .inl a2, ?_, a3⟩
    split
    · rw [List.length_append, List.length_singleton]
      omega
    · omega
  have e : ∀ (K : List α) (acc : List DV), K.foldl (fun b a => if p a = true then b ++ [E a] else b) acc = acc ++ (K.filter p).map E := by
    intro K
    induction K with
    | nil => intro acc; rw [List.filter_nil, List.map_nil, List.append_nil] <;> rfl
    | cons a K ih =>
      intro acc
      rw [List.foldl_cons, ih, List.filter_cons]
      by_cases q : p a = true
      · rw [if_pos q, if_pos q, List.map_cons, List.append_assoc]
        rfl
      · rw [if_neg q, if_neg q]
  rw [e] at h1
  exact ⟨ρ', h1, h3⟩
section
variable {f g : DE} {ρ : Ev} {S S1 S2 : Sto}
theorem rgN_of {n : Nat} (h : f ρ S = some (.int (n : Nat), S1)) (hz : n < 1000000) : iRange1 (aCons f aNil) ρ S = some ((List.range n).map fun (i : Nat) => DV.int i, S1) := by
  unfold iRange1
  rw [args1 h]
  simp only
  rw [if_pos (by omega), Int.toNat_natCast]
  unfold rgD
  refine congrArg some (congrArg (·, S1) (List.map_congr_left fun i _ => ?_))
  rw [Int.zero_add]
theorem lenL_of {k : LK} {xs : List DV} (h : f ρ S = some (.lst k xs, S1)) : dPrim pLen (aCons f aNil) ρ S = some (.int (xs.length : Nat), S1) := prim_of (args1 h) (by cases k <;> rfl)
theorem tupL_of {k : LK} {xs : List DV} (h : f ρ S = some (.lst k xs, S1)) : dPrim pTuple (aCons f aNil) ρ S = some (.tup xs, S1) := prim_of (args1 h) (by cases k <;> rfl)
theorem strsD_of : ∀ xs : List Str, strsD (xs.map .str) = some xs
  | [] => rfl
  | x :: xs => by
    show (match strsD (xs.map DV.str) with | some ys => some (x :: ys) | none => none) = _
    rw [strsD_of xs]
theorem sortedL_of {k : LK} {l : List Str} (h : f ρ S = some (.lst k (l.map .str), S1)) (hz : l.length < 64) : dPrim pSorted (aCons f aNil) ρ S = some (.lst .own ((sortS l).map .str), S1) := by
  refine prim_of (args1 h) ?_
  unfold pSorted srt
  simp only [asL_lst, strsD_of, if_pos hz]
theorem iSeqL_of {k : LK} {xs : List DV} (h : f ρ S = some (.lst k xs, S1)) : iSeq f ρ S = some (xs, S1) := by
  rw [iSeq_eq, h]
theorem iSeqT_of {xs : List DV} (h : f ρ S = some (.tup xs, S1)) : iSeq f ρ S = some (xs, S1) := by
  rw [iSeq_eq, h]
/-- a comprehension of all -/
theorem lc_all {α : Type} {D E : α → DV} {g : DG} {c fe : DE} : ∀ {K : List α}, (∀ b ∈ K, ∃ ρ1, g (D b) ρ S = some (ρ1, S) ∧ c ρ1 S = some (.bl true, S) ∧ fe ρ1 S = some (E b, S)) → lcL g c fe ρ (K.map D) S = some (K.map E, S)
  | [], _ => rfl
  | b :: K, h => by
    obtain ⟨ρ1, h1, h2, h3⟩ := h b List.mem_cons_self
    rw [List.map_cons]
    unfold lcL
    simp only [h1, h2, h3, lc_all fun b hb => h b (List.mem_cons_of_mem _ hb)]
    rfl
/-- and of those that are so -/
theorem lc_filt {α : Type} {D E : α → DV} {p : α → Bool} {g : DG} {c fe : DE} : ∀ {K : List α}, (∀ b ∈ K, ∃ ρ1, g (D b) ρ S = some (ρ1, S) ∧ c ρ1 S = some (.bl (p b), S) ∧ (p b = true → fe ρ1 S = some (E b, S))) → lcL g c fe ρ (K.map D) S = some ((K.filter p).map E, S)
  | [], _ => rfl
  | b :: K, h => by
    obtain ⟨ρ1, h1, h2, h3⟩ := h b List.mem_cons_self
    have ih := lc_filt (K := K) fun b hb => h b (List.mem_cons_of_mem _ hb)
    rw [List.map_cons, List.filter_cons]
    unfold lcL
    simp only [h1, h2]
    cases q : p b with
    | true =>
      simp only [h3 q, ih]
      rfl
    | false => simpa using ih
end
end Dn

/-! sorted(..) of numbers -/
namespace Dn
open PySem PySem.Spec PyProof.Rows L2
end Dn

/-! text * number -/
namespace Dn
open PySem PySem.Spec PyProof.Rows L2
section
variable {X : Cx}
end
end Dn

/-! a comprehension over a list that stays -/
namespace Dn
open PySem PySem.Spec PyProof.Rows L2
theorem addI_of {f g : DE} {ρ : Ev} {S S1 S2 : Sto} {a b : Int} (h1 : f ρ S = some (.int a, S1)) (h2 : g ρ S1 = some (.int b, S2)) : dBin pAdd f g ρ S = some (.int (a + b), S2) := bin_of h1 h2 rfl
theorem subI_of {f g : DE} {ρ : Ev} {S S1 S2 : Sto} {a b : Int} (h1 : f ρ S = some (.int a, S1)) (h2 : g ρ S1 = some (.int b, S2)) : dBin pSub f g ρ S = some (.int (a - b), S2) := bin_of h1 h2 rfl
theorem modI_of {f g : DE} {ρ : Ev} {S S1 S2 : Sto} {a b : Int} (h1 : f ρ S = some (.int a, S1)) (h2 : g ρ S1 = some (.int b, S2)) (hb : 0 < b) : dBin pMod f g ρ S = some (.int (a % b), S2) := bin_of h1 h2 (v_modI hb)
end Dn

/-! list(reversed(a list)) -/
namespace RT
open PySem PySem.Spec PyProof.Rows
section
variable {prog : Program} {w : World} {A : Around} {E : Value → Shared → Prop} {s : Shared}
end
section
variable {prog : Program} {w : World} {A : Around} {E : Value → Shared → Prop} {s : Shared}
end
end RT
namespace Dn
open PySem PySem.Spec PyProof.Rows L2 RT
section
variable {X : Cx}
end
end Dn

/-! list(range(i, j)) -/
namespace Dn
open PySem PySem.Spec PyProof.Rows L2
section
variable {X : Cx}
end
end Dn

/-! x in [y, ..], data of any depth -/
namespace Dn
open PySem PySem.Spec PyProof.Rows L2
section
variable {X : Cx} {a b : Expr} {f g : DE} {pos : Pos}
end
end Dn

/-! max(a list of numbers, default=d) -/
namespace Dn
open PySem PySem.Spec PyProof.Rows L2
section
variable {prog : Program} {w : World} {A : Around} {R : Result → Shared → Prop} {I : Addr} {fp wr : List Addr} {G : Array GenState → Array GenState → Prop} {n : Nat} {P : Nat → Value → Prop} {St : Nat → Shared → Prop}
end
section
variable {prog : Program} {w : World} {A : Around} {E : Value → Shared → Prop} {s : Shared} {l : Addr} {its : List Value} {ns : List Int} {Q : Value → Shared → Prop}
end
section
variable {X : Cx}
/-- a denotation that tells nothing is sound of itself (for the bottom of a recursion) -/
theorem SDs.none {st : List Stmt} : SDs X st (fun _ _ => Option.none) := ⟨⟨fun _ _ _ _ _ _ ⟨_, _, _, _, _, _, _, hf, _⟩ => by cases hf⟩⟩
end
end Dn

/-! one of several classes; fields as targets; makers without a def; isinstance of own classes; dict(..) -/
namespace Dn
open PySem PySem.Spec PyProof.Rows L2
def orD (f g : DE) : DE := fun ρ S => match f ρ S with
  | some r => some r
  | none => g ρ S
theorem ed_orD {X : Cx} {e : Expr} {f g : DE} (h : ED X e f) (k : ED X e g) : ED X e (orD f g) :=
  ⟨⟨fun pins s σ H Q I ⟨F, S, ρ, d, S', hk, R, r, hf, hq⟩ => by
    unfold orD at hf
    split at hf
    · rename_i z hz
      rw [hf] at hz
      exact h.pe.run pins s σ H Q I ⟨F, S, ρ, d, S', hk, R, r, hz, hq⟩
    · exact k.pe.run pins s σ H Q I ⟨F, S, ρ, d, S', hk, R, r, hf, hq⟩⟩⟩
@[simp] theorem v_orD {f g : DE} {ρ : Ev} {S : Sto} : orD f g ρ S = (match f ρ S with | some r => some r | none => g ρ S) := (rfl)
theorem orD_l {f g : DE} {ρ : Ev} {S : Sto} {r : DV × Sto} (h : f ρ S = some r) : orD f g ρ S = some r := by
  unfold orD
  rw [h]
theorem orD_r {f g : DE} {ρ : Ev} {S : Sto} (h : f ρ S = none) : orD f g ρ S = g ρ S := by
  unfold orD
  rw [h]
/-- another class: nothing -/
theorem meth_not {C D m : Str} {F : PL} {o : DE} {fa : DA} {ρ : Ev} {S S0 : Sto} {n : Nat} {fs : List (Str × DV)} (hg : o ρ S0 = some (.loc n, S)) (hS : S[n]? = some (.ins D fs)) (hne : D ≠ C) : dMeth C m F [] o fa ρ S0 = none := by
  unfold dMeth
  simp only [hg, insD, hS]
  rw [if_neg fun q => hne q.1]
/-! ### a field as a target -/
def gFldT (K : PySem.W.Frag) (ta : TE) (f : Str) : TG := fun v σ H Q => ta σ H fun x H1 => ∃ a C dx fs, x = .ref a ∧ H1 a = some (.ins C dx fs) ∧ Cls K C ∧ NoAttr K C f ∧ fs.length < 1000 ∧ Q σ (upd H1 a (.ins C dx (putF f v fs)))
theorem pg_fld {X : Cx} {o : Expr} {f : Str} {pos : Pos} {ta : TE} (ha : PE X o ta) : PG X (.Attribute o f pos) (gFldT X.K ta f) := by
  refine ⟨fun pins s σ H v u Q I r h => ?_⟩
  rw [assign_Attribute]
  refine wpAny_bind (wpAny_holding (thn (ha.run pins s σ H _ I h) fun ov s1 ⟨x, H1, I1, rx, a, C, dx, fs, ex, ea, c, n, l, q⟩ => ?_))
  subst ex
  obtain rfl : ov = Value.ref a := rx
  refine wpAny_bind (wpAny_standAt (wpAny_bind (wpAny_holding (setattr_ok I1 ea c n l r fun s2 I2 => ?_))))
  exact wpAny_release ⟨σ, _, I2, q⟩
def gFld (T : ATab) (f : Str) (o : DE) : DG := fun d ρ S => match o ρ S with
  | some (.loc n, S2) => (match insD S2 (.loc n) with
    | some (C, fs) => if T.contains (C, f) = true ∧ fs.length < 1000 then some (ρ, S2.set n (.ins C (putFD f d fs))) else none
    | none => none)
  | _ => none
theorem gd_fld {X : Cx} {o : Expr} {g : DE} {T : ATab} {f : Str} {pos : Pos} (hT : ATOk X.K T) (ho : ED X o g) : GD X (.Attribute o f pos) (gFld T f g) :=
  .of (pg_fld ho.pe) fun F S H ρ σ d v ρ' S' Q hk R rr rv hf hq => by
    unfold gFld at hf
    split at hf
    · rename_i n S2 h2
      split at hf
      · rename_i C fs hi
        obtain ⟨⟨ht, hlen⟩, hf⟩ := of_ite hf
        cases hf
        refine rdE.go hk R rr h2 fun F2 H2 vx le2 hk2 R2 r2 rx => ?_
        obtain ⟨n', a, dx, xs, e0, hc, ha, rfl, e, rl⟩ := insD_ok R2 rx hi
        cases e0
        obtain ⟨c1, c2⟩ := hT C f ht
        obtain ⟨ys, i1, i2⟩ := putF_ok (f := f) (rv.le le2) rl
        have e' := e
        rw [hk2] at e'
        refine ⟨a, _, dx, _, rfl, e', c1, c2, by rw [len_zip rl]; exact hlen, hq F2 _ σ le2 ?_ r2⟩
        rw [i2]
        exact R2.write hc rfl ha (fun _ q => nomatch q) rfl ⟨dx, ys, by rw [upd_same, hk2], i1⟩
      · cases hf
    · cases hf
/-! ### C() without an __init__ -/
structure Mk0 (K : PySem.W.Frag) (C : Addr) : Prop where
  makes : PySem.W.makesIn K C = true
  init : PySem.W.findIn K (.ref C) "__init__" = some (some (.builtin "object.__init__"))
  kp : PySem.W.keepIn K (.ref C) = true
def tMake0 (C : Addr) : TE := fun σ H Q => ∀ x dx, H x = none → H dx = none → dx ≠ x → Q (.ref x) (upd (upd H dx (.own x)) x (.ins C dx []))
theorem pe_makeO {X : Cx} {x : Str} {C : Addr} {p pos : Pos} (M : Mk0 X.K C) (hg : Gl X x) (hm : X.mg x = some (.ref C)) (hdb : (x == ("__debug__" : Str)) = false := by decide) : PE X (.Call (.Name x p) [] [] pos) (tMake0 C) := by
  refine ⟨fun pins s σ H Q I h => ?_⟩
  refine wpAny_Call_Name_kw (ld_glob I hg hm ?_ hdb)
  refine PySem.W.callWith_K0 I.kIn M.kp ?_
  have hq := h (s.heap.objs.size + 1) s.heap.objs.size (I.hok.fresh (Nat.le_succ _)) (I.hok.fresh (Nat.le_refl _)) (Nat.ne_of_lt (Nat.lt_succ_self _))
  have I2 := Inv.made (C := C) I
  have X2 := I2.kIn
  have at1 : ((s.heap.push PySem.W.emptyDict).push (PySem.W.instObj C s.heap.objs.size)).get? (s.heap.objs.size + 1) = some (PySem.W.instObj C s.heap.objs.size) := by
    have := Heap.get?_push_size (s.heap.push PySem.W.emptyDict) (o := PySem.W.instObj C s.heap.objs.size) rfl
    rwa [Heap.size_push] at this
  refine wpAny_call (make_map0 I.kIn M.makes M.init (fun self => PySem.W.Looks.of_pure (PySem.W.oi_bind self)) ?_)
  have t1 : PySem.W.Looks (model X.prog X.w) ((s.heap.push PySem.W.emptyDict).push (PySem.W.instObj C s.heap.objs.size)) (typeOf (.ref (s.heap.objs.size + 1))) (.ref C) := (PySem.W.Looks.ld at1).andThen .now
  have t2 : PySem.W.Looks (model X.prog X.w) ((s.heap.push PySem.W.emptyDict).push (PySem.W.instObj C s.heap.objs.size)) (isInstance (.ref (s.heap.objs.size + 1)) (.type "object")) true := t1.andThen (PySem.W.looks_mroIn X2 (mro_obj M.makes))
  refine codeAny_call_builtin PySem.W.oi_plain PySem.W.entry_oi (@PySem.W.check_slot (model X.prog X.w) _ _ { s with heap := (s.heap.push PySem.W.emptyDict).push (PySem.W.instObj C s.heap.objs.size) } "object.__init__" "object" "__init__" (.ref (s.heap.objs.size + 1)) [] [] _ PySem.W.oi_kind PySem.W.oi_split t2 (PySem.W.oi_args (.ref (s.heap.objs.size + 1))) ?_)
  rw [PySem.W.oi_run]
  exact wpAny_pure (And.intro rfl ⟨V.ref (s.heap.objs.size + 1), _, I2, rfl, hq⟩)
def dMake0 (C : Str) : DE := fun _ S => some (.loc S.length, S ++ [.ins C []])
theorem ed_makeO {X : Cx} {x : Str} {p pos : Pos} (M : Mk0 X.K (He.ga X.K x)) (hg : Gl X x) (hm : X.mg x = some (.ref (He.ga X.K x))) (hdb : (x == ("__debug__" : Str)) = false := by decide) : ED X (.Call (.Name x p) [] [] pos) (dMake0 x) :=
  .of (pe_makeO M hg hm hdb) fun F S H ρ σ d S' Q hk R rr hf hq => by
    cases (show some (DV.loc S.length, S ++ [Cell.ins x []]) = some (d, S') from hf)
    intro y dx hx hdx hne
    have R2 := R.beside (o := .own y) hdx (fun _ q => nomatch q)
    have hx2 : upd H dx (.own y) y = none := by rw [upd_ne fun q => hne q.symm]; exact hx
    have R3 := R2.alloc (o := .ins (He.ga X.K x) dx []) (c := .ins x []) hx2 (fun _ q => nomatch q) ⟨dx, [], by rw [upd_same, show (F.cell y).K = X.K from hk] <;> rfl, rfl⟩
    exact hq _ _ _ (F.cell_le y) R3 ⟨y, by rw [← R.len]; exact get_len _ _, rfl⟩
def mk0B (K : PySem.W.Frag) (x : Str) : Bool := PySem.W.makesIn K (He.ga K x) && (He.eqO (PySem.W.findIn K (.ref (He.ga K x)) "__init__") (some (some (.builtin "object.__init__"))) && PySem.W.keepIn K (.ref (He.ga K x)))
theorem mk0_of {K : PySem.W.Frag} {x : Str} (h : mk0B K x = true) : Mk0 K (He.ga K x) := by
  obtain ⟨h1, h⟩ := He.ba h
  obtain ⟨h2, h3⟩ := He.ba h
  exact ⟨h1, He.eqO_ok h2, h3⟩
/-! ### isinstance(x, C), C a class of the text -/
abbrev ITab := List (Str × Str × Bool)
def isB (K : PySem.W.Frag) (T : ITab) : Bool := decide (PySem.W.specialIn K (.builtin "object.__class__") "__get__" = some (some (.builtin "getset_descriptor.__get__"))) && (decide (PySem.W.takesIn K (.builtin "object.__class__") = some true) &&
  T.all fun t => (He.Fa.cls t.1).ok K && (He.eqO (PySem.W.findIn K (.ref (He.ga K t.1)) "__class__") (some (some (.builtin "object.__class__"))) && (decide (PySem.W.mroIn K (He.ga K t.1) (.type "object") = some true) && decide (PySem.W.kitOne K (.ref (He.ga K t.1)) (.ref (He.ga K t.2.1)) = some t.2.2))))
def dIsC (T : ITab) (C : Str) (o : DE) : DE := fun ρ S => match o ρ S with
  | some (x, S1) => (match insD S1 x with
    | some (D, _) => (match T.find? fun t => t.1 == D && t.2.1 == C with
      | some t => some (.bl t.2.2, S1)
      | none => none)
    | none => none)
  | none => none
theorem ed_isC {X : Cx} {T : ITab} {C : Str} {e1 : Expr} {f : DE} {p1 p2 pos : Pos} (hT : isB X.K T = true) (tb : TB X.mg) (hC : X.mg C = some (.ref (He.ga X.K C))) (hg : Gl X "isinstance") (hg2 : Gl X C) (hx : ED X e1 f) (hd : (C == ("__debug__" : Str)) = false := by decide)
    (h1 : starEach [e1, .Name C p2] X.env = (false, eval e1 X.env) :: starEach [.Name C p2] X.env := by rfl)
    (hpl : (backTo pos (starEach [.Name C p2] X.env)).any (·.1) = false := by rfl) : ED X (.Call (.Name "isinstance" p1) [e1, .Name C p2] [] pos) (dIsC T C f) :=
  .of (pe_callB call_isi hg tb.isinstance boot_isinstance (pa_cons hx.pe (pa_cons (pe_glob (v := .ref (He.ga X.K C)) hg2 hC rfl hd) pa_nil) h1) (he := h1) (hpl := hpl)) fun F S H ρ σ d S' Q hk R rr hf hq => by
    unfold dIsC at hf
    split at hf
    · rename_i x S1 h2
      split at hf
      · rename_i D fs hi
        split at hf
        · rename_i t ht
          cases hf
          obtain ⟨b1, b2⟩ := He.ba hT
          obtain ⟨b2, b3⟩ := He.ba b2
          have hm := List.mem_of_find?_eq_some ht
          have hp := List.find?_some ht
          obtain ⟨p1, p2⟩ := He.ba hp
          obtain ⟨q1, q⟩ := He.ba (List.all_eq_true.mp b3 t hm)
          obtain ⟨q2, q⟩ := He.ba q
          obtain ⟨q3, q4⟩ := He.ba q
          have e1 : t.1 = D := eq_of_beq p1
          have e2 : t.2.1 = C := eq_of_beq p2
          rw [e1] at q1 q2 q3 q4
          rw [e2] at q4
          refine rdE.go hk R rr h2 fun F1 H1 v le hk1 R1 r1 rv => ?_
          obtain ⟨n, a, dx, xs, rfl, hc, ha, rfl, e, rl⟩ := insD_ok R1 rv hi
          rw [hk1] at e
          exact ⟨.ref a, .ref (He.ga X.K C), .ref (He.ga X.K D), .ref (He.ga X.K C), t.2.2, rfl, .own _, .base (.ins e (He.cls_ok q1) (He.eqO_ok q2) (of_decide_eq_true b1) (of_decide_eq_true b2) (of_decide_eq_true q3)), of_decide_eq_true q4, hq F1 H1 _ le R1 rfl⟩
        · cases hf
      · cases hf
    · cases hf
theorem isC_at {T : ITab} {C D : Str} {o : DE} {ρ : Ev} {S S0 : Sto} {n : Nat} {fs : List (Str × DV)} {t : Str × Str × Bool} (hg : o ρ S0 = some (.loc n, S)) (hS : S[n]? = some (.ins D fs)) (ht : (T.find? fun t => t.1 == D && t.2.1 == C) = some t) : dIsC T C o ρ S0 = some (.bl t.2.2, S) := by
  unfold dIsC
  simp only [hg, insD, hS, ht]
/-! ### dict(pairs) -/
end Dn

/-! a part of the store, cell by cell; dicts as lists of pairs -/
namespace Dn
open PySem PySem.Spec PyProof.Rows L2
abbrev Cs := List (Nat × Cell)
structure AtS (S : Sto) (l : Cs) : Prop where
  nd : (l.map (·.1)).Nodup
  get : ∀ p ∈ l, S[p.1]? = some p.2
theorem AtS.at {S : Sto} {l : Cs} (A : AtS S l) (k : Nat) {a : Nat} {c : Cell} (h : l[k]? = some (a, c) := by rfl) : S[a]? = some c := A.get (a, c) (List.mem_of_getElem? h)
theorem AtS.ext {S S' : Sto} {l : Cs} (A : AtS S l) (h : ∀ a ∈ l.map (·.1), S'[a]? = S[a]?) : AtS S' l :=
  ⟨A.nd, fun p hp => by rw [h p.1 (List.mem_map_of_mem hp)]; exact A.get p hp⟩
theorem AtS.lt {S : Sto} {l : Cs} (A : AtS S l) {a : Nat} (h : a ∈ l.map (·.1)) : a < S.length := by
  obtain ⟨p, hp, rfl⟩ := List.mem_map.mp h
  exact (List.getElem?_eq_some_iff.mp (A.get p hp)).1
/-- from a part to a part: what else was there stays -/
structure Stp (S : Sto) (l : Cs) (S' : Sto) (l' : Cs) : Prop where
  at_ : AtS S' l'
  len : S.length ≤ S'.length
  fr : ∀ i, i < S.length → i ∉ l.map (·.1) → S'[i]? = S[i]?
  fp : ∀ a ∈ l'.map (·.1), a ∈ l.map (·.1) ∨ S.length ≤ a
  nl : S.all notLok = true → S'.all notLok = true
theorem Stp.refl {S : Sto} {l : Cs} (A : AtS S l) : Stp S l S l := ⟨A, Nat.le_refl _, fun _ _ _ => rfl, fun _ h => .inl h, fun h => h⟩
theorem Stp.trans {S S1 S2 : Sto} {l l1 l2 : Cs} (a : Stp S l S1 l1) (b : Stp S1 l1 S2 l2) : Stp S l S2 l2 :=
  ⟨b.at_, Nat.le_trans a.len b.len, fun i h hi => (b.fr i (Nat.lt_of_lt_of_le h a.len) fun q => (a.fp i q).elim hi fun z => absurd h (by omega)).trans (a.fr i h hi),
    fun x hx => (b.fp x hx).elim (a.fp x) fun z => .inr (Nat.le_trans a.len z), fun h => b.nl (a.nl h)⟩
theorem map_fst_set {l : Cs} {k a : Nat} {c c' : Cell} (h : l[k]? = some (a, c)) : (l.set k (a, c')).map (·.1) = l.map (·.1) := by
  rw [List.map_set]
  obtain ⟨h1, h2⟩ := List.getElem?_eq_some_iff.mp h
  refine List.ext_getElem? fun i => ?_
  rw [List.getElem?_set]
  split
  · rename_i q
    subst q
    rw [if_pos (by rw [List.length_map]; exact h1), List.getElem?_map, h] <;> rfl
  · rfl
theorem all_set {S : Sto} {a : Nat} {c : Cell} (h : S.all notLok = true) (hc : notLok c = true) : (S.set a c).all notLok = true :=
  List.all_eq_true.mpr fun x hx => (List.mem_or_eq_of_mem_set hx).elim (List.all_eq_true.mp h x) fun e => by rw [e]; exact hc
/-- a cell is written -/
theorem Stp.set {S : Sto} {l : Cs} (A : AtS S l) (k : Nat) {a : Nat} {c : Cell} (c' : Cell) (h : l[k]? = some (a, c) := by rfl) (hc : notLok c' = true := by rfl) : Stp S l (S.set a c') (l.set k (a, c')) := by
  have hl := A.lt (a := a) (List.mem_map.mpr ⟨_, List.mem_of_getElem? h, rfl⟩)
  have hk := (List.getElem?_eq_some_iff.mp h).1
  refine ⟨⟨by rw [map_fst_set h]; exact A.nd, fun p hp => ?_⟩, by rw [List.length_set]; exact Nat.le_refl _, fun i _ hi => ?_, fun x hx => .inl (by rw [map_fst_set h] at hx; exact hx), fun q => all_set q hc⟩
  · obtain ⟨i, hi⟩ := List.getElem?_of_mem hp
    rw [List.getElem?_set] at hi
    split at hi
    · rename_i q
      subst q
      have hi := Option.some.inj hi
      rw [← hi]
      exact List.getElem?_set_self hl
    · rename_i q
      have hne : a ≠ p.1 := fun e => by
        have n := List.pairwise_iff_getElem.mp A.nd
        have i1 := (List.getElem?_eq_some_iff.mp hi).1
        have e1 : (l.map (·.1))[k]? = some a := by rw [List.getElem?_map, h] <;> rfl
        have e2 : (l.map (·.1))[i]? = some p.1 := by rw [List.getElem?_map, hi] <;> rfl
        obtain ⟨g1, g2⟩ := List.getElem?_eq_some_iff.mp e1
        obtain ⟨g3, g4⟩ := List.getElem?_eq_some_iff.mp e2
        rcases Nat.lt_or_gt_of_ne q with z | z
        · exact n k i g1 g3 z (by rw [g2, g4]; exact e)
        · exact n i k g3 g1 z (by rw [g2, g4]; exact e.symm)
      rw [List.getElem?_set_ne hne]
      exact A.get p (List.mem_of_getElem? hi)
  · rw [List.getElem?_set_ne fun e => hi (by rw [← e]; exact List.mem_map.mpr ⟨_, List.mem_of_getElem? h, rfl⟩)]
/-- a new cell in the place of one -/
theorem Stp.new {S : Sto} {l : Cs} (A : AtS S l) (k : Nat) (c : Cell) (hc : notLok c = true := by rfl) : Stp S l (S ++ [c]) (l.set k (S.length, c)) := by
  have old : ∀ {a : Nat}, a ∈ l.map (·.1) → (S ++ [c])[a]? = S[a]? := fun {a} h => List.getElem?_append_left (A.lt h)
  refine ⟨⟨?_, fun p hp => ?_⟩, by rw [List.length_append]; omega, fun i h _ => List.getElem?_append_left h, fun x hx => ?_, fun h => by rw [List.all_append, h]; simp [hc]⟩
  · rw [List.map_set]
    refine List.pairwise_iff_getElem.mpr fun i j hi hj hij => ?_
    rw [List.length_set] at hi hj
    have hi' : i < l.length := by rw [List.length_map] at hi; exact hi
    have hj' : j < l.length := by rw [List.length_map] at hj; exact hj
    have lt : ∀ {i : Nat} (h : i < (l.map (·.1)).length), (l.map (·.1))[i]'h < S.length := fun {i} h => A.lt (List.getElem_mem h)
    rw [List.getElem_set, List.getElem_set]
    split
    · split
      · omega
      · exact Nat.ne_of_gt (lt hj)
    · split
      · exact Nat.ne_of_lt (lt hi)
      · exact List.pairwise_iff_getElem.mp A.nd i j hi hj hij
  · rcases List.mem_or_eq_of_mem_set hp with h | h
    · rw [old (List.mem_map_of_mem h)]
      exact A.get p h
    · rw [h]
      rw [List.getElem?_append_right (Nat.le_refl _), Nat.sub_self]
      rfl
  · obtain ⟨p, hp, rfl⟩ := List.mem_map.mp hx
    rcases List.mem_or_eq_of_mem_set hp with h | h
    · exact .inl (List.mem_map_of_mem h)
    · rw [h]
      exact .inr (Nat.le_refl _)
/-- .. behind the others -/
theorem Stp.more {S : Sto} {l : Cs} (A : AtS S l) (c : Cell) (hc : notLok c = true := by rfl) : Stp S l (S ++ [c]) (l ++ [(S.length, c)]) := by
  refine ⟨⟨?_, fun p hp => ?_⟩, by rw [List.length_append]; omega, fun i h _ => List.getElem?_append_left h, fun x hx => ?_, fun h => by rw [List.all_append, h]; simp [hc]⟩
  · rw [List.map_append]
    refine List.nodup_append.mpr ⟨A.nd, List.nodup_cons.mpr ⟨List.not_mem_nil, List.nodup_nil⟩, fun a ha b hb e => ?_⟩
    have := A.lt ha
    rw [List.mem_singleton.mp hb] at e
    have e : a = S.length := e
    omega
  · rcases List.mem_append.mp hp with h | h
    · rw [List.getElem?_append_left (A.lt (List.mem_map_of_mem h))]
      exact A.get p h
    · rw [List.mem_singleton.mp h]
      rw [List.getElem?_append_right (Nat.le_refl _), Nat.sub_self]
      rfl
  · rw [List.map_append] at hx
    rcases List.mem_append.mp hx with h | h
    · exact .inl h
    · rw [List.mem_singleton.mp h]
      exact .inr (Nat.le_refl _)
theorem Stp.junk {S : Sto} {l : Cs} (A : AtS S l) {T : Sto} (hT : T.all notLok = true) : Stp S l (S ++ T) l :=
  ⟨A.ext fun a ha => List.getElem?_append_left (A.lt ha), by rw [List.length_append]; omega, fun i h _ => List.getElem?_append_left h, fun _ h => .inl h, fun h => by rw [List.all_append, h, hT] <;> rfl⟩
theorem AtS.ne {S : Sto} {l : Cs} (A : AtS S l) (i j : Nat) {a b : Nat} {c d : Cell} (hi : l[i]? = some (a, c) := by rfl) (hj : l[j]? = some (b, d) := by rfl) (h : i ≠ j := by decide) : a ≠ b := fun e => by
  have e1 : (l.map (·.1))[i]? = some a := by rw [List.getElem?_map, hi] <;> rfl
  have e2 : (l.map (·.1))[j]? = some b := by rw [List.getElem?_map, hj] <;> rfl
  obtain ⟨g1, g2⟩ := List.getElem?_eq_some_iff.mp e1
  obtain ⟨g3, g4⟩ := List.getElem?_eq_some_iff.mp e2
  rcases Nat.lt_or_gt_of_ne h with z | z
  · exact List.pairwise_iff_getElem.mp A.nd i j g1 g3 z (by rw [g2, g4]; exact e)
  · exact List.pairwise_iff_getElem.mp A.nd j i g3 g1 z (by rw [g2, g4]; exact e.symm)
/-- others' cells -/
theorem Stp.other {S S' : Sto} {l l' m : Cs} (T : Stp S l S' l') (B : AtS S m) (h : ∀ a ∈ m.map (·.1), a ∉ l.map (·.1)) : AtS S' m := B.ext fun a ha => T.fr a (B.lt ha) (h a ha)
theorem Stp.apart {S S' : Sto} {l l' m : Cs} (T : Stp S l S' l') (B : AtS S m) (h : ∀ a ∈ m.map (·.1), a ∉ l.map (·.1)) : ∀ a ∈ m.map (·.1), a ∉ l'.map (·.1) := fun a ha q =>
  (T.fp a q).elim (h a ha) fun z => absurd (B.lt ha) (by omega)
theorem Stp.of_eq {S S' : Sto} {l l' m : Cs} (T : Stp S l S' l') (h : l' = m) : Stp S l S' m := by rw [← h]; exact T
/-- what lies beside stays too -/
theorem Stp.sub {S S' : Sto} {l l' m : Cs} (T : Stp S l S' l') (A : AtS S (l ++ m)) : Stp S (l ++ m) S' (l' ++ m) := by
  have nd := A.nd
  rw [List.map_append] at nd
  obtain ⟨n1, n2, n3⟩ := List.nodup_append.mp nd
  have B : AtS S m := ⟨n2, fun p hp => A.get p (List.mem_append_right _ hp)⟩
  have ap : ∀ a ∈ m.map (·.1), a ∉ l.map (·.1) := fun a ha q => n3 a q a ha rfl
  have B' := T.other B ap
  refine ⟨⟨?_, fun p hp => ?_⟩, T.len, fun i h hi => T.fr i h fun q => hi (by rw [List.map_append]; exact List.mem_append_left _ q), fun a ha => ?_, T.nl⟩
  · rw [List.map_append]
    exact List.nodup_append.mpr ⟨T.at_.nd, n2, fun a ha b hb e => T.apart B ap b hb (by rw [← e]; exact ha)⟩
  · rcases List.mem_append.mp hp with h | h
    · exact T.at_.get p h
    · exact B'.get p h
  · rw [List.map_append] at ha ⊢
    rcases List.mem_append.mp ha with h | h
    · exact (T.fp a h).imp (List.mem_append_left _) id
    · exact .inl (List.mem_append_right _ h)
theorem Stp.beside {S S' : Sto} {m l' : Cs} (T : Stp S [] S' l') (A : AtS S m) : Stp S m S' (m ++ l') := by
  have A' : AtS S ([] ++ m) := A
  have T' := T.sub A'
  have B := T'.at_
  refine ⟨⟨?_, fun p hp => B.get p (List.mem_append.mpr (List.mem_append.mp hp).symm)⟩, T.len, fun i h hi => T.fr i h (fun q => by cases q), fun x hx => ?_, T.nl⟩
  · have := B.nd
    rw [List.map_append] at this ⊢
    obtain ⟨n1, n2, n3⟩ := List.nodup_append.mp this
    exact List.nodup_append.mpr ⟨n2, n1, fun a ha b hb e => n3 b hb a ha e.symm⟩
  · rw [List.map_append] at hx
    rcases List.mem_append.mp hx with h | h
    · exact .inl h
    · rcases T.fp x h with q | q
      · cases q
      · exact .inr q
/-! ### dicts as lists of pairs -/
section
variable {κ κ' α β : Type} [DecidableEq κ] [DecidableEq κ']
def agt : List (κ × α) → κ → Option α
  | [], _ => none
  | p :: l, k => if p.1 = k then some p.2 else agt l k
def ahas (l : List (κ × α)) (k : κ) : Bool := l.any fun p => decide (p.1 = k)
def apt (l : List (κ × α)) (k : κ) (v : α) : List (κ × α) := if ahas l k = true then l.map fun p => if p.1 = k then (p.1, v) else p else l ++ [(k, v)]
theorem agt_cons {p : κ × α} {l : List (κ × α)} {k : κ} : agt (p :: l) k = if p.1 = k then some p.2 else agt l k := rfl
theorem ahas_cons {p : κ × α} {l : List (κ × α)} {k : κ} : ahas (p :: l) k = (decide (p.1 = k) || ahas l k) := rfl
theorem agt_none {l : List (κ × α)} {k : κ} : agt l k = none ↔ ahas l k = false := by
  induction l with
  | nil => simp [agt, ahas]
  | cons p l ih =>
    rw [agt_cons, ahas_cons]
    by_cases q : p.1 = k
    · simp [q]
    · rw [if_neg q, ih]
      simp [q]
theorem agt_app {l m : List (κ × α)} {k : κ} : agt (l ++ m) k = (agt l k).or (agt m k) := by
  induction l with
  | nil => simp [agt]
  | cons p l ih =>
    rw [List.cons_append, agt_cons, agt_cons]
    by_cases q : p.1 = k
    · simp [q]
    · rw [if_neg q, if_neg q, ih]
theorem agt_apt {l : List (κ × α)} {k k' : κ} {v : α} : agt (apt l k v) k' = if k = k' then some v else agt l k' := by
  unfold apt
  by_cases q : ahas l k = true
  · rw [if_pos q]
    have key : ∀ l : List (κ × α), agt (l.map fun p => if p.1 = k then (p.1, v) else p) k' = if k = k' then (if ahas l k = true then some v else none) else agt l k' := fun l => by
      induction l with
      | nil => simp [agt, ahas]
      | cons p l ih =>
        rw [List.map_cons, agt_cons, agt_cons, ahas_cons, ih]
        by_cases z : p.1 = k
        · by_cases z2 : k = k'
          · simp [z, z2]
          · have : ¬ p.1 = k' := fun e => z2 (z.symm.trans e)
            rw [if_pos z]
            simp [z2, this]
        · rw [if_neg z]
          by_cases z2 : k = k'
          · subst z2
            simp [z]
          · simp [z2]
    rw [key l, q]
    simp
  · rw [if_neg q, agt_app]
    by_cases z : k = k'
    · subst z
      rw [if_pos rfl, agt_none.mpr (Bool.eq_false_iff.mpr q)]
      simp [agt]
    · rw [if_neg z]
      simp [agt, z]
theorem apt_len {l : List (κ × α)} {k : κ} {v : α} : (apt l k v).length ≤ l.length + 1 := by
  unfold apt
  split
  · rw [List.length_map]
    omega
  · rw [List.length_append] <;> simp
theorem apt_keys {l : List (κ × α)} {k : κ} {v : α} (h : ahas l k = true) : (apt l k v).map (·.1) = l.map (·.1) := by
  unfold apt
  rw [if_pos h, List.map_map]
  refine List.map_congr_left fun p _ => ?_
  show (if p.1 = k then (p.1, v) else p).1 = p.1
  split <;> rfl
theorem ahas_of {l : List (κ × α)} {k : κ} (h : k ∈ l.map (·.1)) : ahas l k = true := by
  obtain ⟨p, hp, rfl⟩ := List.mem_map.mp h
  exact List.any_eq_true.mpr ⟨p, hp, decide_eq_true rfl⟩
theorem ahas_iff {l : List (κ × α)} {k : κ} : ahas l k = true ↔ k ∈ l.map (·.1) := by
  refine ⟨fun h => ?_, ahas_of⟩
  obtain ⟨p, hp, e⟩ := List.any_eq_true.mp h
  exact List.mem_map.mpr ⟨p, hp, of_decide_eq_true e⟩
theorem apt_mem {P : κ × α → Prop} {l : List (κ × α)} {k : κ} {v : α} (h : ∀ p ∈ l, P p) (hv : P (k, v)) : ∀ p ∈ apt l k v, P p := by
  intro p hp
  unfold apt at hp
  split at hp
  · obtain ⟨q, hq, rfl⟩ := List.mem_map.mp hp
    split
    · rename_i e
      rw [e]
      exact hv
    · exact h q hq
  · rcases List.mem_append.mp hp with e | e
    · exact h p e
    · rw [List.mem_singleton.mp e]
      exact hv
theorem agt_mem {l : List (κ × α)} {k : κ} {v : α} (h : agt l k = some v) : (k, v) ∈ l := by
  induction l with
  | nil => cases h
  | cons p l ih =>
    unfold agt at h
    split at h
    · rename_i e
      cases h
      rw [← e]
      exact List.mem_cons_self
    · exact List.mem_cons_of_mem _ (ih h)
theorem apt_nd {l : List (κ × α)} {k : κ} {v : α} (h : (l.map (·.1)).Nodup) : ((apt l k v).map (·.1)).Nodup := by
  by_cases q : ahas l k = true
  · rw [apt_keys q]
    exact h
  · unfold apt
    rw [if_neg q, List.map_append]
    refine List.nodup_append.mpr ⟨h, List.nodup_cons.mpr ⟨List.not_mem_nil, List.nodup_nil⟩, fun a ha b hb e => ?_⟩
    rw [List.mem_singleton.mp hb] at e
    have e : a = k := e
    rw [e] at ha
    exact q (ahas_of ha)
variable {e : κ → κ'} {f : α → DV}
theorem has_al (he : ∀ a b, e a = e b → a = b) {l : List (κ × α)} {k : κ} : hasK (l.map fun p => e p.1) (e k) = ahas l k := by
  induction l with
  | nil => rfl
  | cons p l ih =>
    unfold hasK ahas at *
    rw [List.map_cons, List.any_cons, List.any_cons, ih]
    congr 1
    exact decide_eq_decide.mpr ⟨he _ _, fun h => by rw [h]⟩
theorem putKs_al (he : ∀ a b, e a = e b → a = b) {l : List (κ × α)} {k : κ} {v : α} : putKs (l.map fun p => e p.1) (e k) = (apt l k v).map fun p => e p.1 := by
  unfold putKs
  rw [has_al he]
  by_cases q : ahas l k = true
  · rw [if_pos q]
    have := congrArg (List.map e) (apt_keys (v := v) q)
    rw [List.map_map, List.map_map] at this
    exact this.symm
  · rw [if_neg q]
    unfold apt
    rw [if_neg q, List.map_append]
    rfl
theorem putVs_al (he : ∀ a b, e a = e b → a = b) {l : List (κ × α)} {k : κ} {v : α} : putVs (l.map fun p => e p.1) (l.map fun p => f p.2) (e k) (f v) = (apt l k v).map fun p => f p.2 := by
  unfold putVs
  rw [has_al he]
  unfold apt
  by_cases q : ahas l k = true
  · rw [if_pos q, if_pos q, List.map_map]
    clear q
    induction l with
    | nil => rfl
    | cons p l ih =>
      rw [List.map_cons, List.map_cons, List.map_cons]
      unfold rpG
      rw [ih]
      congr 1
      by_cases z : p.1 = k
      · rw [if_pos (by rw [z])]
        show _ = f (if p.1 = k then (p.1, v) else p).2
        rw [if_pos z]
      · rw [if_neg fun h => z (he _ _ h)]
        show _ = f (if p.1 = k then (p.1, v) else p).2
        rw [if_neg z]
  · rw [if_neg q, if_neg q, List.map_append]
    rfl
theorem lkD_al (he : ∀ a b, e a = e b → a = b) {l : List (κ × α)} {k : κ} : lkD (l.map fun p => e p.1) (l.map fun p => f p.2) (e k) = (agt l k).map f := by
  induction l with
  | nil => rfl
  | cons p l ih =>
    rw [List.map_cons, List.map_cons]
    unfold lkD agt
    by_cases z : p.1 = k
    · rw [if_pos (by rw [z]), if_pos z] <;> rfl
    · rw [if_neg fun h => z (he _ _ h), if_neg z]
      exact ih
end
abbrev Pl := Str × Nat
abbrev kS (x : Str) : Key := .inr x
abbrev kN (n : Nat) : Key := .inl (n : Int)
abbrev kP (p : Pl) : List Key := [.inr p.1, .inl (p.2 : Int)]
theorem kS_inj (a b : Str) (h : kS a = kS b) : a = b := Sum.inr.inj h
theorem kN_inj (a b : Nat) (h : kN a = kN b) : a = b := by
  have := Sum.inl.inj h
  omega
theorem kP_inj (a b : Pl) (h : kP a = kP b) : a = b := by
  obtain ⟨a1, a2⟩ := a
  obtain ⟨b1, b2⟩ := b
  have h1 := List.cons.inj h
  have h2 := Sum.inr.inj h1.1
  have h3 := Sum.inl.inj (List.cons.inj h1.2).1
  have h2 : a1 = b1 := h2
  have h3 : (a2 : Int) = (b2 : Int) := h3
  rw [h2, show a2 = b2 by omega]
def dkS {α : Type} (f : α → DV) (l : List (Str × α)) : Cell := .dik (l.map fun p => kS p.1) (l.map fun p => f p.2)
def dkN {α : Type} (f : α → DV) (l : List (Nat × α)) : Cell := .dik (l.map fun p => kN p.1) (l.map fun p => f p.2)
def dkP {α : Type} (f : α → DV) (l : List (Pl × α)) : Cell := .dit (l.map fun p => kP p.1) (l.map fun p => f p.2)
abbrev plD (p : Pl) : DV := .tup [.str p.1, .int (p.2 : Nat)]
section
variable {α : Type} {f : α → DV} {S : Sto} {n : Nat}
theorem setI_S {l : List (Str × α)} {x : Str} {v : α} (h : S[n]? = some (dkS f l)) (hz : l.length < 16777216) : setI (.loc n) (.str x) (f v) S = some (S.set n (dkS f (apt l x v))) := by
  rw [setI_dik h (by rw [List.length_map]; exact hz)]
  unfold dkS
  rw [← putKs_al (v := v) kS_inj, ← putVs_al (f := f) kS_inj]
theorem setI_N {l : List (Nat × α)} {x : Nat} {v : α} (h : S[n]? = some (dkN f l)) (hz : l.length < 16777216) : setI (.loc n) (.int (x : Nat)) (f v) S = some (S.set n (dkN f (apt l x v))) := by
  have e : setI (.loc n) (.int (x : Nat)) (f v) S = some (S.set n (.dik (putKs (l.map fun p => kN p.1) (kN x)) (putVs (l.map fun p => kN p.1) (l.map fun p => f p.2) (kN x) (f v)))) := by
    unfold setI
    simp only [h, dkN, keyD]
    rw [if_pos (by rw [List.length_map, size_eq]; exact hz)]
  rw [e]
  unfold dkN
  rw [← putKs_al (v := v) kN_inj, ← putVs_al (f := f) kN_inj]
theorem setI_P {l : List (Pl × α)} {x : Pl} {v : α} (h : S[n]? = some (dkP f l)) (hz : l.length < 16777216) : setI (.loc n) (plD x) (f v) S = some (S.set n (dkP f (apt l x v))) := by
  have e : setI (.loc n) (plD x) (f v) S = some (S.set n (.dit (putKs (l.map fun p => kP p.1) (kP x)) (putVs (l.map fun p => kP p.1) (l.map fun p => f p.2) (kP x) (f v)))) := by
    unfold setI
    simp only [h, dkP, keyT, keysD, keyD]
    rw [if_pos (by rw [List.length_map, size_eq]; exact hz)]
  rw [e]
  unfold dkP
  rw [← putKs_al (v := v) kP_inj, ← putVs_al (f := f) kP_inj]
theorem getD_S {l : List (Str × α)} {x : Str} (h : S[n]? = some (dkS f l)) : getD S (.loc n) (.str x) = some ((agt l x).map f) := by
  rw [getD_dik h]
  exact congrArg some (lkD_al kS_inj)
theorem getD_N {l : List (Nat × α)} {x : Nat} (h : S[n]? = some (dkN f l)) : getD S (.loc n) (.int (x : Nat)) = some ((agt l x).map f) := by
  have e : getD S (.loc n) (.int (x : Nat)) = some (lkD (l.map fun p => kN p.1) (l.map fun p => f p.2) (kN x)) := by
    unfold getD asK keyD
    simp only [h, dkN]
  rw [e]
  exact congrArg some (lkD_al kN_inj)
theorem getD_P {l : List (Pl × α)} {x : Pl} (h : S[n]? = some (dkP f l)) : getD S (.loc n) (plD x) = some ((agt l x).map f) := by
  have e : getD S (.loc n) (plD x) = some (lkD (l.map fun p => kP p.1) (l.map fun p => f p.2) (kP x)) := by
    unfold getD asK asKT keyD keyT keysD
    simp only [h, dkP, keyD, keysD]
  rw [e]
  exact congrArg some (lkD_al kP_inj)
theorem getD_PL {l : List (Pl × α)} {x : Pl} (h : S[n]? = some (.lokt (l.map fun p => kP p.1) (l.map fun p => f p.2))) : getD S (.loc n) (plD x) = some ((agt l x).map f) := by
  have e : getD S (.loc n) (plD x) = some (lkD (l.map fun p => kP p.1) (l.map fun p => f p.2) (kP x)) := by
    unfold getD asK asKT keyD keyT keysD
    simp only [h, keyD, keysD]
  rw [e]
  exact congrArg some (lkD_al kP_inj)
theorem asL_ndik {ks : List Key} {vs : List DV} (h : S[n]? = some (.dik ks vs)) : asL S (.loc n) = none := by
  unfold asL
  simp only [h]
theorem asL_ndit {ks : List (List Key)} {vs : List DV} (h : S[n]? = some (.dit ks vs)) : asL S (.loc n) = none := by
  unfold asL
  simp only [h]
theorem asL_nlokt {ks : List (List Key)} {vs : List DV} (h : S[n]? = some (.lokt ks vs)) : asL S (.loc n) = none := by
  unfold asL
  simp only [h]
theorem ix_of {k d : DV} (h1 : asL S (.loc n) = none) (h : getD S (.loc n) k = some (some d)) : pIx (.loc n) k S = some (d, S) := by
  cases k <;> (unfold pIx; simp only [h1, h])
theorem in_of {k : DV} {o : Option DV} {neg : Bool} (h1 : asL S (.loc n) = none) (h : getD S (.loc n) k = some o) : pIn neg k (.loc n) S = some (.bl (if neg then !o.isSome else o.isSome), S) := by
  show (match asL S (.loc n) with | some ds => _ | none => (match getD S (.loc n) k with | some o => some (DV.bl (if neg then !o.isSome else o.isSome), S) | none => none)) = _
  rw [h1]
  simp only [h]
end
end Dn

/-! the house in plain Lean -/
namespace Dn
open PySem PySem.Spec PyProof.Rows L2
abbrev Thing := Str × Int × Bool
abbrev thD (c : Thing) : DV := .tup [.str c.1, .int c.2.1, .bl c.2.2]
structure Hst where
  rows : List PRow
  cells : List Thing
  shelves : List Thing
  keeps : List (Nat × List Str)
  beg : List Str
  coming : List Int
structure Pg where
  row : Nat
  done : Nat
  hears : Nat
  says : Nat
  held : List (Str × Int)
  turned : List (Pl × Int)
inductive Dd where
  | page (r : Nat) | box (x : Str) (v : Int) | turn (p : Pl) (v : Int) | face | home (p : Pl) (v : Int)
inductive Ph where
  | up (k : Nat) | go (r : Nat) | keep (r : Nat) (l : List Dd) (k : Nat) | rest
structure Hs where
  dust : Int
  held : List (Str × Int)
  log : List (Pl × Int)
  done : Nat
  hears : Nat
  says : Nat
  ph : Ph
  home : List (Pl × Int)
  p0 : Pg
  p1 : Pg
  front : Bool
  fin : Option Int
  bn : List (Nat × Int)
  rent : Bool
def Hst.twL (Z : Hst) : List (Str × Bool) := Z.shelves.foldl (fun l c => apt l c.1 c.2.2) (Z.cells.foldl (fun l c => apt l c.1 c.2.2) [])
def Hst.szL (Z : Hst) : List (Str × Int) := Z.shelves.foldl (fun l c => apt l c.1 c.2.1) []
def shelfL (l : List (Pl × Int)) (c : Thing) : List (Pl × Int) := (List.range c.2.1.toNat).foldl (fun l k => apt l (c.1, k) 0) l
def Hst.homeL (Z : Hst) : List (Pl × Int) := Z.shelves.foldl shelfL (Z.cells.foldl (fun l c => apt l (c.1, 0) c.2.1) [])
def Hst.homeK (Z : Hst) : List Pl := Z.homeL.map (·.1)
def Hst.keepsL (Z : Hst) : List (Nat × List Str) := Z.keeps.foldl (fun l k => apt l k.1 k.2) []
def Hst.twin (Z : Hst) (n : Str) : Bool := (agt Z.twL n).getD false
def Hst.size (Z : Hst) (n : Str) : Int := (agt Z.szL n).getD 1
def Hs.worth (h : Hs) : Atm → Int
  | .n i => i
  | .x s => (agt h.held s).getD h.dust
def Hs.place (Z : Hst) (h : Hs) (n : Str) (a : Atm) : Nat := (h.worth a % Z.size n).toNat
def Hs.homeV (h : Hs) (p : Pl) : Int := (agt h.home p).getD 0
def Hs.seen (Z : Hst) (h : Hs) (p : Pl) : Int := if Z.twin p.1 = true then (agt h.log p).getD (h.homeV p) else h.homeV p
def Hs.written (Z : Hst) (h : Hs) (p : Pl) (v : Int) : Hs := if Z.twin p.1 = true then { h with log := apt h.log p v } else { h with home := apt h.home p v }
def Hs.out (h : Hs) (x : Str) (v : Int) : Hs := { h with held := apt h.held x v }
def Hs.say (h : Hs) (v : Int) : Hs := match agt h.bn h.says with
  | none => { h with bn := apt h.bn h.says v, says := h.says + 1 }
  | some u => { h with rent := h.rent || !decide (u = v), says := h.says + 1 }
def Hs.row (Z : Hst) (h : Hs) : PRow → Hs
  | .say a => h.say (h.worth a)
  | .copy x a => h.out x (h.worth a)
  | .op x s a b => h.out x (valS s (h.worth a) (h.worth b))
  | .load x c => h.out x (h.seen Z (c, 0))
  | .store c a => h.written Z (c, 0) (h.worth a)
  | .take x s a => h.out x (h.seen Z (s, h.place Z s a))
  | .lay s a b => h.written Z (s, h.place Z s a) (h.worth b)
  | .hear x => { h.out x (Z.coming.getD h.hears 0) with hears := h.hears + 1 }
  | .ifr _ _ => h
  | .go _ => h
  | .endr a => { h with fin := some (h.worth a) }
def Hs.next (h : Hs) (i : Nat) : PRow → Nat
  | .ifr a n => if h.worth a = 0 then i + 1 else n
  | .go n => n
  | _ => i + 1
def Hs.page (h : Hs) (b : Bool) : Pg := if b = true then h.p1 else h.p0
def Hs.back (h : Hs) : Pg := h.page (!h.front)
def Hs.setBack (h : Hs) (p : Pg) : Hs := if h.front = true then { h with p0 := p } else { h with p1 := p }
def Hs.deed (h : Hs) : Dd → Hs
  | .page r => h.setBack ⟨r, h.done, h.hears, h.says, [], []⟩
  | .box x v => h.setBack { h.back with held := h.back.held ++ [(x, v)] }
  | .turn p v => h.setBack { h.back with turned := h.back.turned ++ [(p, v)] }
  | .face => { h with front := !h.front }
  | .home p v => { h with home := apt h.home p v }
def Hs.small (h : Hs) (r : Nat) (bs : List Str) : List Dd := Dd.page r :: (bs.map fun x => Dd.box x (h.worth (.x x))) ++ (h.log.map fun p => Dd.turn p.1 p.2) ++ [Dd.face] ++ h.log.map fun p => Dd.home p.1 p.2
def dictL (l : List (Str × Int)) : List (Str × Int) := l.foldl (fun l q => apt l q.1 q.2) []
def Hs.comeUp (h : Hs) (p : Pg) : Hs := { h with held := dictL p.held, done := p.done, hears := p.hears, says := p.says }
def isEnd : PRow → Bool
  | .endr _ => true
  | _ => false
/-- behind a row -/
def Hs.come (Z : Hst) (h : Hs) (t : Nat) : Hs := match agt Z.keepsL t with
  | none => { h with ph := .go t }
  | some bs => { h with ph := .keep t (h.small t bs) 0 }
def Hs.step (Z : Hst) (h : Hs) : Hs := match h.ph with
  | .rest => h
  | .up k => (match (h.page h.front).turned[k]? with
    | some q => { h with home := apt h.home q.1 q.2, ph := .up (k + 1) }
    | none => { h.comeUp (h.page h.front) with ph := .go (h.page h.front).row })
  | .go i => (match Z.rows[i]? with
    | none => h
    | some r => if isEnd r = true then { Hs.row Z { h with done := h.done + 1 } r with ph := .rest } else (Hs.row Z { h with done := h.done + 1 } r).come Z (h.next i r))
  | .keep r l k => (match l[k]? with
    | none => h
    | some d => if k + 1 < l.length then { h.deed d with ph := .keep r l (k + 1) } else { h.deed d with log := [], ph := .go r })
def Hs.lose (h : Hs) (d : Int) : Hs := { h with dust := d, held := [], log := [], done := 0, hears := 0, says := 0, ph := .up 0 }
def Ph.isRest : Ph → Bool
  | .rest => true
  | _ => false
def Hs.fail (h : Hs) (d : Int) : Hs := if h.ph.isRest = true then h else h.lose d
def pg0 (b : List Str) : Pg := ⟨0, 0, 0, 0, b.map fun x => (x, 0), []⟩
def Hst.init (Z : Hst) : Hs := ⟨0, [], [], 0, 0, 0, .up 0, Z.homeL, pg0 Z.beg, pg0 [], false, none, [], false⟩
/-! ### what is in order -/
def Hst.IsP (Z : Hst) (p : Pl) : Prop := p ∈ Z.homeK
structure Hst.CellOk (Z : Hst) (c : Str) : Prop where
  tw : ahas Z.twL c = true
  pl : Z.IsP (c, 0)
structure Hst.ShelfOk (Z : Hst) (s : Str) : Prop where
  tw : ahas Z.twL s = true
  sz : agt Z.szL s = some (Z.size s)
  z0 : 0 < Z.size s
  z1 : Z.size s ≤ 1000
  pl : ∀ k : Nat, (k : Int) < Z.size s → Z.IsP (s, k)
def Hst.RowOk (Z : Hst) : PRow → Prop
  | .say a => a.Ok
  | .copy _ a => a.Ok
  | .op _ s a b => isSign s ∧ a.Ok ∧ b.Ok
  | .load _ c => Z.CellOk c
  | .store c a => Z.CellOk c ∧ a.Ok
  | .take _ s a => Z.ShelfOk s ∧ a.Ok
  | .lay s a b => Z.ShelfOk s ∧ a.Ok ∧ b.Ok
  | .hear _ => True
  | .ifr a _ => a.Ok
  | .go _ => True
  | .endr a => a.Ok
structure Hst.Ok (Z : Hst) : Prop where
  r : ∀ r ∈ Z.rows, Z.RowOk r
  led : ∀ (i : Nat) (r : PRow), Z.rows[i]? = some r → ∀ t ∈ r.led i, t < Z.rows.length
  n0 : 0 < Z.rows.length
  n1 : Z.rows.length ≤ 1000
  co : ∀ v ∈ Z.coming, In40 v
  cz : Z.coming.length ≤ 1000
  ks : ∀ k ∈ Z.keeps, k.2.length ≤ 1000
  kz : Z.keeps.length ≤ 1000
  bz : Z.beg.length ≤ 1000
  hm : ∀ p ∈ Z.homeL, In40 p.2
  hz : Z.homeL.length ≤ 1000
/-- all that is asked of the numbers of things -/
structure Hst.Zs (Z : Hst) : Prop where
  c : Z.cells.length ≤ 1000
  s : Z.shelves.length ≤ 1000
  n : ∀ c ∈ Z.shelves, 0 ≤ c.2.1 ∧ c.2.1 ≤ 1000
def vOk {κ : Type} (l : List (κ × Int)) : Prop := ∀ p ∈ l, In40 p.2
structure Pg.Ok (Z : Hst) (N : Nat) (p : Pg) : Prop where
  h : vOk p.held
  t : vOk p.turned
  tp : ∀ q ∈ p.turned, Z.IsP q.1
  r : p.row < Z.rows.length
  hz : p.held.length ≤ N
  tz : p.turned.length ≤ N
def Dd.Ok (Z : Hst) : Dd → Prop
  | .page r => r < Z.rows.length
  | .box _ v => In40 v
  | .turn p v => Z.IsP p ∧ In40 v
  | .face => True
  | .home p v => Z.IsP p ∧ In40 v
def Ph.Ok (Z : Hst) (N : Nat) : Ph → Prop
  | .up _ => True
  | .go r => r < Z.rows.length
  | .keep r l k => r < Z.rows.length ∧ k < l.length ∧ l.length ≤ 2 * N + 1002 ∧ ∀ d ∈ l, d.Ok Z
  | .rest => True
structure Hs.Ok (Z : Hst) (N : Nat) (h : Hs) : Prop where
  du : In40 h.dust
  he : vOk h.held
  lo : vOk h.log
  lp : ∀ q ∈ h.log, Z.IsP q.1
  ln : (h.log.map (·.1)).Nodup
  hm : vOk h.home
  hk : h.home.map (·.1) = Z.homeK
  p0 : h.p0.Ok Z N
  p1 : h.p1.Ok Z N
  ph : h.ph.Ok Z N
  hz : h.held.length ≤ N
  lz : h.log.length ≤ N
  bz : h.bn.length ≤ N
  bv : vOk h.bn
theorem Pg.Ok.mono {Z : Hst} {N M : Nat} {p : Pg} (O : p.Ok Z N) (h : N ≤ M) : p.Ok Z M := ⟨O.h, O.t, O.tp, O.r, Nat.le_trans O.hz h, Nat.le_trans O.tz h⟩
theorem Ph.Ok.mono {Z : Hst} {N M : Nat} {p : Ph} (O : p.Ok Z N) (h : N ≤ M) : p.Ok Z M := by
  cases p with
  | up k => exact trivial
  | go r => exact O
  | keep r l k =>
    obtain ⟨a, b, c, d⟩ := O
    exact ⟨a, b, by omega, d⟩
  | rest => exact trivial
theorem Hs.Ok.mono {Z : Hst} {N M : Nat} {h : Hs} (O : h.Ok Z N) (hm : N ≤ M) : h.Ok Z M :=
  ⟨O.du, O.he, O.lo, O.lp, O.ln, O.hm, O.hk, O.p0.mono hm, O.p1.mono hm, O.ph.mono hm, Nat.le_trans O.hz hm, Nat.le_trans O.lz hm, Nat.le_trans O.bz hm, O.bv⟩
theorem vOk_get {κ : Type} [DecidableEq κ] {l : List (κ × Int)} (h : vOk l) {k : κ} {d : Int} (hd : In40 d) : In40 ((agt l k).getD d) := by
  cases e : agt l k with
  | none => exact hd
  | some v => exact h _ (agt_mem e)
theorem vOk_apt {κ : Type} [DecidableEq κ] {l : List (κ × Int)} (h : vOk l) {k : κ} {v : Int} (hv : In40 v) : vOk (apt l k v) := apt_mem (P := fun p => In40 p.2) h hv
theorem isP_apt {Z : Hst} {l : List (Pl × Int)} (h : ∀ q ∈ l, Z.IsP q.1) {p : Pl} {v : Int} (hp : Z.IsP p) : ∀ q ∈ apt l p v, Z.IsP q.1 := apt_mem (P := fun q => Z.IsP q.1) h hp
section
variable {Z : Hst} {N : Nat} {h : Hs}
theorem Hs.Ok.worth (O : h.Ok Z N) {a : Atm} (ha : a.Ok) : In40 (h.worth a) := by
  cases a with
  | n i => exact ha
  | x s => exact vOk_get O.he O.du
theorem Hs.Ok.homeV (O : h.Ok Z N) (p : Pl) : In40 (h.homeV p) := vOk_get O.hm in0
theorem Hs.Ok.home (O : h.Ok Z N) {p : Pl} (hp : Z.IsP p) : agt h.home p = some (h.homeV p) := by
  unfold Hs.homeV
  cases e : agt h.home p with
  | some v => rfl
  | none =>
    have := agt_none.mp e
    rw [ahas_of (by rw [O.hk]; exact hp)] at this
    cases this
theorem Hs.Ok.seen (O : h.Ok Z N) (p : Pl) : In40 (h.seen Z p) := by
  unfold Hs.seen
  split
  · exact vOk_get O.lo (O.homeV p)
  · exact O.homeV p
theorem place_lt (O : Z.ShelfOk s) {a : Atm} : ((h.place Z s a : Nat) : Int) = h.worth a % Z.size s ∧ ((h.place Z s a : Nat) : Int) < Z.size s := by
  have z0 := O.z0
  have h1 := Int.emod_nonneg (h.worth a) (b := Z.size s) (by omega)
  have h2 := Int.emod_lt_of_pos (h.worth a) O.z0
  unfold Hs.place
  omega
theorem hk_apt (O : h.Ok Z N) {p : Pl} {v : Int} (hp : Z.IsP p) : (apt h.home p v).map (·.1) = Z.homeK := by
  rw [apt_keys (ahas_of (by rw [O.hk]; exact hp))]
  exact O.hk
theorem Hs.Ok.written (O : h.Ok Z N) {p : Pl} {v : Int} (hp : Z.IsP p) (hv : In40 v) : (h.written Z p v).Ok Z (N + 1) := by
  have O' := O.mono (Nat.le_succ N)
  have lz := O.lz
  unfold Hs.written
  split
  · exact ⟨O'.du, O'.he, vOk_apt O.lo hv, isP_apt O.lp hp, apt_nd O.ln, O'.hm, O'.hk, O'.p0, O'.p1, O'.ph, O'.hz, Nat.le_trans apt_len (by omega), O'.bz, O'.bv⟩
  · exact ⟨O'.du, O'.he, O'.lo, O'.lp, O'.ln, vOk_apt O.hm hv, hk_apt O hp, O'.p0, O'.p1, O'.ph, O'.hz, O'.lz, O'.bz, O'.bv⟩
theorem Hs.Ok.out (O : h.Ok Z N) {x : Str} {v : Int} (hv : In40 v) : (h.out x v).Ok Z (N + 1) := by
  have O' := O.mono (Nat.le_succ N)
  have hz := O.hz
  exact ⟨O'.du, vOk_apt O.he hv, O'.lo, O'.lp, O'.ln, O'.hm, O'.hk, O'.p0, O'.p1, O'.ph, Nat.le_trans apt_len (by omega), O'.lz, O'.bz, O'.bv⟩
theorem Hs.Ok.say (O : h.Ok Z N) {v : Int} (hv : In40 v) : (h.say v).Ok Z (N + 1) := by
  have O' := O.mono (Nat.le_succ N)
  have bz := O.bz
  unfold Hs.say
  split
  · exact ⟨O'.du, O'.he, O'.lo, O'.lp, O'.ln, O'.hm, O'.hk, O'.p0, O'.p1, O'.ph, O'.hz, O'.lz, Nat.le_trans apt_len (by omega), vOk_apt O.bv hv⟩
  · exact ⟨O'.du, O'.he, O'.lo, O'.lp, O'.ln, O'.hm, O'.hk, O'.p0, O'.p1, O'.ph, O'.hz, O'.lz, O'.bz, O'.bv⟩
/-- fields of which nothing is asked -/
theorem Hs.Ok.num (O : h.Ok Z N) (a b c : Nat) (f : Option Int) : ({ h with done := a, hears := b, says := c, fin := f } : Hs).Ok Z N := ⟨O.du, O.he, O.lo, O.lp, O.ln, O.hm, O.hk, O.p0, O.p1, O.ph, O.hz, O.lz, O.bz, O.bv⟩
theorem Hs.Ok.inPh (O : h.Ok Z N) {p : Ph} (hp : p.Ok Z N) : ({ h with ph := p } : Hs).Ok Z N := ⟨O.du, O.he, O.lo, O.lp, O.ln, O.hm, O.hk, O.p0, O.p1, hp, O.hz, O.lz, O.bz, O.bv⟩
theorem Hs.Ok.row (O : h.Ok Z N) (K : Z.Ok) {r : PRow} (hr : Z.RowOk r) : (h.row Z r).Ok Z (N + 1) := by
  cases r with
  | say a => exact O.say (O.worth hr)
  | copy x a => exact O.out (O.worth hr)
  | op x s a b => exact O.out (valS_40 (O.worth hr.2.1) (O.worth hr.2.2))
  | load x c => exact O.out (O.seen _)
  | store c a => exact O.written hr.1.pl (O.worth hr.2)
  | take x s a => exact O.out (O.seen _)
  | lay s a b => exact O.written (hr.1.pl _ (place_lt hr.1).2) (O.worth hr.2.2)
  | hear x =>
    have hv : In40 (Z.coming.getD h.hears 0) := by
      rw [List.getD_eq_getElem?_getD]
      cases e : Z.coming[h.hears]? with
      | none => exact in0
      | some v => exact K.co v (List.mem_of_getElem? e)
    exact (O.out hv).num h.done (h.hears + 1) h.says h.fin
  | ifr a n => exact O.mono (Nat.le_succ N)
  | go n => exact O.mono (Nat.le_succ N)
  | endr a => exact (O.mono (Nat.le_succ N)).num h.done h.hears h.says _
theorem Hs.Ok.page (O : h.Ok Z N) (b : Bool) : (h.page b).Ok Z N := by
  cases b
  · exact O.p0
  · exact O.p1
theorem Hs.Ok.setBack (O : h.Ok Z N) {p : Pg} (hp : p.Ok Z N) : (h.setBack p).Ok Z N := by
  unfold Hs.setBack
  split
  · exact ⟨O.du, O.he, O.lo, O.lp, O.ln, O.hm, O.hk, hp, O.p1, O.ph, O.hz, O.lz, O.bz, O.bv⟩
  · exact ⟨O.du, O.he, O.lo, O.lp, O.ln, O.hm, O.hk, O.p0, hp, O.ph, O.hz, O.lz, O.bz, O.bv⟩
theorem Hs.Ok.deed (O : h.Ok Z N) {d : Dd} (hd : d.Ok Z) : (h.deed d).Ok Z (N + 1) := by
  have O' := O.mono (Nat.le_succ N)
  have B := O.page (!h.front)
  have hz : h.back.held.length ≤ N := B.hz
  have tz : h.back.turned.length ≤ N := B.tz
  cases d with
  | page r => exact O'.setBack ⟨(fun p hp => by cases hp), (fun p hp => by cases hp), (fun p hp => by cases hp), hd, Nat.zero_le _, Nat.zero_le _⟩
  | box x v => exact O'.setBack ⟨fun p hp => (List.mem_append.mp hp).elim (B.h p) fun e => by rw [List.mem_singleton.mp e]; exact hd, B.t, B.tp, B.r, by rw [List.length_append, List.length_singleton]; omega, Nat.le_succ_of_le tz⟩
  | turn p v => exact O'.setBack ⟨B.h, fun q hq => (List.mem_append.mp hq).elim (B.t q) fun e => by rw [List.mem_singleton.mp e]; exact hd.2, fun q hq => (List.mem_append.mp hq).elim (B.tp q) fun e => by rw [List.mem_singleton.mp e]; exact hd.1, B.r, Nat.le_succ_of_le hz, by rw [List.length_append, List.length_singleton]; omega⟩
  | face => exact ⟨O'.du, O'.he, O'.lo, O'.lp, O'.ln, O'.hm, O'.hk, O'.p0, O'.p1, O'.ph, O'.hz, O'.lz, O'.bz, O'.bv⟩
  | home p v => exact ⟨O'.du, O'.he, O'.lo, O'.lp, O'.ln, vOk_apt O.hm hd.2, hk_apt O hd.1, O'.p0, O'.p1, O'.ph, O'.hz, O'.lz, O'.bz, O'.bv⟩
theorem dictL_len : ∀ (l m : List (Str × Int)), (l.foldl (fun l q => apt l q.1 q.2) m).length ≤ m.length + l.length
  | [], m => Nat.le_refl _
  | q :: l, m => by
    have := dictL_len l (apt m q.1 q.2)
    have := apt_len (l := m) (k := q.1) (v := q.2)
    rw [List.foldl_cons, List.length_cons]
    omega
theorem dictL_ok : ∀ (l m : List (Str × Int)), vOk l → vOk m → vOk (l.foldl (fun l q => apt l q.1 q.2) m)
  | [], m, _, hm => hm
  | q :: l, m, hl, hm => dictL_ok l (apt m q.1 q.2) (fun p hp => hl p (List.mem_cons_of_mem _ hp)) (vOk_apt hm (hl q List.mem_cons_self))
theorem keepsL_mem (K : Z.Ok) {t : Nat} {bs : List Str} (e : agt Z.keepsL t = some bs) : (t, bs) ∈ Z.keeps := by
  have key : ∀ (l m : List (Nat × List Str)), (∀ p ∈ l.foldl (fun l k => apt l k.1 k.2) m, p ∈ l ∨ p ∈ m) := fun l => by
    induction l with
    | nil => intro m p hp; exact .inr hp
    | cons k l ih =>
      intro m p hp
      rcases ih _ p hp with h | h
      · exact .inl (List.mem_cons_of_mem _ h)
      · have := apt_mem (P := fun p => p = k ∨ p ∈ m) (l := m) (k := k.1) (v := k.2) (fun q hq => .inr hq) (.inl rfl) p h
        rcases this with e | e
        · rw [e]; exact .inl List.mem_cons_self
        · exact .inr e
  rcases key Z.keeps [] _ (agt_mem e) with h | h
  · exact h
  · cases h
theorem Hs.Ok.small (O : h.Ok Z N) {r : Nat} (hr : r < Z.rows.length) {bs : List Str} : ∀ d ∈ h.small r bs, d.Ok Z := by
  intro d hd
  unfold Hs.small at hd
  rcases List.mem_append.mp hd with hd | hd
  · rcases List.mem_append.mp hd with hd | hd
    · rcases List.mem_append.mp hd with hd | hd
      · rcases List.mem_cons.mp hd with e | hd
        · rw [e]; exact hr
        · obtain ⟨x, _, rfl⟩ := List.mem_map.mp hd
          exact O.worth (a := .x x) trivial
      · obtain ⟨p, hp, rfl⟩ := List.mem_map.mp hd
        exact ⟨O.lp p hp, O.lo p hp⟩
    · rw [List.mem_singleton.mp hd]; exact trivial
  · obtain ⟨p, hp, rfl⟩ := List.mem_map.mp hd
    exact ⟨O.lp p hp, O.lo p hp⟩
theorem small_len {r : Nat} {bs : List Str} : (h.small r bs).length = bs.length + 2 * h.log.length + 2 := by
  unfold Hs.small
  simp only [List.length_append, List.length_cons, List.length_map, List.length_nil]
  omega
theorem next_led {i : Nat} {r : PRow} (he : isEnd r = false) : h.next i r ∈ r.led i := by
  cases r with
  | ifr a n =>
    show (if h.worth a = 0 then i + 1 else n) ∈ [n, i + 1]
    split
    · exact List.mem_cons_of_mem _ List.mem_cons_self
    · exact List.mem_cons_self
  | endr a => cases he
  | _ => exact List.mem_cons_self
theorem Hs.Ok.come (O : h.Ok Z N) (K : Z.Ok) {t : Nat} (ht : t < Z.rows.length) : (h.come Z t).Ok Z N := by
  unfold Hs.come
  split
  · exact O.inPh (p := .go t) ht
  · rename_i bs e
    have := K.ks _ (keepsL_mem K e)
    have := O.lz
    have l := small_len (h := h) (r := t) (bs := bs)
    exact O.inPh (p := .keep t _ 0) ⟨ht, by omega, by simp only at *; omega, O.small ht⟩
theorem Hs.Ok.step (O : h.Ok Z N) (K : Z.Ok) : (h.step Z).Ok Z (N + 1) := by
  have O' := O.mono (Nat.le_succ N)
  unfold Hs.step
  split
  · exact O'
  · rename_i k e
    have B := O.page h.front
    split
    · rename_i q hq
      have hm := List.mem_of_getElem? hq
      exact ⟨O'.du, O'.he, O'.lo, O'.lp, O'.ln, vOk_apt O.hm (B.t q hm), hk_apt O (B.tp q hm), O'.p0, O'.p1, trivial, O'.hz, O'.lz, O'.bz, O'.bv⟩
    · refine ⟨O'.du, dictL_ok _ _ B.h (fun p hp => by cases hp), O'.lo, O'.lp, O'.ln, O'.hm, O'.hk, O'.p0, O'.p1, B.r, ?_, O'.lz, O'.bz, O'.bv⟩
      have := dictL_len (h.page h.front).held []
      have := B.hz
      rw [List.length_nil] at *
      show (dictL (h.page h.front).held).length ≤ N + 1
      unfold dictL
      omega
  · rename_i i e
    split
    · exact O'
    · rename_i r hr
      have R := (O.num (h.done + 1) h.hears h.says h.fin).row K (K.r r (List.mem_of_getElem? hr))
      split
      · exact R.inPh (p := .rest) trivial
      · rename_i he
        exact R.come K (K.led i r hr _ (next_led (Bool.eq_false_iff.mpr he)))
  · rename_i r l k e
    have hp := O.ph
    rw [e] at hp
    obtain ⟨h1, h2, h3, h4⟩ := hp
    split
    · exact O'
    · rename_i d hd
      have D := O.deed (h4 d (List.mem_of_getElem? hd))
      split
      · rename_i q
        exact D.inPh (p := .keep r l (k + 1)) ⟨h1, q, by omega, h4⟩
      · exact ⟨D.du, D.he, (fun p hp => by cases hp), (fun p hp => by cases hp), List.nodup_nil, D.hm, D.hk, D.p0, D.p1, h1, D.hz, Nat.zero_le _, D.bz, D.bv⟩
theorem step_go {i : Nat} {r : PRow} (hp : h.ph = .go i) (hr : Z.rows[i]? = some r) : h.step Z = if isEnd r = true then { Hs.row Z { h with done := h.done + 1 } r with ph := .rest } else (Hs.row Z { h with done := h.done + 1 } r).come Z (h.next i r) := by
  unfold Hs.step
  split
  · rename_i e; rw [hp] at e; cases e
  · rename_i e; rw [hp] at e; cases e
  · rename_i e; rw [hp] at e; cases e
    rw [hr]
  · rename_i e; rw [hp] at e; cases e
theorem step_up {k : Nat} (hp : h.ph = .up k) : h.step Z = match (h.page h.front).turned[k]? with
    | some q => { h with home := apt h.home q.1 q.2, ph := .up (k + 1) }
    | none => { h.comeUp (h.page h.front) with ph := .go (h.page h.front).row } := by
  unfold Hs.step
  split
  · rename_i e; rw [hp] at e; cases e
  · rename_i e; rw [hp] at e; cases e
    rfl
  · rename_i e; rw [hp] at e; cases e
  · rename_i e; rw [hp] at e; cases e
theorem step_keep {r k : Nat} {l : List Dd} {d : Dd} (hp : h.ph = .keep r l k) (hd : l[k]? = some d) : h.step Z = if k + 1 < l.length then { h.deed d with ph := .keep r l (k + 1) } else { h.deed d with log := [], ph := .go r } := by
  unfold Hs.step
  split
  · rename_i e; rw [hp] at e; cases e
  · rename_i e; rw [hp] at e; cases e
  · rename_i e; rw [hp] at e; cases e
  · rename_i e; rw [hp] at e; cases e
    rw [hd]
theorem step_rest (hp : h.ph = .rest) : h.step Z = h := by
  unfold Hs.step
  split
  · rfl
  · rename_i e; rw [hp] at e; cases e
  · rename_i e; rw [hp] at e; cases e
  · rename_i e; rw [hp] at e; cases e
theorem Hs.Ok.lose (O : h.Ok Z N) {d : Int} (hd : In40 d) : (h.lose d).Ok Z N := ⟨hd, (fun p hp => by cases hp), (fun p hp => by cases hp), (fun p hp => by cases hp), List.nodup_nil, O.hm, O.hk, O.p0, O.p1, trivial, Nat.zero_le _, Nat.zero_le _, O.bz, O.bv⟩
theorem Hs.Ok.fail (O : h.Ok Z N) {d : Int} (hd : In40 d) : (h.fail d).Ok Z N := by
  unfold Hs.fail
  split
  · exact O
  · exact O.lose hd
theorem init_ok (K : Z.Ok) : Z.init.Ok Z 1000 := by
  refine ⟨in0, (fun p hp => by cases hp), (fun p hp => by cases hp), (fun p hp => by cases hp), List.nodup_nil, K.hm, rfl, ⟨fun p hp => ?_, (fun p hp => by cases hp), (fun p hp => by cases hp), K.n0, by show (Z.beg.map _).length ≤ _; rw [List.length_map]; exact K.bz, Nat.zero_le _⟩,
    ⟨(fun p hp => by cases hp), (fun p hp => by cases hp), (fun p hp => by cases hp), K.n0, Nat.zero_le _, Nat.zero_le _⟩, trivial, Nat.zero_le _, Nat.zero_le _, Nat.zero_le _, fun p hp => by cases hp⟩
  obtain ⟨x, _, rfl⟩ := List.mem_map.mp hp
  exact in0
/-! ### the hand's letters -/
structure Hs.Sy (h : Hs) : Prop where
  k : h.bn.map (·.1) = List.range h.bn.length
  s : h.says ≤ h.bn.length
  s0 : h.p0.says ≤ h.bn.length
  s1 : h.p1.says ≤ h.bn.length
def Hs.letters (h : Hs) : List Int := h.bn.map (·.2)
theorem agt_range {l : List (Nat × Int)} (hk : l.map (·.1) = List.range l.length) (i : Nat) : agt l i = (l[i]?).map (·.2) := by
  have key : ∀ (l : List (Nat × Int)) (a : Nat), l.map (·.1) = List.range' a l.length → ∀ i, agt l (a + i) = (l[i]?).map (·.2) := fun l => by
    induction l with
    | nil => intro a _ i; rfl
    | cons p l ih =>
      intro a hl i
      rw [List.map_cons, List.length_cons, List.range'_succ] at hl
      obtain ⟨h1, h2⟩ := List.cons.inj hl
      rw [agt_cons]
      cases i with
      | zero =>
        rw [if_pos (by rw [h1] <;> rfl)]
        rfl
      | succ i =>
        have h1 : p.1 = a := h1
        rw [if_neg (by omega), show a + (i + 1) = a + 1 + i by omega, ih (a + 1) h2 i]
        rfl
  have := key l 0 (by rw [hk, List.range_eq_range']) i
  rwa [Nat.zero_add] at this
theorem Hs.Sy.say (Y : h.Sy) (v : Int) : (h.say v).Sy ∧ h.bn.length ≤ (h.say v).bn.length := by
  obtain ⟨k, s, s0, s1⟩ := Y
  unfold Hs.say
  split
  · rename_i e
    rw [agt_range k] at e
    have hs : h.says = h.bn.length := by
      rcases Nat.lt_or_ge h.says h.bn.length with q | q
      · rw [List.getElem?_eq_getElem q] at e
        cases e
      · omega
    have hn : ahas h.bn h.says = false := by
      rw [← agt_none, agt_range k]
      exact e
    have ea : apt h.bn h.says v = h.bn ++ [(h.says, v)] := by
      unfold apt
      rw [if_neg (by rw [hn]; decide)]
    refine ⟨⟨?_, ?_, ?_, ?_⟩, ?_⟩
    · show (apt h.bn h.says v).map (·.1) = List.range (apt h.bn h.says v).length
      rw [ea, List.map_append, List.length_append, List.length_singleton, List.range_succ, k, hs]
      rfl
    · show h.says + 1 ≤ (apt h.bn h.says v).length
      rw [ea, List.length_append, List.length_singleton]
      omega
    · show h.p0.says ≤ (apt h.bn h.says v).length
      rw [ea, List.length_append, List.length_singleton]
      omega
    · show h.p1.says ≤ (apt h.bn h.says v).length
      rw [ea, List.length_append, List.length_singleton]
      omega
    · show h.bn.length ≤ (apt h.bn h.says v).length
      rw [ea, List.length_append, List.length_singleton]
      omega
  · rename_i u e
    rw [agt_range k] at e
    have hs : h.says < h.bn.length := by
      rcases Nat.lt_or_ge h.says h.bn.length with q | q
      · exact q
      · rw [List.getElem?_eq_none q] at e
        cases e
    exact ⟨⟨k, hs, s0, s1⟩, Nat.le_refl _⟩
theorem Hs.Sy.keep {h' : Hs} (Y : h.Sy) (a : h'.bn = h.bn) (b : h'.says = h.says) (c : h'.p0 = h.p0) (d : h'.p1 = h.p1) : h'.Sy := by
  obtain ⟨k, s, s0, s1⟩ := Y
  exact ⟨by rw [a]; exact k, by rw [a, b]; exact s, by rw [a, c]; exact s0, by rw [a, d]; exact s1⟩
theorem Hs.Sy.row (Y : h.Sy) (r : PRow) : (h.row Z r).Sy := by
  cases r with
  | say a => exact (Y.say _).1
  | store c a =>
    show (h.written Z _ _).Sy
    unfold Hs.written
    split <;> exact Y.keep rfl rfl rfl rfl
  | lay s a b =>
    show (h.written Z _ _).Sy
    unfold Hs.written
    split <;> exact Y.keep rfl rfl rfl rfl
  | _ => exact Y.keep rfl rfl rfl rfl
theorem Hs.Sy.setBack (Y : h.Sy) {p : Pg} (hp : p.says ≤ h.bn.length) : (h.setBack p).Sy := by
  unfold Hs.setBack
  split
  · exact ⟨Y.k, Y.s, hp, Y.s1⟩
  · exact ⟨Y.k, Y.s, Y.s0, hp⟩
theorem Hs.Sy.page (Y : h.Sy) (b : Bool) : (h.page b).says ≤ h.bn.length := by
  cases b
  · exact Y.s0
  · exact Y.s1
theorem Hs.Sy.deed (Y : h.Sy) (d : Dd) : (h.deed d).Sy := by
  cases d with
  | page r => exact Y.setBack (p := ⟨r, h.done, h.hears, h.says, [], []⟩) Y.s
  | box x v => exact Y.setBack (p := { h.back with held := h.back.held ++ [(x, v)] }) (Y.page (!h.front))
  | turn q v => exact Y.setBack (p := { h.back with turned := h.back.turned ++ [(q, v)] }) (Y.page (!h.front))
  | face => exact Y.keep rfl rfl rfl rfl
  | home p v => exact Y.keep rfl rfl rfl rfl
theorem Hs.Sy.step (Y : h.Sy) : (h.step Z).Sy := by
  unfold Hs.step
  split
  · exact Y
  · split
    · exact Y.keep rfl rfl rfl rfl
    · exact ⟨Y.k, Y.page h.front, Y.s0, Y.s1⟩
  · split
    · exact Y
    · rename_i r hr
      have R := Hs.Sy.row (Z := Z) (h := { h with done := h.done + 1 }) (Y.keep rfl rfl rfl rfl) r
      split
      · exact R.keep rfl rfl rfl rfl
      · unfold Hs.come
        split <;> exact R.keep rfl rfl rfl rfl
  · split
    · exact Y
    · rename_i d hd
      split <;> exact (Y.deed d).keep rfl rfl rfl rfl
theorem Hs.Sy.fail (Y : h.Sy) (d : Int) : (h.fail d).Sy := by
  unfold Hs.fail
  split
  · exact Y
  · exact ⟨Y.k, Nat.zero_le _, Y.s0, Y.s1⟩
theorem init_sy : Z.init.Sy := ⟨rfl, Nat.le_refl _, Nat.le_refl _, Nat.le_refl _⟩
end
end Dn

/-! the house in the store -/
namespace Dn
open PySem PySem.Spec PyProof.Rows L2
structure HL where
  o : Nat
  le : Nat
  ke : Nat
  co : Nat
  st : Nat
  ha : Nat
  he : Nat
  lo : Nat
  ph : Nat
  hm : Nat
  sz : Nat
  pg : Nat
  p0 : Nat
  p1 : Nat
  h0 : Nat
  t0 : Nat
  h1 : Nat
  t1 : Nat
  bn : Nat
abbrev intD : Int → DV := DV.int
abbrev blD : Bool → DV := DV.bl
abbrev bxD (l : List Str) : DV := .tup (l.map .str)
def Hst.PD (Z : Hst) : DV := .tup [.tup (Z.cells.map thD), .tup (Z.shelves.map thD), .tup (Z.rows.map PRow.d)]
def dikS {α : Type} (f : α → DV) (l : List (Str × α)) : DV := .dik .own (l.map fun p => kS p.1) (l.map fun p => f p.2)
def hsF (Z : Hst) (L : HL) (h : Hs) : List (Str × DV) :=
  [("program", Z.PD), ("leads", .loc L.le), ("twins", dikS blD Z.twL), ("sizes", dikS intD Z.szL), ("keeps", .loc L.ke), ("coming", .loc L.co), ("stays", .loc L.st), ("hand", .loc L.ha),
    ("dust", .int h.dust), ("held", .loc L.he), ("log", .loc L.lo), ("done", .int h.done), ("hears", .int h.hears), ("says", .int h.says), ("phase", .loc L.ph)]
def Dd.d : Dd → DV
  | .page r => .tup [.str "page", .int r]
  | .box x v => .tup [.str "box", .str x, .int v]
  | .turn p v => .tup [.str "turn", .str p.1, .int p.2, .int v]
  | .face => .tup [.str "face"]
  | .home p v => .tup [.str "home", .str p.1, .int p.2, .int v]
def phC : Ph → Cell
  | .up k => .ins "Up" [("passed", .int k)]
  | .go r => .ins "Going" [("line", .int r)]
  | .keep r l k => .ins "Keeping" [("line", .int r), ("steps", .lst .own (l.map Dd.d)), ("passed", .int k)]
  | .rest => .ins "Resting" []
def frN (b : Bool) : Nat := if b = true then 1 else 0
def stF (L : HL) (h : Hs) : List (Str × DV) := [("home", .loc L.hm), ("sizes", .loc L.sz), ("pages", .loc L.pg), ("front", .int (frN h.front : Nat)), ("final", optI h.fin)]
def headD (p : Pg) : DV := .tup [.int p.row, .int p.done, .int p.hears, .int p.says]
def pgF (p : Pg) (a b : Nat) : List (Str × DV) := [("head", headD p), ("held", .loc a), ("turned", .loc b)]
abbrev bvD (q : Str × Int) : DV := .tup [.str q.1, .int q.2]
abbrev tnD (q : Pl × Int) : DV := .tup [plD q.1, .int q.2]
def hnF (L : HL) (h : Hs) : List (Str × DV) := [("by_number", .loc L.bn), ("rent", .bl h.rent)]
def hsC (Z : Hst) (L : HL) (h : Hs) : Cs :=
  [(L.o, .ins "House" (hsF Z L h)), (L.le, .lst (leadsD Z.rows)), (L.ke, dkN bxD Z.keepsL), (L.co, .lst (Z.coming.map .int)), (L.st, .ins "Store" (stF L h)), (L.hm, dkP intD h.home), (L.sz, dkS intD Z.szL), (L.p0, .ins "Page" (pgF h.p0 L.h0 L.t0)), (L.h0, .lst (h.p0.held.map bvD)), (L.t0, .lst (h.p0.turned.map tnD)), (L.p1, .ins "Page" (pgF h.p1 L.h1 L.t1)), (L.h1, .lst (h.p1.held.map bvD)), (L.t1, .lst (h.p1.turned.map tnD)), (L.pg, .lst [.loc L.p0, .loc L.p1]), (L.ha, .ins "Hand" (hnF L h)), (L.bn, dkN intD h.bn), (L.he, dkS intD h.held), (L.lo, dkP intD h.log), (L.ph, phC h.ph)]
/-- a step of the house's part -/
abbrev HSt (Z : Hst) (S : Sto) (L : HL) (h : Hs) (S' : Sto) (L' : HL) (h' : Hs) : Prop := Stp S (hsC Z L h) S' (hsC Z L' h') ∧ L'.o = L.o
section
variable {Z : Hst} {S S' S1 : Sto} {L L' L1 : HL} {h h' h1 : Hs}
theorem HSt.trans (a : HSt Z S L h S1 L1 h1) (b : HSt Z S1 L1 h1 S' L' h') : HSt Z S L h S' L' h' := ⟨a.1.trans b.1, b.2.trans a.2⟩
theorem HSt.refl (A : AtS S (hsC Z L h)) : HSt Z S L h S L h := ⟨Stp.refl A, rfl⟩
variable (A : AtS S (hsC Z L h))
include A
theorem hs_o : S[L.o]? = some (.ins "House" (hsF Z L h)) := A.at 0
theorem hs_le : S[L.le]? = some (.lst (leadsD Z.rows)) := A.at 1
theorem hs_ke : S[L.ke]? = some (dkN bxD Z.keepsL) := A.at 2
theorem hs_co : S[L.co]? = some (.lst (Z.coming.map .int)) := A.at 3
theorem hs_st : S[L.st]? = some (.ins "Store" (stF L h)) := A.at 4
theorem hs_ha : S[L.ha]? = some (.ins "Hand" (hnF L h)) := A.at 14
theorem hs_he : S[L.he]? = some (dkS intD h.held) := A.at 16
theorem hs_lo : S[L.lo]? = some (dkP intD h.log) := A.at 17
theorem hs_ph : S[L.ph]? = some (phC h.ph) := A.at 18
theorem hs_hm : S[L.hm]? = some (dkP intD h.home) := A.at 5
theorem hs_sz : S[L.sz]? = some (dkS intD Z.szL) := A.at 6
theorem hs_pg : S[L.pg]? = some (.lst [.loc L.p0, .loc L.p1]) := A.at 13
theorem hs_p0 : S[L.p0]? = some (.ins "Page" (pgF h.p0 L.h0 L.t0)) := A.at 7
theorem hs_p1 : S[L.p1]? = some (.ins "Page" (pgF h.p1 L.h1 L.t1)) := A.at 10
theorem hs_h0 : S[L.h0]? = some (.lst (h.p0.held.map bvD)) := A.at 8
theorem hs_t0 : S[L.t0]? = some (.lst (h.p0.turned.map tnD)) := A.at 9
theorem hs_h1 : S[L.h1]? = some (.lst (h.p1.held.map bvD)) := A.at 11
theorem hs_t1 : S[L.t1]? = some (.lst (h.p1.turned.map tnD)) := A.at 12
theorem hs_bn : S[L.bn]? = some (dkN intD h.bn) := A.at 15
/-- the house's own fields -/
theorem set_hs (a : Int) (b c d : Nat) : HSt Z S L h (S.set L.o (.ins "House" (hsF Z L { h with dust := a, done := b, hears := c, says := d }))) L { h with dust := a, done := b, hears := c, says := d } :=
  ⟨(Stp.set A 0 (.ins "House" (hsF Z L { h with dust := a, done := b, hears := c, says := d }))).of_eq rfl, rfl⟩
/-- a new dict of boxes -/
theorem new_held : HSt Z S L h ((S ++ [dkS intD []]).set L.o (.ins "House" (hsF Z { L with he := S.length } { h with held := [] }))) { L with he := S.length } { h with held := [] } := by
  have T1 : Stp S (hsC Z L h) (S ++ [dkS intD []]) ((hsC Z L h).set 16 (S.length, dkS intD [])) := Stp.new A 16 (dkS intD [])
  exact ⟨(T1.trans (Stp.set T1.at_ 0 (a := L.o) (c := .ins "House" (hsF Z L h)) (.ins "House" (hsF Z { L with he := S.length } { h with held := [] })))).of_eq rfl, rfl⟩
theorem new_log : HSt Z S L h ((S ++ [dkP intD []]).set L.o (.ins "House" (hsF Z { L with lo := S.length } { h with log := [] }))) { L with lo := S.length } { h with log := [] } := by
  have T1 : Stp S (hsC Z L h) (S ++ [dkP intD []]) ((hsC Z L h).set 17 (S.length, dkP intD [])) := Stp.new A 17 (dkP intD [])
  exact ⟨(T1.trans (Stp.set T1.at_ 0 (a := L.o) (c := .ins "House" (hsF Z L h)) (.ins "House" (hsF Z { L with lo := S.length } { h with log := [] })))).of_eq rfl, rfl⟩
theorem new_ph (p : Ph) : HSt Z S L h ((S ++ [phC p]).set L.o (.ins "House" (hsF Z { L with ph := S.length } { h with ph := p }))) { L with ph := S.length } { h with ph := p } := by
  have hp : notLok (phC p) = true := by cases p <;> rfl
  have T1 : Stp S (hsC Z L h) (S ++ [phC p]) ((hsC Z L h).set 18 (S.length, phC p)) := Stp.new A 18 (phC p) hp
  exact ⟨(T1.trans (Stp.set T1.at_ 0 (a := L.o) (c := .ins "House" (hsF Z L h)) (.ins "House" (hsF Z { L with ph := S.length } { h with ph := p })))).of_eq rfl, rfl⟩
theorem set_ph (p : Ph) : HSt Z S L h (S.set L.ph (phC p)) L { h with ph := p } :=
  ⟨(Stp.set A 18 (phC p) rfl (by cases p <;> rfl)).of_eq rfl, rfl⟩
theorem set_he (l : List (Str × Int)) : HSt Z S L h (S.set L.he (dkS intD l)) L { h with held := l } := ⟨(Stp.set A 16 (dkS intD l)).of_eq rfl, rfl⟩
theorem set_lo (l : List (Pl × Int)) : HSt Z S L h (S.set L.lo (dkP intD l)) L { h with log := l } := ⟨(Stp.set A 17 (dkP intD l)).of_eq rfl, rfl⟩
theorem set_hm (l : List (Pl × Int)) : HSt Z S L h (S.set L.hm (dkP intD l)) L { h with home := l } := ⟨(Stp.set A 5 (dkP intD l)).of_eq rfl, rfl⟩
theorem set_bn (l : List (Nat × Int)) : HSt Z S L h (S.set L.bn (dkN intD l)) L { h with bn := l } := ⟨(Stp.set A 15 (dkN intD l)).of_eq rfl, rfl⟩
theorem set_rent (b : Bool) : HSt Z S L h (S.set L.ha (.ins "Hand" (hnF L { h with rent := b }))) L { h with rent := b } := ⟨(Stp.set A 14 (.ins "Hand" (hnF L { h with rent := b }))).of_eq rfl, rfl⟩
theorem set_st (b : Bool) (f : Option Int) : HSt Z S L h (S.set L.st (.ins "Store" (stF L { h with front := b, fin := f }))) L { h with front := b, fin := f } := ⟨(Stp.set A 4 (.ins "Store" (stF L { h with front := b, fin := f }))).of_eq rfl, rfl⟩
theorem set_h0 (l : List (Str × Int)) : HSt Z S L h (S.set L.h0 (.lst (l.map bvD))) L { h with p0 := { h.p0 with held := l } } := ⟨(Stp.set A 8 (.lst (l.map bvD))).of_eq rfl, rfl⟩
theorem set_h1 (l : List (Str × Int)) : HSt Z S L h (S.set L.h1 (.lst (l.map bvD))) L { h with p1 := { h.p1 with held := l } } := ⟨(Stp.set A 11 (.lst (l.map bvD))).of_eq rfl, rfl⟩
theorem set_t0 (l : List (Pl × Int)) : HSt Z S L h (S.set L.t0 (.lst (l.map tnD))) L { h with p0 := { h.p0 with turned := l } } := ⟨(Stp.set A 9 (.lst (l.map tnD))).of_eq rfl, rfl⟩
theorem set_t1 (l : List (Pl × Int)) : HSt Z S L h (S.set L.t1 (.lst (l.map tnD))) L { h with p1 := { h.p1 with turned := l } } := ⟨(Stp.set A 12 (.lst (l.map tnD))).of_eq rfl, rfl⟩
end
/-- a new page: its object, its lists -/
def pgCells (p : Pg) (n : Nat) : List Cell := [.ins "Page" (pgF p (n + 1) (n + 2)), .lst [], .lst []]
section
variable {Z : Hst} {S : Sto} {L : HL} {h : Hs} (A : AtS S (hsC Z L h)) {p : Pg}
include A
theorem new_p0 (h1 : p.held = []) (h2 : p.turned = []) : HSt Z S L h ((S ++ pgCells p S.length).set L.pg (.lst [.loc S.length, .loc L.p1])) { L with p0 := S.length, h0 := S.length + 1, t0 := S.length + 2 } { h with p0 := p } := by
  have T1 := Stp.new A 7 (.ins "Page" (pgF p (S.length + 1) (S.length + 2)))
  have T2 := Stp.new T1.at_ 8 (.lst [])
  have T3 := Stp.new T2.at_ 9 (.lst [])
  have e : (S ++ [Cell.ins "Page" (pgF p (S.length + 1) (S.length + 2))] ++ [Cell.lst []]).length = S.length + 2 := by simp
  have e1 : (S ++ [Cell.ins "Page" (pgF p (S.length + 1) (S.length + 2))]).length = S.length + 1 := by simp
  rw [e] at T3
  rw [e1] at T2 T3
  have T4 := Stp.set T3.at_ 13 (a := L.pg) (c := .lst [.loc L.p0, .loc L.p1]) (.lst [.loc S.length, .loc L.p1])
  refine ⟨?_, rfl⟩
  have es : S ++ [Cell.ins "Page" (pgF p (S.length + 1) (S.length + 2))] ++ [Cell.lst []] ++ [Cell.lst []] = S ++ pgCells p S.length := by
    rw [List.append_assoc, List.append_assoc]
    rfl
  have T := ((T1.trans T2).trans T3).trans T4
  rw [es] at T
  refine T.of_eq ?_
  obtain ⟨r, a, b, c, ph, pt⟩ := p
  have h1 : ph = [] := h1
  have h2 : pt = [] := h2
  subst h1 h2
  rfl
theorem new_p1 (h1 : p.held = []) (h2 : p.turned = []) : HSt Z S L h ((S ++ pgCells p S.length).set L.pg (.lst [.loc L.p0, .loc S.length])) { L with p1 := S.length, h1 := S.length + 1, t1 := S.length + 2 } { h with p1 := p } := by
  have T1 := Stp.new A 10 (.ins "Page" (pgF p (S.length + 1) (S.length + 2)))
  have T2 := Stp.new T1.at_ 11 (.lst [])
  have T3 := Stp.new T2.at_ 12 (.lst [])
  have e : (S ++ [Cell.ins "Page" (pgF p (S.length + 1) (S.length + 2))] ++ [Cell.lst []]).length = S.length + 2 := by simp
  have e1 : (S ++ [Cell.ins "Page" (pgF p (S.length + 1) (S.length + 2))]).length = S.length + 1 := by simp
  rw [e] at T3
  rw [e1] at T2 T3
  have T4 := Stp.set T3.at_ 13 (a := L.pg) (c := .lst [.loc L.p0, .loc L.p1]) (.lst [.loc L.p0, .loc S.length])
  refine ⟨?_, rfl⟩
  have es : S ++ [Cell.ins "Page" (pgF p (S.length + 1) (S.length + 2))] ++ [Cell.lst []] ++ [Cell.lst []] = S ++ pgCells p S.length := by
    rw [List.append_assoc, List.append_assoc]
    rfl
  have T := ((T1.trans T2).trans T3).trans T4
  rw [es] at T
  refine T.of_eq ?_
  obtain ⟨r, a, b, c, ph, pt⟩ := p
  have h1 : ph = [] := h1
  have h2 : pt = [] := h2
  subst h1 h2
  rfl
end
end Dn

/-! list(range(j)) -/
namespace Dn
open PySem PySem.Spec PyProof.Rows L2
section
variable {X : Cx}
end
end Dn

/-! a house of a program in order -/
namespace Dn
open PySem PySem.Spec PyProof.Rows L2
section
variable {κ α β : Type} [DecidableEq κ]
theorem fold_apt_not (kf : β → κ) (vf : β → α) {p : κ} : ∀ (l : List β) (acc : List (κ × α)), (∀ c ∈ l, kf c ≠ p) → agt (l.foldl (fun a c => apt a (kf c) (vf c)) acc) p = agt acc p
  | [], acc, _ => rfl
  | c :: l, acc, h => by
    rw [List.foldl_cons, fold_apt_not kf vf l _ fun x hx => h x (List.mem_cons_of_mem _ hx), agt_apt, if_neg (h c List.mem_cons_self)]
theorem fold_apt_mem (kf : β → κ) (vf : β → α) : ∀ (l : List β) (acc : List (κ × α)), (l.map kf).Nodup → ∀ c ∈ l, agt (l.foldl (fun a c => apt a (kf c) (vf c)) acc) (kf c) = some (vf c)
  | [], acc, _, c, h => nomatch h
  | d :: l, acc, hn, c, h => by
    rw [List.map_cons, List.nodup_cons] at hn
    rw [List.foldl_cons]
    rcases List.mem_cons.mp h with e | h
    · subst e
      rw [fold_apt_not kf vf l _ fun x hx e => hn.1 (by rw [← e]; exact List.mem_map_of_mem hx), agt_apt, if_pos rfl]
    · exact fold_apt_mem kf vf l _ hn.2 c h
theorem fold_apt_all (kf : β → κ) (vf : β → α) {P : κ × α → Prop} : ∀ (l : List β) (acc : List (κ × α)), (∀ p ∈ acc, P p) → (∀ c ∈ l, P (kf c, vf c)) → ∀ p ∈ l.foldl (fun a c => apt a (kf c) (vf c)) acc, P p
  | [], acc, h, _, p, hp => h p hp
  | c :: l, acc, h, h2, p, hp => fold_apt_all kf vf l _ (apt_mem h (h2 c List.mem_cons_self)) (fun x hx => h2 x (List.mem_cons_of_mem _ hx)) p hp
theorem fold_apt_len (kf : β → κ) (vf : β → α) : ∀ (l : List β) (acc : List (κ × α)), (l.foldl (fun a c => apt a (kf c) (vf c)) acc).length ≤ acc.length + l.length
  | [], acc => Nat.le_refl _
  | c :: l, acc => by
    have := fold_apt_len kf vf l (apt acc (kf c) (vf c))
    have := apt_len (l := acc) (k := kf c) (v := vf c)
    rw [List.foldl_cons, List.length_cons]
    omega
theorem ahas_some {l : List (κ × α)} {k : κ} {v : α} (h : agt l k = some v) : ahas l k = true := by
  cases q : ahas l k with
  | true => rfl
  | false => rw [agt_none.mpr q] at h; cases h
end
theorem agt_shelfL (acc : List (Pl × Int)) (c : Thing) (p : Pl) : agt (shelfL acc c) p = if p.1 = c.1 ∧ p.2 < c.2.1.toNat then some 0 else agt acc p := by
  unfold shelfL
  generalize c.2.1.toNat = n
  induction n with
  | zero => rw [if_neg (by omega)]; rfl
  | succ n ih =>
    rw [List.range_succ, List.foldl_append, List.foldl_cons, List.foldl_nil, agt_apt, ih]
    by_cases q : (c.1, n) = p
    · rw [if_pos q, if_pos (by rw [← q]; exact ⟨rfl, Nat.lt_succ_self _⟩)]
    · rw [if_neg q]
      by_cases z : p.1 = c.1 ∧ p.2 < n
      · rw [if_pos z, if_pos ⟨z.1, by omega⟩]
      · rw [if_neg z, if_neg fun y => z ⟨y.1, by
          rcases Nat.lt_or_ge p.2 n with t | t
          · exact t
          · exact absurd (Prod.ext y.1.symm (show n = p.2 by omega)) q⟩]
theorem fold_shelf_not {p : Pl} : ∀ (l : List Thing) (acc : List (Pl × Int)), (∀ c ∈ l, c.1 ≠ p.1) → agt (l.foldl shelfL acc) p = agt acc p
  | [], acc, _ => rfl
  | c :: l, acc, h => by
    rw [List.foldl_cons, fold_shelf_not l _ fun x hx => h x (List.mem_cons_of_mem _ hx), agt_shelfL, if_neg fun z => h c List.mem_cons_self z.1.symm]
theorem fold_shelf_mem : ∀ (l : List Thing) (acc : List (Pl × Int)), (l.map (·.1)).Nodup → ∀ c ∈ l, ∀ k : Nat, k < c.2.1.toNat → agt (l.foldl shelfL acc) (c.1, k) = some 0
  | [], acc, _, c, h, _, _ => nomatch h
  | d :: l, acc, hn, c, h, k, hk => by
    rw [List.map_cons, List.nodup_cons] at hn
    rw [List.foldl_cons]
    rcases List.mem_cons.mp h with e | h
    · subst e
      rw [fold_shelf_not l _ fun x hx e => hn.1 (by rw [← e]; exact List.mem_map_of_mem hx), agt_shelfL, if_pos ⟨rfl, hk⟩]
    · exact fold_shelf_mem l _ hn.2 c h k hk
theorem shelfL_all {P : Pl × Int → Prop} (c : Thing) (acc : List (Pl × Int)) (h : ∀ p ∈ acc, P p) (h2 : ∀ k : Nat, k < c.2.1.toNat → P ((c.1, k), 0)) : ∀ p ∈ shelfL acc c, P p := by
  unfold shelfL
  exact fold_apt_all (fun k : Nat => ((c.1, k) : Pl)) (fun _ => (0 : Int)) _ acc h fun k hk => h2 k (List.mem_range.mp hk)
theorem fold_shelf_all {P : Pl × Int → Prop} : ∀ (l : List Thing) (acc : List (Pl × Int)), (∀ p ∈ acc, P p) → (∀ c ∈ l, ∀ k : Nat, k < c.2.1.toNat → P ((c.1, k), 0)) → ∀ p ∈ l.foldl shelfL acc, P p
  | [], acc, h, _ => h
  | c :: l, acc, h, h2 => fold_shelf_all l _ (shelfL_all c acc h (h2 c List.mem_cons_self)) fun x hx => h2 x (List.mem_cons_of_mem _ hx)
theorem fold_shelf_len (m : Nat) : ∀ (l : List Thing) (acc : List (Pl × Int)), (∀ c ∈ l, c.2.1.toNat ≤ m) → (l.foldl shelfL acc).length ≤ acc.length + m * l.length
  | [], acc, _ => by simp
  | c :: l, acc, h => by
    have h1 := fold_shelf_len m l (shelfL acc c) fun x hx => h x (List.mem_cons_of_mem _ hx)
    have h2 : (shelfL acc c).length ≤ acc.length + c.2.1.toNat := by
      have := fold_apt_len (fun k : Nat => ((c.1, k) : Pl)) (fun _ => (0 : Int)) (List.range c.2.1.toNat) acc
      rw [List.length_range] at this
      exact this
    have h3 := h c List.mem_cons_self
    rw [List.foldl_cons, List.length_cons, Nat.mul_succ]
    omega
/-- what is asked of the cells and shelves of a program -/
structure Hst.In (Z : Hst) : Prop where
  nd : ((Z.cells ++ Z.shelves).map (·.1)).Nodup
  cv : ∀ c ∈ Z.cells, In40 c.2.1
  sv : ∀ c ∈ Z.shelves, 1 ≤ c.2.1 ∧ c.2.1 ≤ 8
  cz : Z.cells.length ≤ 100
  sz : Z.shelves.length ≤ 100
section
variable {Z : Hst}
theorem Hst.In.zs (I : Z.In) : Z.Zs := ⟨by have := I.cz; omega, by have := I.sz; omega, fun c hc => by have := I.sv c hc; omega⟩
theorem Hst.In.nds (I : Z.In) : (Z.shelves.map (·.1)).Nodup ∧ (Z.cells.map (·.1)).Nodup ∧ ∀ c ∈ Z.cells, ∀ s ∈ Z.shelves, s.1 ≠ c.1 := by
  have := I.nd
  rw [List.map_append] at this
  obtain ⟨a, b, c⟩ := List.nodup_append.mp this
  exact ⟨b, a, fun x hx s hs e => c _ (List.mem_map_of_mem hx) _ (List.mem_map_of_mem hs) e.symm⟩
theorem nodup_key {l : List Thing} (h : (l.map (·.1)).Nodup) : (l.map fun c => ((c.1, 0) : Pl)).Nodup := by
  induction l with
  | nil => exact List.nodup_nil
  | cons c l ih =>
    rw [List.map_cons, List.nodup_cons] at h ⊢
    refine ⟨fun q => h.1 ?_, ih h.2⟩
    obtain ⟨x, hx, e⟩ := List.mem_map.mp q
    exact List.mem_map.mpr ⟨x, hx, (Prod.mk.inj e).1⟩
theorem Hst.In.home_c (I : Z.In) {c : Thing} (hc : c ∈ Z.cells) : agt Z.homeL (c.1, 0) = some c.2.1 := by
  unfold Hst.homeL
  rw [fold_shelf_not _ _ fun s hs => (I.nds).2.2 c hc s hs]
  exact fold_apt_mem (fun c : Thing => ((c.1, 0) : Pl)) (fun c => c.2.1) Z.cells [] (nodup_key I.nds.2.1) c hc
theorem Hst.In.home_s (I : Z.In) {c : Thing} (hc : c ∈ Z.shelves) {k : Nat} (hk : (k : Int) < c.2.1) : agt Z.homeL (c.1, k) = some 0 := by
  unfold Hst.homeL
  exact fold_shelf_mem _ _ I.nds.1 c hc k (by omega)
theorem Hst.In.tw_c (I : Z.In) {c : Thing} (hc : c ∈ Z.cells) : agt Z.twL c.1 = some c.2.2 := by
  unfold Hst.twL
  rw [fold_apt_not (fun c : Thing => c.1) (fun c => c.2.2) _ _ fun s hs => I.nds.2.2 c hc s hs]
  exact fold_apt_mem (fun c : Thing => c.1) (fun c => c.2.2) _ _ I.nds.2.1 c hc
theorem Hst.In.tw_s (I : Z.In) {c : Thing} (hc : c ∈ Z.shelves) : agt Z.twL c.1 = some c.2.2 := by
  unfold Hst.twL
  exact fold_apt_mem (fun c : Thing => c.1) (fun c => c.2.2) _ _ I.nds.1 c hc
theorem Hst.In.sz_s (I : Z.In) {c : Thing} (hc : c ∈ Z.shelves) : agt Z.szL c.1 = some c.2.1 := by
  unfold Hst.szL
  exact fold_apt_mem (fun c : Thing => c.1) (fun c => c.2.1) _ _ I.nds.1 c hc
theorem Hst.In.size_s (I : Z.In) {c : Thing} (hc : c ∈ Z.shelves) : Z.size c.1 = c.2.1 := by unfold Hst.size; rw [I.sz_s hc]; rfl
theorem isP_of {p : Pl} {v : Int} (h : agt Z.homeL p = some v) : Z.IsP p := by
  unfold Hst.IsP Hst.homeK
  exact ahas_iff.mp (ahas_some h)
theorem Hst.In.cell (I : Z.In) {c : Thing} (hc : c ∈ Z.cells) : Z.CellOk c.1 := ⟨ahas_some (I.tw_c hc), isP_of (I.home_c hc)⟩
theorem Hst.In.shelf (I : Z.In) {c : Thing} (hc : c ∈ Z.shelves) : Z.ShelfOk c.1 := by
  have e := I.size_s hc
  have := I.sv c hc
  exact ⟨ahas_some (I.tw_s hc), by rw [e]; exact I.sz_s hc, by omega, by omega, fun k hk => isP_of (I.home_s hc (by omega))⟩
theorem Hst.In.hm (I : Z.In) : ∀ p ∈ Z.homeL, In40 p.2 := by
  unfold Hst.homeL
  refine fold_shelf_all _ _ (fold_apt_all (fun c : Thing => ((c.1, 0) : Pl)) (fun c => c.2.1) _ _ (fun p hp => nomatch hp) fun c hc => I.cv c hc) fun c hc k hk => in0
theorem Hst.In.hz (I : Z.In) : Z.homeL.length ≤ 1000 := by
  have h1 := fold_shelf_len 8 Z.shelves (Z.cells.foldl (fun l c => apt l (c.1, 0) c.2.1) []) fun c hc => by have := I.sv c hc; omega
  have h2 : (Z.cells.foldl (fun l c => apt l (c.1, 0) c.2.1) ([] : List (Pl × Int))).length ≤ 0 + Z.cells.length := fold_apt_len (fun c : Thing => ((c.1, 0) : Pl)) (fun c => c.2.1) Z.cells []
  have := I.cz
  have := I.sz
  unfold Hst.homeL
  generalize Z.cells.foldl (fun l c => apt l (c.1, 0) c.2.1) ([] : List (Pl × Int)) = acc at h1 h2 ⊢
  omega
/-- all that a house asks -/
theorem Hst.In.ok (I : Z.In) (r : ∀ r ∈ Z.rows, Z.RowOk r) (led : ∀ (i : Nat) (r : PRow), Z.rows[i]? = some r → ∀ t ∈ r.led i, t < Z.rows.length) (n0 : 0 < Z.rows.length) (n1 : Z.rows.length ≤ 1000)
    (co : ∀ v ∈ Z.coming, In40 v) (cz : Z.coming.length ≤ 1000) (ks : ∀ k ∈ Z.keeps, k.2.length ≤ 1000) (kz : Z.keeps.length ≤ 1000) (bz : Z.beg.length ≤ 1000) : Z.Ok := ⟨r, led, n0, n1, co, cz, ks, kz, bz, I.hm, I.hz⟩
end
end Dn

/-! rows that work on given names -/
namespace Dn
open PySem PySem.Spec PyProof.Rows L2
def PRow.In (cn sn : List Str) : PRow → Prop
  | .say a => a.Ok
  | .copy _ a => a.Ok
  | .op _ s a b => isSign s ∧ a.Ok ∧ b.Ok
  | .load _ c => c ∈ cn
  | .store c a => c ∈ cn ∧ a.Ok
  | .take _ s a => s ∈ sn ∧ a.Ok
  | .lay s a b => s ∈ sn ∧ a.Ok ∧ b.Ok
  | .hear _ => True
  | .ifr a _ => a.Ok
  | .go _ => True
  | .endr a => a.Ok
section
variable {Z : Hst}
theorem Hst.In.row (I : Z.In) {r : PRow} (h : r.In (Z.cells.map (·.1)) (Z.shelves.map (·.1))) : Z.RowOk r := by
  have cl : ∀ {c : Str}, c ∈ Z.cells.map (·.1) → Z.CellOk c := fun {c} hc => by
    obtain ⟨x, hx, rfl⟩ := List.mem_map.mp hc
    exact I.cell hx
  have sl : ∀ {c : Str}, c ∈ Z.shelves.map (·.1) → Z.ShelfOk c := fun {c} hc => by
    obtain ⟨x, hx, rfl⟩ := List.mem_map.mp hc
    exact I.shelf hx
  cases r with
  | say a => exact h
  | copy x a => exact h
  | op x s a b => exact h
  | load x c => exact cl h
  | store c a => exact ⟨cl h.1, h.2⟩
  | take x s a => exact ⟨sl h.1, h.2⟩
  | lay s a b => exact ⟨sl h.1, h.2⟩
  | hear x => exact trivial
  | ifr a n => exact h
  | go n => exact trivial
  | endr a => exact h
end
theorem PRow.In.ok {cn sn : List Str} {ck sk : List Key} (hc : ∀ c ∈ cn, hasK ck (.inr c) = true) (hs : ∀ s ∈ sn, hasK sk (.inr s) = true) {r : PRow} (h : r.In cn sn) : r.Ok ck sk := by
  cases r with
  | say a => exact h
  | copy x a => exact h
  | op x s a b => exact h
  | load x c => exact hc _ h
  | store c a => exact ⟨hc _ h.1, h.2⟩
  | take x s a => exact ⟨hs _ h.1, h.2⟩
  | lay s a b => exact ⟨hs _ h.1, h.2⟩
  | hear x => exact trivial
  | ifr a n => exact h
  | go n => exact trivial
  | endr a => exact h
/-- where a row leads, within -/
def PRow.Led (many : Nat) : PRow → Prop
  | .ifr _ n => n < many
  | .go n => n < many
  | _ => True
theorem PRow.Led.led {many i : Nat} {r : PRow} (h : r.Led many) (hi : isEnd r = false → i + 1 < many) : ∀ t ∈ r.led i, t < many := fun t ht => by
  cases r with
  | ifr a n =>
    have ht : t ∈ [n, i + 1] := ht
    simp only [List.mem_cons, List.not_mem_nil, or_false] at ht
    rcases ht with q | q
    · rw [q]; exact h
    · rw [q]; exact hi rfl
  | go n => rw [List.mem_singleton.mp (show t ∈ [n] from ht)]; exact h
  | endr a => cases ht
  | _ => rw [List.mem_singleton.mp ht]; exact hi rfl
end Dn

/-! a def with defaults -/
namespace Dn
open PySem PySem.Spec PyProof.Rows L2
theorem FnC.ofD {P : Program} {w : World} {K : PySem.W.Frag} {mg : Str → Option Value} {base : Heap} {a : Addr} {fd : FuncData} {x qual : Str} {params : Arguments} {body : List Stmt} {scope : Scope} {dvs : List V} {k : Nat} {ps : List Str} {f : PL}
    (F : FunD K x qual params body scope dvs [] a fd) (hm : mg x = some (.ref a)) (h : FnOk P w K mg base CX0 k a fd ps (spS K ps.length f)) (n j : Nat) (hd : dvs ≠ []) (hn : n + (dvs.length - j) = ps.length)
    (hb : ∀ (T : Addr) (kV doc pm : Value) (an : Option Addr) (cdv ct : Value) (us its : List Value), us.length = n → its.length = dvs.length →
      ∃ k, bindArgs (PySem.W.fnOf x qual params body scope (.ref T) kV doc pm an cdv ct) ⟨us, []⟩ = seqItems? (.ref T) >>= k ∧ k (some its.toArray) = pure (ps.zip (us ++ its.drop j))) : FnC P w K mg base x k ps (dvs.drop j) f := by
  obtain ⟨ds, hv, B⟩ := F.binds1 n j hd hn hb
  exact ⟨a, fd, ds, hm, h, F.kp, B, hv⟩
end Dn

/-! equal data; a house driven; the names on its pages -/
namespace Dn
open PySem PySem.Spec PyProof.Rows L2
theorem goodL_of {ds : List DV} (h : ∀ d ∈ ds, good d = true) : goodL ds = true := by
  induction ds with
  | nil => rfl
  | cons d ds ih =>
    show (good d && goodL ds) = true
    rw [h d List.mem_cons_self, ih fun x hx => h x (List.mem_cons_of_mem _ hx)]
    rfl
theorem deepL_of {ds : List DV} {n : Nat} (h : ∀ d ∈ ds, deep d ≤ n) : deepL ds ≤ n := by
  induction ds with
  | nil => exact Nat.zero_le _
  | cons d ds ih =>
    have h1 := h d List.mem_cons_self
    have h2 := ih fun x hx => h x (List.mem_cons_of_mem _ hx)
    show max (deep d) (deepL ds) ≤ n
    omega
theorem goodL_map {α : Type} {f : α → DV} {l : List α} (h : ∀ a ∈ l, good (f a) = true) : goodL (l.map f) = true := goodL_of fun d hd => by
  obtain ⟨a, ha, rfl⟩ := List.mem_map.mp hd
  exact h a ha
theorem deepL_map {α : Type} {f : α → DV} {l : List α} {n : Nat} (h : ∀ a ∈ l, deep (f a) ≤ n) : deepL (l.map f) ≤ n := deepL_of fun d hd => by
  obtain ⟨a, ha, rfl⟩ := List.mem_map.mp hd
  exact h a ha
theorem plainL_map {α : Type} {f : α → DV} {l : List α} (h : ∀ a ∈ l, plain (f a) = true) : plainL (l.map f) = true := plainL_iff.mpr fun d hd => by
  obtain ⟨a, ha, rfl⟩ := List.mem_map.mp hd
  exact h a ha
/-- equal data -/
theorem eqq {S : Sto} {x y : DV} {d : DV} (hx : cpD true S x = some d) (hy : cpD true S y = some d) (hg : good d = true) (hd : deep d ≤ 64) (hs : scD x y = none) (neg : Bool) : pEq neg x y S = some (.bl (!neg), S) := by
  obtain ⟨p, h1, h2, h3⟩ := toPy_good hg
  have e := eqDeep_same (S := S) hx hy h1 h1 h2 (by omega)
  unfold pEq eqD
  rw [hs]
  simp only [e]
  cases neg <;> rfl
theorem eqqP {S : Sto} {d : DV} (hp : plain d = true) (hg : good d = true) (hd : deep d ≤ 64) (hs : scD d d = none) (neg : Bool) : pEq neg d d S = some (.bl (!neg), S) := eqq (cpD_plain hp) (cpD_plain hp) hg hd hs neg
theorem eq_int {S : Sto} {i : Int} (neg : Bool) : pEq neg (.int i) (.int i) S = some (.bl (!neg), S) := by
  cases neg with
  | false => rw [v_eqI, decide_eq_true rfl]; rfl
  | true => rw [v_neI, decide_eq_true rfl]
theorem eq_opt {S : Sto} {i : Option Int} (neg : Bool) : pEq neg (optI i) (optI i) S = some (.bl (!neg), S) := by
  cases i with
  | some i => exact eq_int neg
  | none => cases neg <;> rfl
/-! ### so many steps -/
section
variable (Z : Hst)
def handA : Nat → Hs → Hs × Nat
  | 0, h => (h, 0)
  | n + 1, h => ((handA n (h.step Z)).1, (handA n (h.step Z)).2 + if h.ph.isRest = true then 0 else 1)
/-- a house driven: failings, steps that are left -/
def drv : List (Nat × Int) → Nat → Hs → Hs × Nat
  | [], left, h => handA Z left h
  | q :: l, left, h => if left < q.1 then handA Z (min q.1 left) h else ((drv l (left - q.1) ((handA Z (min q.1 left) h).1.fail q.2)).1, (handA Z (min q.1 left) h).2 + (drv l (left - q.1) ((handA Z (min q.1 left) h).1.fail q.2)).2)
end
section
variable {Z : Hst} {N : Nat} {h : Hs}
theorem rest_of {p : Ph} (h : p.isRest = true) : p = .rest := by cases p <;> first | rfl | cases h
theorem handA_rest (hr : h.ph.isRest = true) : ∀ n, handA Z n h = (h, 0)
  | 0 => rfl
  | n + 1 => by
    have e : h.step Z = h := step_rest (rest_of hr)
    show ((handA Z n (h.step Z)).1, (handA Z n (h.step Z)).2 + if h.ph.isRest = true then 0 else 1) = _
    rw [e, handA_rest hr n, if_pos hr]
theorem handA_len : ∀ n (h : Hs), (handA Z n h).2 ≤ n
  | 0, h => Nat.le_refl _
  | n + 1, h => by
    have := handA_len n (h.step Z)
    show (handA Z n (h.step Z)).2 + (if h.ph.isRest = true then 0 else 1) ≤ n + 1
    split <;> omega
theorem handA_ok (K : Z.Ok) : ∀ (n : Nat) {N : Nat} {h : Hs}, h.Ok Z N → (handA Z n h).1.Ok Z (N + n)
  | 0, N, h, O => O
  | n + 1, N, h, O => by
    have := handA_ok K n (O.step K)
    rw [show N + (n + 1) = N + 1 + n by omega]
    exact this
theorem handA_sy : ∀ (n : Nat) {h : Hs}, h.Sy → (handA Z n h).1.Sy
  | 0, h, Y => Y
  | n + 1, h, Y => handA_sy n (Y.step)
theorem drv_ok (K : Z.Ok) : ∀ (l : List (Nat × Int)) (left : Nat) {N : Nat} {h : Hs}, h.Ok Z N → (∀ q ∈ l, In40 q.2) → (drv Z l left h).1.Ok Z (N + left)
  | [], left, N, h, O, _ => handA_ok K left O
  | q :: l, left, N, h, O, hq => by
    unfold drv
    by_cases c : left < q.1
    · rw [if_pos c]
      exact (handA_ok K (min q.1 left) O).mono (by omega)
    · rw [if_neg c]
      have := drv_ok K l (left - q.1) ((handA_ok K (min q.1 left) O).fail (hq q List.mem_cons_self)) fun x hx => hq x (List.mem_cons_of_mem _ hx)
      exact this.mono (by omega)
theorem drv_sy : ∀ (l : List (Nat × Int)) (left : Nat) {h : Hs}, h.Sy → (drv Z l left h).1.Sy
  | [], left, h, Y => handA_sy left Y
  | q :: l, left, h, Y => by
    unfold drv
    by_cases c : left < q.1
    · rw [if_pos c]
      exact handA_sy _ Y
    · rw [if_neg c]
      exact drv_sy l _ ((handA_sy _ Y).fail _)
/-! ### the names on the pages -/
structure Hs.Hn (P : Str → Prop) (h : Hs) : Prop where
  p0 : ∀ q ∈ h.p0.held, P q.1
  p1 : ∀ q ∈ h.p1.held, P q.1
  ph : ∀ r l k, h.ph = .keep r l k → ∀ x v, Dd.box x v ∈ l → P x
variable {P : Str → Prop}
theorem Hs.Hn.keep (Y : h.Hn P) {h' : Hs} (a : h'.p0 = h.p0) (b : h'.p1 = h.p1) (c : ∀ r l k, h'.ph = .keep r l k → ∀ x v, Dd.box x v ∈ l → P x) : h'.Hn P := ⟨by rw [a]; exact Y.p0, by rw [b]; exact Y.p1, c⟩
theorem row_pages (r : PRow) : (h.row Z r).p0 = h.p0 ∧ (h.row Z r).p1 = h.p1 := by
  have w : ∀ p v, (h.written Z p v).p0 = h.p0 ∧ (h.written Z p v).p1 = h.p1 := fun p v => by
    unfold Hs.written
    split <;> exact ⟨rfl, rfl⟩
  cases r with
  | say a =>
    show (h.say _).p0 = _ ∧ (h.say _).p1 = _
    unfold Hs.say
    split <;> exact ⟨rfl, rfl⟩
  | store c a => exact w _ _
  | lay s a b => exact w _ _
  | _ => exact ⟨rfl, rfl⟩
theorem Hs.Hn.setBack (Y : h.Hn P) {p : Pg} (hp : ∀ q ∈ p.held, P q.1) : (h.setBack p).Hn P := by
  unfold Hs.setBack
  split
  · exact ⟨hp, Y.p1, Y.ph⟩
  · exact ⟨Y.p0, hp, Y.ph⟩
theorem Hs.Hn.page (Y : h.Hn P) (b : Bool) : ∀ q ∈ (h.page b).held, P q.1 := by
  cases b
  · exact Y.p0
  · exact Y.p1
theorem Hs.Hn.deed (Y : h.Hn P) {d : Dd} (hd : ∀ x v, d = .box x v → P x) : (h.deed d).Hn P := by
  cases d with
  | page r => exact Y.setBack (fun q hq => nomatch hq)
  | box x v => exact Y.setBack (p := { h.back with held := h.back.held ++ [(x, v)] }) fun q hq => (List.mem_append.mp hq).elim (Y.page (!h.front) q) fun e => by rw [List.mem_singleton.mp e]; exact hd x v rfl
  | turn p v => exact Y.setBack (p := { h.back with turned := h.back.turned ++ [(p, v)] }) (Y.page (!h.front))
  | face => exact Y.keep rfl rfl Y.ph
  | home p v => exact Y.keep rfl rfl Y.ph
theorem Hs.Hn.step (Y : h.Hn P) (K : Z.Ok) (hk : ∀ k ∈ Z.keeps, ∀ x ∈ k.2, P x) : (h.step Z).Hn P := by
  unfold Hs.step
  split
  · exact Y
  · split
    · exact Y.keep rfl rfl (fun r l k e => nomatch e)
    · exact Y.keep rfl rfl (fun r l k e => nomatch e)
  · split
    · exact Y
    · rename_i i _ r hr
      obtain ⟨a, b⟩ := row_pages (Z := Z) (h := { h with done := h.done + 1 }) r
      split
      · exact Y.keep a b (fun r l k e => nomatch e)
      · unfold Hs.come
        split
        · exact Y.keep a b (fun r l k e => nomatch e)
        · rename_i bs e
          refine Y.keep a b fun r' l k e2 x v hx => ?_
          injection e2 with e3 e4 e5
          rw [← e4] at hx
          unfold Hs.small at hx
          have hb := hk _ (keepsL_mem K e)
          simp only [List.mem_append, List.mem_cons, List.mem_map, List.not_mem_nil, or_false, reduceCtorEq, false_or, and_false, exists_false] at hx
          obtain ⟨y, hy, ey⟩ := hx
          cases ey
          exact hb _ hy
  · rename_i r l k hp
    split
    · exact Y
    · rename_i d hd
      have D := Y.deed (d := d) fun x v e => Y.ph r l k hp x v (by rw [← e]; exact List.mem_of_getElem? hd)
      split
      · refine D.keep rfl rfl fun r' l' k' e => ?_
        injection e with e1 e2 e3
        rw [← e2]
        exact Y.ph r l k hp
      · exact D.keep rfl rfl (fun r l k e => nomatch e)
theorem Hs.Hn.fail (Y : h.Hn P) (d : Int) : (h.fail d).Hn P := by
  unfold Hs.fail
  split
  · exact Y
  · exact Y.keep rfl rfl (fun r l k e => nomatch e)
theorem init_hn (hb : ∀ x ∈ Z.beg, P x) : Z.init.Hn P := by
  refine ⟨fun q hq => ?_, (fun q hq => ?_), (fun r l k e => nomatch e)⟩
  · obtain ⟨x, hx, rfl⟩ := List.mem_map.mp (show q ∈ Z.beg.map fun x => (x, (0 : Int)) from hq)
    exact hb x hx
  · exact nomatch (show q ∈ ([] : List Str).map fun x => (x, (0 : Int)) from hq)
theorem handA_hn (K : Z.Ok) (hk : ∀ k ∈ Z.keeps, ∀ x ∈ k.2, P x) : ∀ (n : Nat) {h : Hs}, h.Hn P → (handA Z n h).1.Hn P
  | 0, h, Y => Y
  | n + 1, h, Y => handA_hn K hk n (Y.step K hk)
theorem drv_hn (K : Z.Ok) (hk : ∀ k ∈ Z.keeps, ∀ x ∈ k.2, P x) : ∀ (l : List (Nat × Int)) (left : Nat) {h : Hs}, h.Hn P → (drv Z l left h).1.Hn P
  | [], left, h, Y => handA_hn K hk left Y
  | q :: l, left, h, Y => by
    unfold drv
    by_cases c : left < q.1
    · rw [if_pos c]
      exact handA_hn K hk _ Y
    · rw [if_neg c]
      exact drv_hn K hk l _ ((handA_hn K hk _ Y).fail _)
end
end Dn

/-! the plain machine of a program in order; what is seen of it -/
namespace Dn
open PySem PySem.Spec PyProof.Rows L2
section
variable {κ α : Type} [DecidableEq κ] {k j : κ} {v : α}
theorem pn_none : ∀ {a : List κ} {c : List α}, hasK a k = false → a.length = c.length → rpG k v a c = c
  | [], [], _, _ => rfl
  | [], _ :: _, _, h => by cases h
  | _ :: _, [], _, h => by cases h
  | x :: a, y :: c, h, hl => by
    unfold hasK at h
    rw [List.any_cons, Bool.or_eq_false_iff] at h
    show (if x = k then v else y) :: rpG k v a c = y :: c
    rw [if_neg (by simpa using h.1), pn_none (show hasK a k = false from h.2) (Nat.succ.inj hl)]
theorem pn_rp : ∀ {a : List κ} {c : List α}, hasK a k = true → a.length = c.length → lkG a (rpG k v a c) j = if k = j then some v else lkG a c j
  | [], _, h, _ => by cases h
  | _ :: _, [], _, hl => by cases hl
  | x :: a, y :: c, h, hl => by
    show (if x = j then some (if x = k then v else y) else lkG a (rpG k v a c) j) = if k = j then some v else (if x = j then some y else lkG a c j)
    by_cases q : x = k
    · by_cases q2 : x = j
      · rw [if_pos q2, if_pos q, if_pos (q.symm.trans q2)]
      · rw [if_neg q2, if_neg fun e => q2 (q.trans e), if_neg q2]
        by_cases q3 : hasK a k = true
        · rw [pn_rp q3 (Nat.succ.inj hl), if_neg fun e => q2 (q.trans e)]
        · rw [pn_none (by simpa using q3) (Nat.succ.inj hl)]
    · have h2 : hasK a k = true := by
        unfold hasK at h
        rw [List.any_cons, decide_eq_false q, Bool.false_or] at h
        exact h
      rw [pn_rp h2 (Nat.succ.inj hl)]
      by_cases q2 : x = j
      · rw [if_pos q2, if_neg q, if_neg (fun e => q (q2.trans e.symm)), if_pos q2]
      · rw [if_neg q2, if_neg q2]
end
/-! ### where it starts, what stays -/
def shN (l : List Thing) : List (Str × Nat × Bool) := l.map fun c => (c.1, c.2.1.toNat, c.2.2)
def Hst.pst (Z : Hst) : PSt := ⟨0, 0, 0, none, [], [], Z.cells.map fun c => .inr c.1, Z.cells.map fun c => c.2.1, Z.shelves.map fun c => .inr c.1, Z.shelves.map fun c => List.replicate c.2.1.toNat 0, []⟩
structure Hst.Pl (Z : Hst) (st : PSt) (n : Nat) : Prop where
  ok : st.Ok
  ck : st.ck = Z.cells.map fun c => .inr c.1
  sk : st.sk = Z.shelves.map fun c => .inr c.1
  at_ : st.at_ < Z.rows.length
  dn : st.done ≤ n
  sz : ∀ c ∈ Z.shelves, (st.shelf c.1).length = c.2.1.toNat
/-- rows in order -/
structure Hst.Rs (Z : Hst) : Prop where
  i : Z.In
  r : ∀ r ∈ Z.rows, r.In (Z.cells.map (·.1)) (Z.shelves.map (·.1))
  led : ∀ (i : Nat) (r : PRow), Z.rows[i]? = some r → ∀ t ∈ r.led i, t < Z.rows.length
  n0 : 0 < Z.rows.length
  n1 : Z.rows.length ≤ 1000
  co : ∀ v ∈ Z.coming, In40 v
section
variable {Z : Hst} {st : PSt} {n : Nat}
theorem hasK_str {l : List Thing} {s : Str} (h : s ∈ l.map (·.1)) : hasK (l.map fun c => (Sum.inr c.1 : Key)) (.inr s) = true := by
  obtain ⟨c, hc, rfl⟩ := List.mem_map.mp h
  exact List.any_eq_true.mpr ⟨.inr c.1, List.mem_map.mpr ⟨c, hc, rfl⟩, decide_eq_true rfl⟩
theorem lk_first {α : Type} {f : Thing → α} : ∀ {l : List Thing}, (l.map (·.1)).Nodup → ∀ c ∈ l, lkG (l.map fun c => (Sum.inr c.1 : Key)) (l.map f) (.inr c.1) = some (f c)
  | [], _, c, h => nomatch h
  | d :: l, hn, c, h => by
    rw [List.map_cons, List.nodup_cons] at hn
    show (if (Sum.inr d.1 : Key) = .inr c.1 then some (f d) else lkG (l.map fun c => (Sum.inr c.1 : Key)) (l.map f) (.inr c.1)) = some (f c)
    rcases List.mem_cons.mp h with e | h
    · subst e; rw [if_pos rfl]
    · rw [if_neg (fun e => hn.1 (by rw [Sum.inr.inj e]; exact List.mem_map_of_mem h))]
      exact lk_first hn.2 c h
theorem pst_pl (R : Z.Rs) : Z.Pl Z.pst 0 := by
  refine ⟨⟨rfl, (fun v hv => nomatch hv), by show (Z.cells.map _).length = (Z.cells.map _).length; rw [List.length_map, List.length_map], fun v hv => ?_, by show (Z.shelves.map _).length = (Z.shelves.map _).length; rw [List.length_map, List.length_map], fun l hl => ?_, Nat.le_refl _, Nat.le_refl _⟩, rfl, rfl, R.n0, Nat.le_refl _, fun c hc => ?_⟩
  · obtain ⟨c, hc, rfl⟩ := List.mem_map.mp (show v ∈ Z.cells.map fun c => c.2.1 from hv)
    exact R.i.cv c hc
  · obtain ⟨c, hc, rfl⟩ := List.mem_map.mp (show l ∈ Z.shelves.map fun c => List.replicate c.2.1.toNat (0 : Int) from hl)
    have := R.i.sv c hc
    refine ⟨fun e => ?_, by rw [List.length_replicate]; omega, fun v hv => by rw [(List.mem_replicate.mp hv).2]; exact in0⟩
    have := congrArg List.length e
    rw [List.length_replicate, List.length_nil] at this
    omega
  · unfold PSt.shelf Hst.pst
    rw [lk_first (f := fun c => List.replicate c.2.1.toNat (0 : Int)) R.i.nds.1 c hc]
    exact List.length_replicate
theorem Hst.Pl.rok (P : Z.Pl st n) (R : Z.Rs) : ∀ r ∈ Z.rows, r.Ok st.ck st.sk := fun r hr => by
  rw [P.ck, P.sk]
  exact (R.r r hr).ok (fun c hc => hasK_str hc) fun s hs => hasK_str hs
theorem pnext_led {st : PSt} {r : PRow} (he : isEnd r = false) : st.next r ∈ r.led st.at_ := by
  cases r with
  | ifr a n =>
    show (if st.worth a = 0 then st.at_ + 1 else n) ∈ [n, st.at_ + 1]
    split
    · exact List.mem_cons_of_mem _ List.mem_cons_self
    · exact List.mem_cons_self
  | endr a => cases he
  | _ => exact List.mem_cons_self
theorem shelf_lay {s s' : Str} {l : List Int} (O : st.Ok) (h : hasK st.sk (.inr s) = true) : PSt.shelf { st with sv := rpG (.inr s) l st.sk st.sv } s' = if s = s' then l else st.shelf s' := by
  unfold PSt.shelf
  show (lkG st.sk (rpG (.inr s) l st.sk st.sv) (.inr s')).getD [0] = _
  rw [pn_rp h O.sl]
  by_cases q : s = s'
  · rw [if_pos (by rw [q]), if_pos q]; rfl
  · rw [if_neg (fun e => q (Sum.inr.inj e)), if_neg q]
theorem Hst.Pl.step (P : Z.Pl st n) (R : Z.Rs) : Z.Pl (st.step Z.rows Z.coming) (n + 1) := by
  obtain ⟨o1, o2, o3⟩ := P.ok.step (rows := Z.rows) (coming := Z.coming) R.co (P.rok R)
  have dn := P.dn
  refine ⟨o1, o2.trans P.ck, o3.trans P.sk, ?_, ?_, fun c hc => ?_⟩
  · unfold PSt.step
    cases e : st.res with
    | some v => exact P.at_
    | none =>
      cases e2 : Z.rows[st.at_]? with
      | none => exact P.at_
      | some r =>
        show st.next r < Z.rows.length
        cases q : isEnd r with
        | true =>
          cases r with
          | endr a => exact P.at_
          | _ => cases q
        | false => exact R.led _ _ e2 _ (pnext_led q)
  · unfold PSt.step
    cases e : st.res with
    | some v => show st.done ≤ n + 1; omega
    | none =>
      cases e2 : Z.rows[st.at_]? with
      | none => show st.done ≤ n + 1; omega
      | some r => show st.done + 1 ≤ n + 1; omega
  · have old := P.sz c hc
    unfold PSt.step
    cases e : st.res with
    | some v => exact old
    | none =>
      cases e2 : Z.rows[st.at_]? with
      | none => exact old
      | some r =>
        have hr := P.rok R r (List.mem_of_getElem? e2)
        show ((PSt.does Z.coming st r).shelf c.1).length = _
        cases r with
        | lay s a b =>
          show (PSt.shelf { st with sv := rpG (.inr s) ((st.shelf s).set (placeN (st.shelf s) (st.worth a)) (st.worth b)) st.sk st.sv } c.1).length = _
          rw [shelf_lay P.ok hr.1]
          by_cases q : s = c.1
          · rw [if_pos q, List.length_set, q]; exact old
          · rw [if_neg q]; exact old
        | _ => exact old
end
end Dn

namespace Lk76
open PySem PySem.Spec PyProof.Rows L2 Dn
def top (i : Nat) : Stmt := PySem.Challenge.pw_dimhouse_k76_driven.main.body.getD i (.Pass ⟨0, 0, 0, 0⟩)
abbrev s_ways_of : Stmt := top 2
abbrev s_ways : Stmt := top 3
abbrev s_value : Stmt := top 4
abbrev s_Hand_init : Stmt := inClass (top 6) 0
abbrev s_Hand_take : Stmt := inClass (top 6) 1
abbrev s_Hand_kept : Stmt := inClass (top 6) 2
abbrev s_Hand_torn : Stmt := inClass (top 6) 3
abbrev s_Phase_at_row : Stmt := inClass (top 8) 0
abbrev s_Phase_goes : Stmt := inClass (top 8) 1
abbrev s_Up_init : Stmt := inClass (top 10) 0
abbrev s_Up_goes : Stmt := inClass (top 10) 1
abbrev s_Going_init : Stmt := inClass (top 11) 0
abbrev s_Going_at_row : Stmt := inClass (top 11) 1
abbrev s_Going_goes : Stmt := inClass (top 11) 2
abbrev s_Keeping_init : Stmt := inClass (top 12) 0
abbrev s_Keeping_goes : Stmt := inClass (top 12) 1
abbrev s_Page_init : Stmt := inClass (top 14) 0
abbrev s_Store_init : Stmt := inClass (top 15) 0
abbrev s_Store_cell : Stmt := inClass (top 15) 1
abbrev s_Store_shelf : Stmt := inClass (top 15) 2
abbrev s_Store_get_home : Stmt := inClass (top 15) 3
abbrev s_Store_put : Stmt := inClass (top 15) 4
abbrev s_Store_face : Stmt := inClass (top 15) 5
abbrev s_Store_page : Stmt := inClass (top 15) 6
abbrev s_Store_begin_page : Stmt := inClass (top 15) 7
abbrev s_Store_keep_box : Stmt := inClass (top 15) 8
abbrev s_Store_keep_turn : Stmt := inClass (top 15) 9
abbrev s_Store_turn : Stmt := inClass (top 15) 10
abbrev s_Store_answer : Stmt := inClass (top 15) 11
abbrev s_Store_give : Stmt := inClass (top 15) 12
abbrev s_twins_of : Stmt := top 17
abbrev s_House_init : Stmt := inClass (top 18) 0
abbrev s_House_lose : Stmt := inClass (top 18) 1
abbrev s_House_fail : Stmt := inClass (top 18) 2
abbrev s_House_step : Stmt := inClass (top 18) 3
abbrev s_House_rests : Stmt := inClass (top 18) 4
abbrev s_House_stands : Stmt := inClass (top 18) 5
abbrev s_House_answer : Stmt := inClass (top 18) 6
abbrev s_House_cell : Stmt := inClass (top 18) 7
abbrev s_House_shelf : Stmt := inClass (top 18) 8
abbrev s_House_letters : Stmt := inClass (top 18) 9
abbrev s_House_torn : Stmt := inClass (top 18) 10
abbrev s_House_face : Stmt := inClass (top 18) 11
abbrev s_House_page : Stmt := inClass (top 18) 12
abbrev s_House_box : Stmt := inClass (top 18) 13
abbrev s_House_count : Stmt := inClass (top 18) 14
abbrev s_House_come_up : Stmt := inClass (top 18) 15
abbrev s_House_boxes_kept : Stmt := inClass (top 18) 16
abbrev s_House_small_steps : Stmt := inClass (top 18) 17
abbrev s_House_small_step : Stmt := inClass (top 18) 18
abbrev s_House_settle : Stmt := inClass (top 18) 19
abbrev s_House_forget_log : Stmt := inClass (top 18) 20
abbrev s_House_worth : Stmt := inClass (top 18) 21
abbrev s_House_place_of : Stmt := inClass (top 18) 22
abbrev s_House_seen : Stmt := inClass (top 18) 23
abbrev s_House_written : Stmt := inClass (top 18) 24
abbrev s_House_do_row : Stmt := inClass (top 18) 25
abbrev s_House_brought : Stmt := inClass (top 18) 26
abbrev s_stepped : Stmt := top 19
abbrev s_drive : Stmt := top 20
abbrev s_Plain_init : Stmt := inClass (top 22) 0
abbrev s_Plain_worth : Stmt := inClass (top 22) 1
abbrev s_Plain_ended : Stmt := inClass (top 22) 3
abbrev s_Plain_step : Stmt := inClass (top 22) 11
abbrev s_Plain_put_out : Stmt := inClass (top 22) 12
abbrev s_Plain_brought : Stmt := inClass (top 22) 13
abbrev s_law_cell_at : Stmt := top 24
abbrev s_law_stream : Stmt := top 25
abbrev s_law_names : Stmt := top 26
abbrev s_law_value_by : Stmt := top 27
abbrev s_law_atom : Stmt := top 28
abbrev s_law_world : Stmt := top 29
abbrev s_law_led : Stmt := top 30
abbrev s_law_row : Stmt := top 31
abbrev s_law_program : Stmt := top 32
abbrev s_law_some : Stmt := top 33
abbrev s_law_cutting : Stmt := top 34
abbrev s_law_failings : Stmt := top 35
abbrev s_law_by_hand : Stmt := top 36
abbrev s_law_same : Stmt := top 37
abbrev s_law_whole : Stmt := top 38
abbrev s_law_ends : Stmt := top 39
abbrev s_law : Stmt := top 40
def AT : ATab := (("Hand" : Str), ("by_number" : Str)) :: (("Hand" : Str), ("rent" : Str)) :: (("Up" : Str), ("passed" : Str)) :: (("Going" : Str), ("line" : Str)) :: (("Keeping" : Str), ("line" : Str)) :: (("Keeping" : Str), ("steps" : Str)) :: (("Keeping" : Str), ("passed" : Str)) :: (("Page" : Str), ("head" : Str)) :: (("Page" : Str), ("held" : Str)) :: (("Page" : Str), ("turned" : Str)) :: (("Store" : Str), ("home" : Str)) :: (("Store" : Str), ("sizes" : Str)) :: (("Store" : Str), ("pages" : Str)) :: (("Store" : Str), ("front" : Str)) :: (("Store" : Str), ("final" : Str)) :: (("House" : Str), ("program" : Str)) :: (("House" : Str), ("leads" : Str)) :: (("House" : Str), ("keeps" : Str)) :: (("House" : Str), ("coming" : Str)) :: (("House" : Str), ("stays" : Str)) :: (("House" : Str), ("hand" : Str)) :: (("House" : Str), ("twins" : Str)) :: (("House" : Str), ("sizes" : Str)) :: (("House" : Str), ("dust" : Str)) :: (("House" : Str), ("held" : Str)) :: (("House" : Str), ("log" : Str)) :: (("House" : Str), ("done" : Str)) :: (("House" : Str), ("hears" : Str)) :: (("House" : Str), ("says" : Str)) :: (("House" : Str), ("phase" : Str)) :: (("Plain" : Str), ("rows" : Str)) :: (("Plain" : Str), ("leads" : Str)) :: (("Plain" : Str), ("coming" : Str)) :: (("Plain" : Str), ("at" : Str)) :: (("Plain" : Str), ("held" : Str)) :: (("Plain" : Str), ("cells" : Str)) :: (("Plain" : Str), ("places" : Str)) :: (("Plain" : Str), ("gone" : Str)) :: (("Plain" : Str), ("hears" : Str)) :: (("Plain" : Str), ("done" : Str)) :: (("Plain" : Str), ("result" : Str)) :: []
def IT : ITab := [("Phase", "Resting", false), ("Resting", "Resting", true), ("Up", "Resting", false), ("Going", "Resting", false), ("Keeping", "Resting", false), ("Phase", "Going", false), ("Resting", "Going", false), ("Up", "Going", false), ("Going", "Going", true), ("Keeping", "Going", false)]
def b_ways_of : DS := (dSeq (dIfS (dBin (pEq false) (dBin pIx (dVar 0) (dC (.int 0))) (dC (.str "end"))) (dRet (dPrim pTup aNil)) dNext)
  (dSeq (dIfS (dBin (pEq false) (dBin pIx (dVar 0) (dC (.int 0))) (dC (.str "go"))) (dRet (dPrim pTup (aCons (dBin pIx (dVar 0) (dC (.int 1))) aNil))) dNext)
  (dSeq (dIfS (dBin (pEq false) (dBin pIx (dVar 0) (dC (.int 0))) (dC (.str "if"))) (dRet (dPrim pTup (aCons (dBin pIx (dVar 0) (dC (.int 2))) (aCons (dBin pAdd (dVar 1) (dC (.int 1))) aNil)))) dNext)
  (dRet (dPrim pTup (aCons (dBin pAdd (dVar 1) (dC (.int 1))) aNil))))))
def F_ways_of : PL := runF 2 2 b_ways_of
def b_ways : DS := (dRet (dLcM (iEnum2 (aCons (dBin pIx (dVar 0) (dC (.int 2))) aNil)) (gTupD 2 (gsCons (gSet 1) (gsCons (gSet 2) gsNil))) (dC (.bl true)) (dPrim (cP (pureOf F_ways_of) []) (aCons (dVar 2) (aCons (dVar 1) aNil))) [1, 2]))
def F_ways : PL := runF 1 3 b_ways
def b_value : DS := (dSeq (dIfS (dBin (pEq false) (dVar 0) (dC (.str "+"))) (dRet (dBin pMod (dBin pAdd (dVar 1) (dVar 2)) (dC (.int 1099511627776)))) dNext)
  (dSeq (dIfS (dBin (pEq false) (dVar 0) (dC (.str "-"))) (dRet (dBin pMod (dBin pSub (dVar 1) (dVar 2)) (dC (.int 1099511627776)))) dNext)
  (dSeq (dIfS (dBin (pEq false) (dVar 0) (dC (.str "*"))) (dRet (dBin pMod (dBin pMul (dVar 1) (dVar 2)) (dC (.int 1099511627776)))) dNext)
  (dSeq (dIfS (dBin (pEq false) (dVar 0) (dC (.str "<"))) (dRet (dPrim pInt (aCons (dBin pLt (dVar 1) (dVar 2)) aNil))) dNext)
  (dSeq (dIfS (dBin (pEq false) (dVar 0) (dC (.str "="))) (dRet (dPrim pInt (aCons (dBin (pEq false) (dVar 1) (dVar 2)) aNil))) dNext)
  (dSeq (dIfS (dBin (pEq false) (dVar 0) (dC (.str "&"))) (dRet (dBin pAnd (dVar 1) (dVar 2))) dNext)
  (dSeq (dIfS (dBin (pEq false) (dVar 0) (dC (.str "|"))) (dRet (dBin pOr (dVar 1) (dVar 2))) dNext)
  (dRet (dBin pXor (dVar 1) (dVar 2))))))))))
def F_value : PL := runF 3 3 b_value
def b_Hand_init : DS := (dSeq (dSetF AT "by_number" (fun _ S => some (.loc S.length, S ++ [.dik [] []])) (dVar 0))
  (dSetF AT "rent" (dC (.bl false)) (dVar 0)))
def F_Hand_init : PL := runF 1 1 b_Hand_init
def b_Hand_take : DS := (dIfS (dBin (pIn true) (dVar 1) (dFld AT "by_number" (dVar 0))) (dSub (dVar 2) (dFld AT "by_number" (dVar 0)) (dVar 1)) (dIfS (dBin (pEq true) (dBin pIx (dFld AT "by_number" (dVar 0)) (dVar 1)) (dVar 2)) (dSetF AT "rent" (dC (.bl true)) (dVar 0)) dNext))
def F_Hand_take : PL := runF 3 3 b_Hand_take
def b_Hand_kept : DS := (dSeq (dSet 1 (dPrim pLstM aNil))
  (dSeq (whileL (dBin (pIn false) (dPrim pLen (aCons (dVar 1) aNil)) (dFld AT "by_number" (dVar 0))) (dExpr (dMt pAppend (dVar 1) (aCons (dBin pIx (dFld AT "by_number" (dVar 0)) (dPrim pLen (aCons (dVar 1) aNil))) aNil))) 100000)
  (dRet (dVar 1))))
def F_Hand_kept : PL := runF 1 2 b_Hand_kept
def b_Hand_torn : DS := (dRet (dFld AT "rent" (dVar 0)))
def F_Hand_torn : PL := runF 1 1 b_Hand_torn
def b_Phase_at_row : DS := (dRet (dC .non))
def F_Phase_at_row : PL := runF 1 1 b_Phase_at_row
def b_Phase_goes : DS := (dRet (dVar 0))
def F_Phase_goes : PL := runF 2 2 b_Phase_goes
def b_Up_init : DS := (dSetF AT "passed" (dC (.int 0)) (dVar 0))
def F_Up_init : PL := runF 1 1 b_Up_init
def b_Going_init : DS := (dSetF AT "line" (dVar 1) (dVar 0))
def F_Going_init : PL := runF 2 2 b_Going_init
def b_Store_face : DS := (dRet (dFld AT "front" (dVar 0)))
def F_Store_face : PL := runF 1 1 b_Store_face
def b_House_face : DS := (dRet (dMeth "Store" "face" F_Store_face [] (dFld AT "stays" (dVar 0)) aNil))
def F_House_face : PL := runF 1 1 b_House_face
def b_Store_page : DS := (dSeq (dSet 2 (dBin pIx (dFld AT "pages" (dVar 0)) (dVar 1)))
  (dRet (dBin pAdd (dFld AT "head" (dVar 2)) (dPrim pTup (aCons (dPrim pList (aCons (dFld AT "held" (dVar 2)) aNil)) (aCons (dPrim pList (aCons (dFld AT "turned" (dVar 2)) aNil)) aNil))))))
def F_Store_page : PL := runF 2 3 b_Store_page
def b_House_page : DS := (dRet (dMeth "Store" "page" F_Store_page [] (dFld AT "stays" (dVar 0)) (aCons (dVar 1) aNil)))
def F_House_page : PL := runF 2 2 b_House_page
def b_House_come_up : DS := (dSeq (dSetF AT "held" (fun _ S => some (.loc S.length, S ++ [.dik [] []])) (dVar 0))
  (dSeq (dFor (iSeq (dVar 4)) (gTupD 2 (gsCons (gSet 5) (gsCons (gSet 6) gsNil))) (dSub (dVar 6) (dFld AT "held" (dVar 0)) (dVar 5)))
  (dSeq (dSetF AT "done" (dVar 1) (dVar 0))
  (dSeq (dSetF AT "hears" (dVar 2) (dVar 0))
  (dSetF AT "says" (dVar 3) (dVar 0))))))
def F_House_come_up : PL := runF 5 7 b_House_come_up
def b_Store_put : DS := (dSub (dVar 3) (dFld AT "home" (dVar 0)) (dPrim pTup (aCons (dVar 1) (aCons (dVar 2) aNil))))
def F_Store_put : PL := runF 4 4 b_Store_put
def b_House_settle : DS := (dExpr (dMeth "Store" "put" F_Store_put [] (dFld AT "stays" (dVar 0)) (aCons (dVar 1) (aCons (dVar 2) (aCons (dVar 3) aNil)))))
def F_House_settle : PL := runF 4 4 b_House_settle
def b_Up_goes : DS := (dSeq (dAsg (dMeth "House" "page" F_House_page [] (dVar 1) (aCons (dMeth "House" "face" F_House_face [] (dVar 1) aNil) aNil)) (gTupD 6 (gsCons (gSet 2) (gsCons (gSet 3) (gsCons (gSet 4) (gsCons (gSet 5) (gsCons (gSet 6) (gsCons (gSet 7) gsNil))))))))
  (dSeq (dIfS (dBin pLt (dFld AT "passed" (dVar 0)) (dPrim pLen (aCons (dVar 7) aNil))) (dSeq (dAsg (dBin pIx (dVar 7) (dFld AT "passed" (dVar 0))) (gTupD 2 (gsCons (gSet 8) (gsCons (gSet 9) gsNil))))
  (dSeq (dExpr (dMeth "House" "settle" F_House_settle [] (dVar 1) (aCons (dBin pIx (dVar 8) (dC (.int 0))) (aCons (dBin pIx (dVar 8) (dC (.int 1))) (aCons (dVar 9) aNil)))))
  (dSeq (dAugF AT "passed" pAddI (dC (.int 1)) (dVar 0))
  (dRet (dVar 0))))) dNext)
  (dSeq (dExpr (dMeth "House" "come_up" F_House_come_up [] (dVar 1) (aCons (dVar 3) (aCons (dVar 4) (aCons (dVar 5) (aCons (dVar 6) aNil))))))
  (dRet (dMake "Going" F_Going_init [] (aCons (dVar 2) aNil))))))
def F_Up_goes : PL := runF 2 10 b_Up_goes
def b_Going_at_row : DS := (dRet (dFld AT "line" (dVar 0)))
def F_Going_at_row : PL := runF 1 1 b_Going_at_row
def b_Keeping_init : DS := (dSeq (dSetF AT "line" (dVar 1) (dVar 0))
  (dSeq (dSetF AT "steps" (dVar 2) (dVar 0))
  (dSetF AT "passed" (dC (.int 0)) (dVar 0))))
def F_Keeping_init : PL := runF 3 3 b_Keeping_init
def b_House_boxes_kept : DS := (dRet (dGet1 (dFld AT "keeps" (dVar 0)) (dVar 1)))
def F_House_boxes_kept : PL := runF 2 2 b_House_boxes_kept
def b_House_small_steps : DS := (dSeq (dLockS (dFld AT "log" (dVar 0)) (dSet 3 (dLc (iKeyL (dFld AT "log" (dVar 0))) (gSet 5) (dC (.bl true)) (dPrim pTup (aCons (dC (.str "home")) (aCons (dBin pIx (dVar 5) (dC (.int 0))) (aCons (dBin pIx (dVar 5) (dC (.int 1))) (aCons (dBin pIx (dFld AT "log" (dVar 0)) (dVar 5)) aNil))))) [5])))
  (dSeq (dSet 4 (dPrim pLstM (aCons (dPrim pTup (aCons (dC (.str "page")) (aCons (dVar 1) aNil))) aNil)))
  (dSeq (dExpr (dMt pExtend (dVar 4) (aCons (dLc (iSeq (dVar 2)) (gSet 6) (dC (.bl true)) (dPrim pTup (aCons (dC (.str "box")) (aCons (dVar 6) (aCons (dGet2 (dFld AT "held" (dVar 0)) (dVar 6) (dFld AT "dust" (dVar 0))) aNil)))) [6]) aNil)))
  (dSeq (dExpr (dMt pExtend (dVar 4) (aCons (dLc (iSeq (dVar 3)) (gSet 7) (dC (.bl true)) (dBin pAdd (dPrim pTup (aCons (dC (.str "turn")) aNil)) (dSl pSl (dVar 7) (oSome (dC (.int 1))) oNone)) [7]) aNil)))
  (dRet (dBin pAdd (dBin pAdd (dVar 4) (dPrim pLst (aCons (dPrim pTup (aCons (dC (.str "face")) aNil)) aNil))) (dVar 3)))))))
def F_House_small_steps : PL := runF 3 8 b_House_small_steps
def b_Store_give : DS := (dSetF AT "final" (dVar 1) (dVar 0))
def F_Store_give : PL := runF 2 2 b_Store_give
def b_House_worth : DS := (dSeq (dIfS (dIsi .str (dVar 1)) (dRet (dGet2 (dFld AT "held" (dVar 0)) (dVar 1) (dFld AT "dust" (dVar 0)))) dNext)
  (dRet (dVar 1)))
def F_House_worth : PL := runF 2 2 b_House_worth
def b_House_place_of : DS := (dRet (dBin pMod (dMeth "House" "worth" F_House_worth [] (dVar 0) (aCons (dVar 2) aNil)) (dBin pIx (dFld AT "sizes" (dVar 0)) (dVar 1))))
def F_House_place_of : PL := runF 3 3 b_House_place_of
def b_House_written : DS := (dIfS (dBin pIx (dFld AT "twins" (dVar 0)) (dVar 1)) (dSub (dVar 3) (dFld AT "log" (dVar 0)) (dPrim pTup (aCons (dVar 1) (aCons (dVar 2) aNil)))) (dExpr (dMeth "House" "settle" F_House_settle [] (dVar 0) (aCons (dVar 1) (aCons (dVar 2) (aCons (dVar 3) aNil))))))
def F_House_written : PL := runF 4 4 b_House_written
def b_Store_get_home : DS := (dRet (dBin pIx (dFld AT "home" (dVar 0)) (dPrim pTup (aCons (dVar 1) (aCons (dVar 2) aNil)))))
def F_Store_get_home : PL := runF 3 3 b_Store_get_home
def b_House_seen : DS := (dSeq (dIfS (dAnd (dBin pIx (dFld AT "twins" (dVar 0)) (dVar 1)) (dBin (pIn false) (dPrim pTup (aCons (dVar 1) (aCons (dVar 2) aNil))) (dFld AT "log" (dVar 0)))) (dRet (dBin pIx (dFld AT "log" (dVar 0)) (dPrim pTup (aCons (dVar 1) (aCons (dVar 2) aNil))))) dNext)
  (dRet (dMeth "Store" "get_home" F_Store_get_home [] (dFld AT "stays" (dVar 0)) (aCons (dVar 1) (aCons (dVar 2) aNil)))))
def F_House_seen : PL := runF 3 3 b_House_seen
def b_House_brought : DS := (dSeq (dIfS (dBin (pEq false) (dBin pIx (dVar 1) (dC (.int 0))) (dC (.str "copy"))) (dRet (dMeth "House" "worth" F_House_worth [] (dVar 0) (aCons (dBin pIx (dVar 1) (dC (.int 2))) aNil))) dNext)
  (dSeq (dIfS (dBin (pEq false) (dBin pIx (dVar 1) (dC (.int 0))) (dC (.str "op"))) (dRet (dPrim (cP (pureOf F_value) []) (aCons (dBin pIx (dVar 1) (dC (.int 2))) (aCons (dMeth "House" "worth" F_House_worth [] (dVar 0) (aCons (dBin pIx (dVar 1) (dC (.int 3))) aNil)) (aCons (dMeth "House" "worth" F_House_worth [] (dVar 0) (aCons (dBin pIx (dVar 1) (dC (.int 4))) aNil)) aNil))))) dNext)
  (dSeq (dIfS (dBin (pEq false) (dBin pIx (dVar 1) (dC (.int 0))) (dC (.str "load"))) (dRet (dMeth "House" "seen" F_House_seen [] (dVar 0) (aCons (dBin pIx (dVar 1) (dC (.int 2))) (aCons (dC (.int 0)) aNil)))) dNext)
  (dSeq (dIfS (dBin (pEq false) (dBin pIx (dVar 1) (dC (.int 0))) (dC (.str "take"))) (dRet (dMeth "House" "seen" F_House_seen [] (dVar 0) (aCons (dBin pIx (dVar 1) (dC (.int 2))) (aCons (dMeth "House" "place_of" F_House_place_of [] (dVar 0) (aCons (dBin pIx (dVar 1) (dC (.int 2))) (aCons (dBin pIx (dVar 1) (dC (.int 3))) aNil))) aNil)))) dNext)
  (dSeq (dAugF AT "hears" pAddI (dC (.int 1)) (dVar 0))
  (dSeq (dIfS (dBin pGt (dFld AT "hears" (dVar 0)) (dPrim pLen (aCons (dFld AT "coming" (dVar 0)) aNil))) (dRet (dC (.int 0))) dNext)
  (dRet (dBin pIx (dFld AT "coming" (dVar 0)) (dBin pSub (dFld AT "hears" (dVar 0)) (dC (.int 1)))))))))))
def F_House_brought : PL := runF 2 2 b_House_brought
def b_House_do_row : DS := (dSeq (dSet 2 (dBin pIx (dBin pIx (dFld AT "program" (dVar 0)) (dC (.int 2))) (dVar 1)))
  (dSeq (dAugF AT "done" pAddI (dC (.int 1)) (dVar 0))
  (dSeq (dSet 3 (dC (.int 0)))
  (dSeq (dIfS (dBin (pEq false) (dBin pIx (dVar 2) (dC (.int 0))) (dC (.str "end"))) (dSeq (dExpr (dMeth "Store" "give" F_Store_give [] (dFld AT "stays" (dVar 0)) (aCons (dMeth "House" "worth" F_House_worth [] (dVar 0) (aCons (dBin pIx (dVar 2) (dC (.int 1))) aNil)) aNil)))
  (dRet (dC .non))) dNext)
  (dSeq (dIfS (dBin (pEq false) (dBin pIx (dVar 2) (dC (.int 0))) (dC (.str "if"))) (dSet 3 (dPrim pInt (aCons (dBin (pEq false) (dMeth "House" "worth" F_House_worth [] (dVar 0) (aCons (dBin pIx (dVar 2) (dC (.int 1))) aNil)) (dC (.int 0))) aNil))) (dIfS (dBin (pEq false) (dBin pIx (dVar 2) (dC (.int 0))) (dC (.str "store"))) (dExpr (dMeth "House" "written" F_House_written [] (dVar 0) (aCons (dBin pIx (dVar 2) (dC (.int 1))) (aCons (dC (.int 0)) (aCons (dMeth "House" "worth" F_House_worth [] (dVar 0) (aCons (dBin pIx (dVar 2) (dC (.int 2))) aNil)) aNil))))) (dIfS (dBin (pEq false) (dBin pIx (dVar 2) (dC (.int 0))) (dC (.str "lay"))) (dExpr (dMeth "House" "written" F_House_written [] (dVar 0) (aCons (dBin pIx (dVar 2) (dC (.int 1))) (aCons (dMeth "House" "place_of" F_House_place_of [] (dVar 0) (aCons (dBin pIx (dVar 2) (dC (.int 1))) (aCons (dBin pIx (dVar 2) (dC (.int 2))) aNil))) (aCons (dMeth "House" "worth" F_House_worth [] (dVar 0) (aCons (dBin pIx (dVar 2) (dC (.int 3))) aNil)) aNil))))) (dIfS (dBin (pEq false) (dBin pIx (dVar 2) (dC (.int 0))) (dC (.str "say"))) (dSeq (dExpr (dMeth "Hand" "take" F_Hand_take [] (dFld AT "hand" (dVar 0)) (aCons (dFld AT "says" (dVar 0)) (aCons (dMeth "House" "worth" F_House_worth [] (dVar 0) (aCons (dBin pIx (dVar 2) (dC (.int 1))) aNil)) aNil))))
  (dAugF AT "says" pAddI (dC (.int 1)) (dVar 0))) (dIfS (dBin (pEq true) (dBin pIx (dVar 2) (dC (.int 0))) (dC (.str "go"))) (dSub (dMeth "House" "brought" F_House_brought [] (dVar 0) (aCons (dVar 2) aNil)) (dFld AT "held" (dVar 0)) (dBin pIx (dVar 2) (dC (.int 1)))) dNext)))))
  (dRet (dBin pIx (dBin pIx (dFld AT "leads" (dVar 0)) (dVar 1)) (dVar 3))))))))
def F_House_do_row : PL := runF 2 4 b_House_do_row
def b_Going_goes : DS := (dSeq (dSet 2 (dMeth "House" "do_row" F_House_do_row [] (dVar 1) (aCons (dFld AT "line" (dVar 0)) aNil)))
  (dSeq (dIfS (dBin (pIs false) (dVar 2) (dC .non)) (dRet (dMake0 "Resting")) dNext)
  (dSeq (dSet 3 (dMeth "House" "boxes_kept" F_House_boxes_kept [] (dVar 1) (aCons (dVar 2) aNil)))
  (dSeq (dIfS (dBin (pIs false) (dVar 3) (dC .non)) (dRet (dMake "Going" F_Going_init [] (aCons (dVar 2) aNil))) dNext)
  (dRet (dMake "Keeping" F_Keeping_init [] (aCons (dVar 2) (aCons (dMeth "House" "small_steps" F_House_small_steps [] (dVar 1) (aCons (dVar 2) (aCons (dVar 3) aNil))) aNil))))))))
def F_Going_goes : PL := runF 2 4 b_Going_goes
def b_Page_init : DS := (dSeq (dSetF AT "head" (dPrim pTup (aCons (dVar 1) (aCons (dVar 2) (aCons (dVar 3) (aCons (dVar 4) aNil))))) (dVar 0))
  (dSeq (dSetF AT "held" (dPrim pLstM aNil) (dVar 0))
  (dSetF AT "turned" (dPrim pLstM aNil) (dVar 0))))
def F_Page_init : PL := runF 5 5 b_Page_init
def b_Store_begin_page : DS := (dSub (dMake "Page" F_Page_init [] (aCons (dVar 1) (aCons (dVar 2) (aCons (dVar 3) (aCons (dVar 4) aNil))))) (dFld AT "pages" (dVar 0)) (dBin pSub (dC (.int 1)) (dFld AT "front" (dVar 0))))
def F_Store_begin_page : PL := runF 5 5 b_Store_begin_page
def b_Store_keep_box : DS := (dExpr (dMt pAppend (dFld AT "held" (dBin pIx (dFld AT "pages" (dVar 0)) (dBin pSub (dC (.int 1)) (dFld AT "front" (dVar 0))))) (aCons (dPrim pTup (aCons (dVar 1) (aCons (dVar 2) aNil))) aNil)))
def F_Store_keep_box : PL := runF 3 3 b_Store_keep_box
def b_Store_keep_turn : DS := (dExpr (dMt pAppend (dFld AT "turned" (dBin pIx (dFld AT "pages" (dVar 0)) (dBin pSub (dC (.int 1)) (dFld AT "front" (dVar 0))))) (aCons (dPrim pTup (aCons (dPrim pTup (aCons (dVar 1) (aCons (dVar 2) aNil))) (aCons (dVar 3) aNil))) aNil)))
def F_Store_keep_turn : PL := runF 4 4 b_Store_keep_turn
def b_Store_turn : DS := (dSetF AT "front" (dBin pSub (dC (.int 1)) (dFld AT "front" (dVar 0))) (dVar 0))
def F_Store_turn : PL := runF 1 1 b_Store_turn
def b_House_small_step : DS := (dIfS (dBin (pEq false) (dBin pIx (dVar 1) (dC (.int 0))) (dC (.str "page"))) (dExpr (dMeth "Store" "begin_page" F_Store_begin_page [] (dFld AT "stays" (dVar 0)) (aCons (dBin pIx (dVar 1) (dC (.int 1))) (aCons (dFld AT "done" (dVar 0)) (aCons (dFld AT "hears" (dVar 0)) (aCons (dFld AT "says" (dVar 0)) aNil)))))) (dIfS (dBin (pEq false) (dBin pIx (dVar 1) (dC (.int 0))) (dC (.str "box"))) (dExpr (dMeth "Store" "keep_box" F_Store_keep_box [] (dFld AT "stays" (dVar 0)) (aCons (dBin pIx (dVar 1) (dC (.int 1))) (aCons (dBin pIx (dVar 1) (dC (.int 2))) aNil)))) (dIfS (dBin (pEq false) (dBin pIx (dVar 1) (dC (.int 0))) (dC (.str "turn"))) (dExpr (dMeth "Store" "keep_turn" F_Store_keep_turn [] (dFld AT "stays" (dVar 0)) (aCons (dBin pIx (dVar 1) (dC (.int 1))) (aCons (dBin pIx (dVar 1) (dC (.int 2))) (aCons (dBin pIx (dVar 1) (dC (.int 3))) aNil))))) (dIfS (dBin (pEq false) (dBin pIx (dVar 1) (dC (.int 0))) (dC (.str "face"))) (dExpr (dMeth "Store" "turn" F_Store_turn [] (dFld AT "stays" (dVar 0)) aNil)) (dExpr (dMeth "House" "settle" F_House_settle [] (dVar 0) (aCons (dBin pIx (dVar 1) (dC (.int 1))) (aCons (dBin pIx (dVar 1) (dC (.int 2))) (aCons (dBin pIx (dVar 1) (dC (.int 3))) aNil)))))))))
def F_House_small_step : PL := runF 2 2 b_House_small_step
def b_House_forget_log : DS := (dSetF AT "log" (fun _ S => some (.loc S.length, S ++ [.dit [] []])) (dVar 0))
def F_House_forget_log : PL := runF 1 1 b_House_forget_log
def b_Keeping_goes : DS := (dSeq (dExpr (dMeth "House" "small_step" F_House_small_step [] (dVar 1) (aCons (dBin pIx (dFld AT "steps" (dVar 0)) (dFld AT "passed" (dVar 0))) aNil)))
  (dSeq (dAugF AT "passed" pAddI (dC (.int 1)) (dVar 0))
  (dSeq (dIfS (dBin pLt (dFld AT "passed" (dVar 0)) (dPrim pLen (aCons (dFld AT "steps" (dVar 0)) aNil))) (dRet (dVar 0)) dNext)
  (dSeq (dExpr (dMeth "House" "forget_log" F_House_forget_log [] (dVar 1) aNil))
  (dRet (dMake "Going" F_Going_init [] (aCons (dFld AT "line" (dVar 0)) aNil)))))))
def F_Keeping_goes : PL := runF 2 2 b_Keeping_goes
def b_Store_init : DS := (dSeq (dSetF AT "home" (fun _ S => some (.loc S.length, S ++ [.dit [] []])) (dVar 0))
  (dSeq (dSetF AT "sizes" (fun _ S => some (.loc S.length, S ++ [.dik [] []])) (dVar 0))
  (dSeq (dFor (iSeq (dBin pIx (dVar 1) (dC (.int 0)))) (gTupD 3 (gsCons (gSet 3) (gsCons (gSet 4) (gsCons (gSet 5) gsNil)))) (dSub (dVar 4) (dFld AT "home" (dVar 0)) (dPrim pTup (aCons (dVar 3) (aCons (dC (.int 0)) aNil)))))
  (dSeq (dFor (iSeq (dBin pIx (dVar 1) (dC (.int 1)))) (gTupD 3 (gsCons (gSet 3) (gsCons (gSet 6) (gsCons (gSet 5) gsNil)))) (dSeq (dSub (dVar 6) (dFld AT "sizes" (dVar 0)) (dVar 3))
  (dFor (iRange1 (aCons (dVar 6) aNil)) (gSet 7) (dSub (dC (.int 0)) (dFld AT "home" (dVar 0)) (dPrim pTup (aCons (dVar 3) (aCons (dVar 7) aNil)))))))
  (dSeq (dSetF AT "pages" (dPrim pLstM (aCons (dMake "Page" F_Page_init [] (aCons (dC (.int 0)) (aCons (dC (.int 0)) (aCons (dC (.int 0)) (aCons (dC (.int 0)) aNil))))) (aCons (dMake "Page" F_Page_init [] (aCons (dC (.int 0)) (aCons (dC (.int 0)) (aCons (dC (.int 0)) (aCons (dC (.int 0)) aNil))))) aNil))) (dVar 0))
  (dSeq (dFor (iSeq (dVar 2)) (gSet 3) (dExpr (dMt pAppend (dFld AT "held" (dBin pIx (dFld AT "pages" (dVar 0)) (dC (.int 0)))) (aCons (dPrim pTup (aCons (dVar 3) (aCons (dC (.int 0)) aNil))) aNil))))
  (dSeq (dSetF AT "front" (dC (.int 0)) (dVar 0))
  (dSetF AT "final" (dC .non) (dVar 0)))))))))
def F_Store_init : PL := runF 3 8 b_Store_init
def b_Store_cell : DS := (dRet (dBin pIx (dFld AT "home" (dVar 0)) (dPrim pTup (aCons (dVar 1) (aCons (dC (.int 0)) aNil)))))
def F_Store_cell : PL := runF 2 2 b_Store_cell
def b_Store_shelf : DS := (dRet (dLc (iRange1 (aCons (dBin pIx (dFld AT "sizes" (dVar 0)) (dVar 1)) aNil)) (gSet 2) (dC (.bl true)) (dBin pIx (dFld AT "home" (dVar 0)) (dPrim pTup (aCons (dVar 1) (aCons (dVar 2) aNil)))) [2]))
def F_Store_shelf : PL := runF 2 3 b_Store_shelf
def b_Store_answer : DS := (dRet (dFld AT "final" (dVar 0)))
def F_Store_answer : PL := runF 1 1 b_Store_answer
def b_twins_of : DS := (dSeq (dSet 1 (fun _ S => some (.loc S.length, S ++ [.dik [] []])))
  (dSeq (dSet 2 (fun _ S => some (.loc S.length, S ++ [.dik [] []])))
  (dSeq (dFor (iSeq (dBin pIx (dVar 0) (dC (.int 0)))) (gTupD 3 (gsCons (gSet 3) (gsCons (gSet 4) (gsCons (gSet 5) gsNil)))) (dSub (dVar 5) (dVar 1) (dVar 3)))
  (dSeq (dFor (iSeq (dBin pIx (dVar 0) (dC (.int 1)))) (gTupD 3 (gsCons (gSet 3) (gsCons (gSet 6) (gsCons (gSet 5) gsNil)))) (dSeq (dSub (dVar 5) (dVar 1) (dVar 3))
  (dSub (dVar 6) (dVar 2) (dVar 3))))
  (dRet (dPrim pTup (aCons (dVar 1) (aCons (dVar 2) aNil))))))))
def F_twins_of : PL := runF 1 7 b_twins_of
def b_House_lose : DS := (dSeq (dSetF AT "dust" (dVar 1) (dVar 0))
  (dSeq (dSetF AT "held" (fun _ S => some (.loc S.length, S ++ [.dik [] []])) (dVar 0))
  (dSeq (dSetF AT "log" (fun _ S => some (.loc S.length, S ++ [.dit [] []])) (dVar 0))
  (dSeq (dSetF AT "done" (dC (.int 0)) (dVar 0))
  (dSeq (dSetF AT "hears" (dC (.int 0)) (dVar 0))
  (dSeq (dSetF AT "says" (dC (.int 0)) (dVar 0))
  (dSetF AT "phase" (dMake "Up" F_Up_init [] aNil) (dVar 0))))))))
def F_House_lose : PL := runF 2 2 b_House_lose
def b_House_init : DS := (dSeq (dSetF AT "program" (dVar 1) (dVar 0))
  (dSeq (dSetF AT "leads" (dPrim (cM (freshOf F_ways) []) (aCons (dVar 1) aNil)) (dVar 0))
  (dSeq (dAsg (dPrim (cP (pureOf F_twins_of) []) (aCons (dVar 1) aNil)) (gTupD 2 (gsCons (gFld AT "twins" (dVar 0)) (gsCons (gFld AT "sizes" (dVar 0)) gsNil))))
  (dSeq (dSetF AT "keeps" (fun _ S => some (.loc S.length, S ++ [.dik [] []])) (dVar 0))
  (dSeq (dFor (iSeq (dBin pIx (dVar 2) (dC (.int 1)))) (gTupD 2 (gsCons (gSet 4) (gsCons (gSet 5) gsNil))) (dSub (dVar 5) (dFld AT "keeps" (dVar 0)) (dVar 4)))
  (dSeq (dSetF AT "coming" (dPrim pListM (aCons (dVar 3) aNil)) (dVar 0))
  (dSeq (dSetF AT "stays" (dMake "Store" F_Store_init [] (aCons (dVar 1) (aCons (dBin pIx (dVar 2) (dC (.int 0))) aNil))) (dVar 0))
  (dSeq (dSetF AT "hand" (dMake "Hand" F_Hand_init [] aNil) (dVar 0))
  (dExpr (dMeth "House" "lose" F_House_lose [] (dVar 0) (aCons (dC (.int 0)) aNil)))))))))))
def F_House_init : PL := runF 4 6 b_House_init
def b_House_rests : DS := (dRet (dIsC IT "Resting" (dFld AT "phase" (dVar 0))))
def F_House_rests : PL := runF 1 1 b_House_rests
def b_House_fail : DS := (dIfS (dNot (dMeth "House" "rests" F_House_rests [] (dVar 0) aNil)) (dExpr (dMeth "House" "lose" F_House_lose [] (dVar 0) (aCons (dVar 1) aNil))) dNext)
def F_House_fail : PL := runF 2 2 b_House_fail
def b_House_step : DS := (dSetF AT "phase" (orD (dMeth "Going" "goes" F_Going_goes [] (dFld AT "phase" (dVar 0)) (aCons (dVar 0) aNil)) (orD (dMeth "Keeping" "goes" F_Keeping_goes [] (dFld AT "phase" (dVar 0)) (aCons (dVar 0) aNil)) (orD (dMeth "Up" "goes" F_Up_goes [] (dFld AT "phase" (dVar 0)) (aCons (dVar 0) aNil)) (dMeth "Resting" "goes" F_Phase_goes [] (dFld AT "phase" (dVar 0)) (aCons (dVar 0) aNil))))) (dVar 0))
def F_House_step : PL := runF 1 1 b_House_step
def b_House_stands : DS := (dRet (orD (dMeth "Going" "at_row" F_Going_at_row [] (dFld AT "phase" (dVar 0)) aNil) (orD (dMeth "Keeping" "at_row" F_Phase_at_row [] (dFld AT "phase" (dVar 0)) aNil) (orD (dMeth "Up" "at_row" F_Phase_at_row [] (dFld AT "phase" (dVar 0)) aNil) (dMeth "Resting" "at_row" F_Phase_at_row [] (dFld AT "phase" (dVar 0)) aNil)))))
def F_House_stands : PL := runF 1 1 b_House_stands
def b_House_answer : DS := (dRet (dMeth "Store" "answer" F_Store_answer [] (dFld AT "stays" (dVar 0)) aNil))
def F_House_answer : PL := runF 1 1 b_House_answer
def b_House_cell : DS := (dRet (dMeth "Store" "cell" F_Store_cell [] (dFld AT "stays" (dVar 0)) (aCons (dVar 1) aNil)))
def F_House_cell : PL := runF 2 2 b_House_cell
def b_House_shelf : DS := (dRet (dMeth "Store" "shelf" F_Store_shelf [] (dFld AT "stays" (dVar 0)) (aCons (dVar 1) aNil)))
def F_House_shelf : PL := runF 2 2 b_House_shelf
def b_House_letters : DS := (dRet (dMeth "Hand" "kept" F_Hand_kept [] (dFld AT "hand" (dVar 0)) aNil))
def F_House_letters : PL := runF 1 1 b_House_letters
def b_House_torn : DS := (dRet (dMeth "Hand" "torn" F_Hand_torn [] (dFld AT "hand" (dVar 0)) aNil))
def F_House_torn : PL := runF 1 1 b_House_torn
def b_House_box : DS := (dSeq (dIfS (dIsC IT "Going" (dFld AT "phase" (dVar 0))) (dRet (dGet2 (dFld AT "held" (dVar 0)) (dVar 1) (dFld AT "dust" (dVar 0)))) dNext)
  (dRet (dC (.int 0))))
def F_House_box : PL := runF 2 2 b_House_box
def b_House_count : DS := (dSeq (dIfS (dIsC IT "Going" (dFld AT "phase" (dVar 0))) (dRet (dFld AT "done" (dVar 0))) dNext)
  (dRet (dBin pIx (dMeth "House" "page" F_House_page [] (dVar 0) (aCons (dMeth "House" "face" F_House_face [] (dVar 0) aNil) aNil)) (dC (.int 1)))))
def F_House_count : PL := runF 1 1 b_House_count
def b_stepped : DS := (dSeq (dSet 2 (dC (.int 0)))
  (dSeq (whileL (dAnd (dBin pLt (dVar 2) (dVar 1)) (dNot (dMeth "House" "rests" F_House_rests [] (dVar 0) aNil))) (dSeq (dExpr (dMeth "House" "step" F_House_step [] (dVar 0) aNil))
  (dAug 2 pAddI (dC (.int 1)))) 100000)
  (dRet (dVar 2))))
def F_stepped : PL := runF 2 3 b_stepped
def b_drive : DS := (dSeq (dSet 3 (dC (.int 0)))
  (dSeq (dSet 4 (dC (.int 0)))
  (dSeq (dFor (iSeq (dVar 1)) (gTupD 2 (gsCons (gSet 5) (gsCons (gSet 6) gsNil))) (dSeq (dAug 3 pAddI (dPrim (cS F_stepped []) (aCons (dVar 0) (aCons (dPrim pMin (aCons (dVar 5) (aCons (dBin pSub (dVar 2) (dVar 4)) aNil))) aNil))))
  (dSeq (dAug 4 pAddI (dVar 5))
  (dSeq (dIfS (dBin pGt (dVar 4) (dVar 2)) (dRet (dVar 3)) dNext)
  (dExpr (dMeth "House" "fail" F_House_fail [] (dVar 0) (aCons (dVar 6) aNil)))))))
  (dRet (dBin pAdd (dVar 3) (dPrim (cS F_stepped []) (aCons (dVar 0) (aCons (dBin pSub (dVar 2) (dVar 4)) aNil))))))))
def F_drive : PL := runF 3 7 b_drive
def b_Plain_init : DS := (dSeq (dSetF AT "rows" (dBin pIx (dVar 1) (dC (.int 2))) (dVar 0))
  (dSeq (dSetF AT "leads" (dPrim (cM (freshOf F_ways) []) (aCons (dVar 1) aNil)) (dVar 0))
  (dSeq (dSetF AT "coming" (dPrim pListM (aCons (dVar 2) aNil)) (dVar 0))
  (dSeq (dSetF AT "at" (dC (.int 0)) (dVar 0))
  (dSeq (dSetF AT "held" (fun _ S => some (.loc S.length, S ++ [.dik [] []])) (dVar 0))
  (dSeq (dSetF AT "cells" (fun _ S => some (.loc S.length, S ++ [.dik [] []])) (dVar 0))
  (dSeq (dFor (iSeq (dBin pIx (dVar 1) (dC (.int 0)))) (gTupD 3 (gsCons (gSet 3) (gsCons (gSet 4) (gsCons (gSet 5) gsNil)))) (dSub (dVar 4) (dFld AT "cells" (dVar 0)) (dVar 3)))
  (dSeq (dSetF AT "places" (fun _ S => some (.loc S.length, S ++ [.dik [] []])) (dVar 0))
  (dSeq (dFor (iSeq (dBin pIx (dVar 1) (dC (.int 1)))) (gTupD 3 (gsCons (gSet 3) (gsCons (gSet 6) (gsCons (gSet 5) gsNil)))) (dSub (dBin pMulM (dPrim pLst (aCons (dC (.int 0)) aNil)) (dVar 6)) (dFld AT "places" (dVar 0)) (dVar 3)))
  (dSeq (dSetF AT "gone" (dPrim pLstM aNil) (dVar 0))
  (dSeq (dSetF AT "hears" (dC (.int 0)) (dVar 0))
  (dSeq (dSetF AT "done" (dC (.int 0)) (dVar 0))
  (dSetF AT "result" (dC .non) (dVar 0))))))))))))))
def F_Plain_init : PL := runF 3 7 b_Plain_init
def b_Plain_worth : DS := (dSeq (dIfS (dIsi .str (dVar 1)) (dRet (dGet2 (dFld AT "held" (dVar 0)) (dVar 1) (dC (.int 0)))) dNext)
  (dRet (dVar 1)))
def F_Plain_worth : PL := runF 2 2 b_Plain_worth
def b_Plain_ended : DS := (dRet (dBin (pIs true) (dFld AT "result" (dVar 0)) (dC .non)))
def F_Plain_ended : PL := runF 1 1 b_Plain_ended
def b_Plain_put_out : DS := (dIfS (dBin (pEq false) (dBin pIx (dVar 1) (dC (.int 0))) (dC (.str "store"))) (dSub (dMeth "Plain" "worth" F_Plain_worth [] (dVar 0) (aCons (dBin pIx (dVar 1) (dC (.int 2))) aNil)) (dFld AT "cells" (dVar 0)) (dBin pIx (dVar 1) (dC (.int 1)))) (dIfS (dBin (pEq false) (dBin pIx (dVar 1) (dC (.int 0))) (dC (.str "lay"))) (dSeq (dSet 2 (dBin pIx (dFld AT "places" (dVar 0)) (dBin pIx (dVar 1) (dC (.int 1)))))
  (dSub (dMeth "Plain" "worth" F_Plain_worth [] (dVar 0) (aCons (dBin pIx (dVar 1) (dC (.int 3))) aNil)) (dVar 2) (dBin pMod (dMeth "Plain" "worth" F_Plain_worth [] (dVar 0) (aCons (dBin pIx (dVar 1) (dC (.int 2))) aNil)) (dPrim pLen (aCons (dVar 2) aNil))))) (dExpr (dMt pAppend (dFld AT "gone" (dVar 0)) (aCons (dMeth "Plain" "worth" F_Plain_worth [] (dVar 0) (aCons (dBin pIx (dVar 1) (dC (.int 1))) aNil)) aNil)))))
def F_Plain_put_out : PL := runF 2 3 b_Plain_put_out
def b_Plain_brought : DS := (dSeq (dIfS (dBin (pEq false) (dBin pIx (dVar 1) (dC (.int 0))) (dC (.str "copy"))) (dRet (dMeth "Plain" "worth" F_Plain_worth [] (dVar 0) (aCons (dBin pIx (dVar 1) (dC (.int 2))) aNil))) dNext)
  (dSeq (dIfS (dBin (pEq false) (dBin pIx (dVar 1) (dC (.int 0))) (dC (.str "op"))) (dRet (dPrim (cP (pureOf F_value) []) (aCons (dBin pIx (dVar 1) (dC (.int 2))) (aCons (dMeth "Plain" "worth" F_Plain_worth [] (dVar 0) (aCons (dBin pIx (dVar 1) (dC (.int 3))) aNil)) (aCons (dMeth "Plain" "worth" F_Plain_worth [] (dVar 0) (aCons (dBin pIx (dVar 1) (dC (.int 4))) aNil)) aNil))))) dNext)
  (dSeq (dIfS (dBin (pEq false) (dBin pIx (dVar 1) (dC (.int 0))) (dC (.str "load"))) (dRet (dBin pIx (dFld AT "cells" (dVar 0)) (dBin pIx (dVar 1) (dC (.int 2))))) dNext)
  (dSeq (dIfS (dBin (pEq false) (dBin pIx (dVar 1) (dC (.int 0))) (dC (.str "take"))) (dSeq (dSet 2 (dBin pIx (dFld AT "places" (dVar 0)) (dBin pIx (dVar 1) (dC (.int 2)))))
  (dRet (dBin pIx (dVar 2) (dBin pMod (dMeth "Plain" "worth" F_Plain_worth [] (dVar 0) (aCons (dBin pIx (dVar 1) (dC (.int 3))) aNil)) (dPrim pLen (aCons (dVar 2) aNil)))))) dNext)
  (dSeq (dAugF AT "hears" pAddI (dC (.int 1)) (dVar 0))
  (dSeq (dIfS (dBin pGt (dFld AT "hears" (dVar 0)) (dPrim pLen (aCons (dFld AT "coming" (dVar 0)) aNil))) (dRet (dC (.int 0))) dNext)
  (dRet (dBin pIx (dFld AT "coming" (dVar 0)) (dBin pSub (dFld AT "hears" (dVar 0)) (dC (.int 1)))))))))))
def F_Plain_brought : PL := runF 2 3 b_Plain_brought
def b_Plain_step : DS := (dSeq (dIfS (dMeth "Plain" "ended" F_Plain_ended [] (dVar 0) aNil) dRetN dNext)
  (dSeq (dSet 1 (dBin pIx (dFld AT "rows" (dVar 0)) (dFld AT "at" (dVar 0))))
  (dSeq (dAugF AT "done" pAddI (dC (.int 1)) (dVar 0))
  (dSeq (dIfS (dBin (pEq false) (dBin pIx (dVar 1) (dC (.int 0))) (dC (.str "end"))) (dSeq (dSetF AT "result" (dMeth "Plain" "worth" F_Plain_worth [] (dVar 0) (aCons (dBin pIx (dVar 1) (dC (.int 1))) aNil)) (dVar 0))
  dRetN) dNext)
  (dSeq (dSet 2 (dC (.int 0)))
  (dSeq (dIfS (dBin (pEq false) (dBin pIx (dVar 1) (dC (.int 0))) (dC (.str "if"))) (dSet 2 (dPrim pInt (aCons (dBin (pEq false) (dMeth "Plain" "worth" F_Plain_worth [] (dVar 0) (aCons (dBin pIx (dVar 1) (dC (.int 1))) aNil)) (dC (.int 0))) aNil))) (dIfS (dBin (pIn false) (dBin pIx (dVar 1) (dC (.int 0))) (dPrim pTup (aCons (dC (.str "store")) (aCons (dC (.str "lay")) (aCons (dC (.str "say")) aNil))))) (dExpr (dMeth "Plain" "put_out" F_Plain_put_out [] (dVar 0) (aCons (dVar 1) aNil))) (dIfS (dBin (pEq true) (dBin pIx (dVar 1) (dC (.int 0))) (dC (.str "go"))) (dSub (dMeth "Plain" "brought" F_Plain_brought [] (dVar 0) (aCons (dVar 1) aNil)) (dFld AT "held" (dVar 0)) (dBin pIx (dVar 1) (dC (.int 1)))) dNext)))
  (dSetF AT "at" (dBin pIx (dBin pIx (dFld AT "leads" (dVar 0)) (dFld AT "at" (dVar 0))) (dVar 2)) (dVar 0))))))))
def F_Plain_step : PL := runF 1 3 b_Plain_step
def b_law_cell_at : DS := (dSeq (dIfS (dBin pLt (dVar 1) (dPrim pLen (aCons (dVar 0) aNil))) (dRet (dBin pIx (dVar 0) (dVar 1))) dNext)
  (dRet (dC (.int 0))))
def F_law_cell_at : PL := runF 2 2 b_law_cell_at
def b_law_stream : DS := (dSeq (dSet 2 (dPrim pLstM aNil))
  (dSeq (dSet 3 (dBin pAdd (dBin pMod (dVar 0) (dC (.int 2147483629))) (dC (.int 69621))))
  (dSeq (dFor (iRange1 (aCons (dBin pAdd (dVar 1) (dC (.int 1))) aNil)) (gSet 4) (dSeq (dSet 3 (dBin pMod (dBin pAdd (dBin pAdd (dBin pMul (dVar 3) (dVar 3)) (dBin pMul (dC (.int 16807)) (dVar 3))) (dVar 4)) (dC (.int 2147483629))))
  (dExpr (dMt pAppend (dVar 2) (aCons (dVar 3) aNil)))))
  (dRet (dSl pSl (dVar 2) (oSome (dC (.int 1))) oNone)))))
def F_law_stream : PL := runF 2 5 b_law_stream
def b_law_names : DS := (dSeq (dSet 2 (dC (.str "abcdefghijklmnopqrstuvwxyz")))
  (dSeq (dSet 3 (dBin pMod (dVar 0) (dC (.int 6))))
  (dSeq (dSet 4 (dBin pMod (dBin pDiv (dVar 0) (dC (.int 6))) (dBin pAdd (dVar 3) (dC (.int 1)))))
  (dSeq (dSet 5 (dM1 pJoin (dC (.str "")) (dLc (iRange1 (aCons (dVar 3) aNil)) (gSet 6) (dC (.bl true)) (dBin pIx (dVar 2) (dBin pMod (dBin pAdd (dBin pDiv (dVar 0) (dC (.int 37))) (dBin pMul (dBin pMul (dC (.int 11)) (dVar 6)) (dBin pMod (dVar 0) (dC (.int 2))))) (dC (.int 26)))) [6])))
  (dRet (dLc (iRange1 (aCons (dVar 1) aNil)) (gSet 6) (dC (.bl true)) (dBin pAdd (dBin pAdd (dSl pSl (dVar 5) oNone (oSome (dVar 4))) (dBin pIx (dVar 2) (dBin pMod (dBin pAdd (dBin pDiv (dVar 0) (dC (.int 42))) (dBin pMul (dC (.int 5)) (dVar 6))) (dC (.int 26))))) (dSl pSl (dVar 5) (oSome (dVar 4)) oNone)) [6]))))))
def F_law_names : PL := runF 2 7 b_law_names
def b_law_value_by : DS := (dSeq (dIfS (dBin (pEq false) (dBin pMod (dVar 0) (dC (.int 3))) (dC (.int 0))) (dRet (dBin pMod (dBin pDiv (dVar 0) (dC (.int 3))) (dC (.int 4)))) dNext)
  (dSeq (dIfS (dBin (pEq false) (dBin pMod (dVar 0) (dC (.int 3))) (dC (.int 1))) (dRet (dBin pSub (dBin pSub (dBin pPow (dC (.int 2)) (dC (.int 40))) (dC (.int 1))) (dBin pMod (dBin pDiv (dVar 0) (dC (.int 3))) (dC (.int 4))))) dNext)
  (dRet (dBin pMod (dBin pMul (dBin pDiv (dVar 0) (dC (.int 3))) (dC (.int 1664525))) (dBin pPow (dC (.int 2)) (dC (.int 40)))))))
def F_law_value_by : PL := runF 1 1 b_law_value_by
def b_law_atom : DS := (dSeq (dIfS (dBin (pEq false) (dBin pMod (dVar 0) (dC (.int 3))) (dC (.int 0))) (dRet (dPrim (cP (pureOf F_law_value_by) []) (aCons (dBin pDiv (dVar 0) (dC (.int 3))) aNil))) dNext)
  (dRet (dBin pIx (dVar 1) (dBin pMod (dBin pDiv (dVar 0) (dC (.int 3))) (dPrim pLen (aCons (dVar 1) aNil))))))
def F_law_atom : PL := runF 2 2 b_law_atom
def b_law_world : DS := (dSeq (dSet 1 (dPrim (cP (pureOf F_law_names) []) (aCons (dPrim (cP (pureOf F_law_cell_at) []) (aCons (dVar 0) (aCons (dC (.int 0)) aNil))) (aCons (dC (.int 12)) aNil))))
  (dSeq (dSet 2 (dPrim (cP (pureOf F_law_stream) []) (aCons (dPrim (cP (pureOf F_law_cell_at) []) (aCons (dVar 0) (aCons (dC (.int 1)) aNil))) (aCons (dC (.int 12)) aNil))))
  (dSeq (dSet 3 (dLc (iRange1 (aCons (dBin pAdd (dC (.int 1)) (dBin pMod (dBin pIx (dVar 2) (dC (.int 6))) (dC (.int 3)))) aNil)) (gSet 6) (dC (.bl true)) (dPrim pTup (aCons (dBin pIx (dVar 1) (dVar 6)) (aCons (dPrim (cP (pureOf F_law_value_by) []) (aCons (dBin pIx (dVar 2) (dVar 6)) aNil)) (aCons (dBin (pEq false) (dBin pMod (dBin pDiv (dBin pIx (dVar 2) (dVar 6)) (dC (.int 5))) (dC (.int 2))) (dC (.int 0))) aNil)))) [6]))
  (dSeq (dSet 4 (dLc (iRange1 (aCons (dBin pAdd (dC (.int 1)) (dBin pMod (dBin pIx (dVar 2) (dC (.int 7))) (dC (.int 2)))) aNil)) (gSet 6) (dC (.bl true)) (dPrim pTup (aCons (dBin pIx (dVar 1) (dBin pAdd (dC (.int 4)) (dVar 6))) (aCons (dBin pAdd (dC (.int 1)) (dBin pMod (dBin pIx (dVar 2) (dBin pAdd (dC (.int 4)) (dVar 6))) (dC (.int 8)))) (aCons (dBin (pEq false) (dBin pMod (dBin pDiv (dBin pIx (dVar 2) (dBin pAdd (dC (.int 4)) (dVar 6))) (dC (.int 8))) (dC (.int 2))) (dC (.int 0))) aNil)))) [6]))
  (dSeq (dSet 5 (dLc (iSeq (dPrim (cP (pureOf F_law_stream) []) (aCons (dPrim (cP (pureOf F_law_cell_at) []) (aCons (dVar 0) (aCons (dC (.int 2)) aNil))) (aCons (dBin pMod (dBin pIx (dVar 2) (dC (.int 8))) (dC (.int 7))) aNil)))) (gSet 7) (dC (.bl true)) (dPrim (cP (pureOf F_law_value_by) []) (aCons (dVar 7) aNil)) [7]))
  (dRet (dPrim pTup (aCons (dSl pSl (dVar 1) (oSome (dC (.int 6))) (oSome (dC (.int 10)))) (aCons (dVar 3) (aCons (dVar 4) (aCons (dVar 5) aNil)))))))))))
def F_law_world : PL := runF 1 8 b_law_world
def b_law_led : DS := (dSeq (dIfS (dBin (pEq false) (dBin pMod (dBin pIx (dVar 0) (dC (.int 4))) (dC (.int 6))) (dC (.int 0))) (dRet (dBin pMod (dBin pIx (dVar 0) (dC (.int 5))) (dVar 2))) dNext)
  (dRet (dBin pAdd (dBin pAdd (dVar 1) (dC (.int 1))) (dBin pMod (dBin pIx (dVar 0) (dC (.int 5))) (dBin pSub (dBin pSub (dVar 2) (dC (.int 1))) (dVar 1))))))
def F_law_led : PL := runF 3 3 b_law_led
def b_law_row : DS := (dSeq (dAsg (dVar 3) (gTupD 4 (gsCons (gSet 11) (gsCons (gSet 12) (gsCons (gSet 13) (gsCons (gSet 14) gsNil))))))
  (dSeq (dSet 4 (dPrim (cP (pureOf F_law_stream) []) (aCons (dVar 0) (aCons (dC (.int 8)) aNil))))
  (dSeq (dSet 5 (dBin pIx (dVar 11) (dBin pMod (dBin pIx (dVar 4) (dC (.int 1))) (dPrim pLen (aCons (dVar 11) aNil)))))
  (dSeq (dSet 6 (dBin pIx (dBin pIx (dVar 12) (dBin pMod (dBin pIx (dVar 4) (dC (.int 6))) (dPrim pLen (aCons (dVar 12) aNil)))) (dC (.int 0))))
  (dSeq (dSet 7 (dBin pIx (dBin pIx (dVar 13) (dBin pMod (dBin pIx (dVar 4) (dC (.int 6))) (dPrim pLen (aCons (dVar 13) aNil)))) (dC (.int 0))))
  (dSeq (dSet 8 (dPrim (cP (pureOf F_law_atom) []) (aCons (dBin pIx (dVar 4) (dC (.int 2))) (aCons (dVar 11) aNil))))
  (dSeq (dSet 9 (dPrim (cP (pureOf F_law_atom) []) (aCons (dBin pIx (dVar 4) (dC (.int 3))) (aCons (dVar 11) aNil))))
  (dSeq (dSet 10 (dBin pMod (dBin pIx (dVar 4) (dC (.int 0))) (dC (.int 23))))
  (dSeq (dIfS (dBin pLt (dVar 10) (dC (.int 5))) (dRet (dPrim pTup (aCons (dC (.str "op")) (aCons (dVar 5) (aCons (dBin pIx (dC (.str "+-*<=&|^")) (dBin pMod (dBin pIx (dVar 4) (dC (.int 7))) (dC (.int 8)))) (aCons (dVar 8) (aCons (dVar 9) aNil))))))) dNext)
  (dSeq (dIfS (dBin pLt (dVar 10) (dC (.int 17))) (dRet (dBin pIx (dPrim pLst (aCons (dPrim pTup (aCons (dC (.str "load")) (aCons (dVar 5) (aCons (dVar 6) aNil)))) (aCons (dPrim pTup (aCons (dC (.str "store")) (aCons (dVar 6) (aCons (dVar 8) aNil)))) (aCons (dPrim pTup (aCons (dC (.str "take")) (aCons (dVar 5) (aCons (dVar 7) (aCons (dVar 8) aNil))))) (aCons (dPrim pTup (aCons (dC (.str "lay")) (aCons (dVar 7) (aCons (dVar 8) (aCons (dVar 9) aNil))))) aNil))))) (dBin pMod (dVar 10) (dC (.int 4))))) dNext)
  (dSeq (dIfS (dBin pLt (dVar 10) (dC (.int 20))) (dRet (dBin pIx (dPrim pLst (aCons (dPrim pTup (aCons (dC (.str "copy")) (aCons (dVar 5) (aCons (dVar 8) aNil)))) (aCons (dPrim pTup (aCons (dC (.str "hear")) (aCons (dVar 5) aNil))) (aCons (dPrim pTup (aCons (dC (.str "say")) (aCons (dVar 8) aNil))) aNil)))) (dBin pMod (dVar 10) (dC (.int 3))))) dNext)
  (dSeq (dIfS (dBin pLt (dVar 10) (dC (.int 22))) (dRet (dPrim pTup (aCons (dC (.str "if")) (aCons (dVar 5) (aCons (dPrim (cP (pureOf F_law_led) []) (aCons (dVar 4) (aCons (dVar 1) (aCons (dVar 2) aNil)))) aNil))))) dNext)
  (dRet (dBin pIx (dPrim pLst (aCons (dPrim pTup (aCons (dC (.str "end")) (aCons (dVar 8) aNil))) (aCons (dPrim pTup (aCons (dC (.str "say")) (aCons (dVar 9) aNil))) (aCons (dPrim pTup (aCons (dC (.str "go")) (aCons (dPrim (cP (pureOf F_law_led) []) (aCons (dVar 4) (aCons (dVar 1) (aCons (dVar 2) aNil)))) aNil))) aNil)))) (dBin pMod (dBin pDiv (dBin pIx (dVar 4) (dC (.int 5))) (dC (.int 64))) (dC (.int 3)))))))))))))))))
def F_law_row : PL := runF 4 15 b_law_row
def b_law_program : DS := (dSeq (dSet 3 (dLc (iRange1 (aCons (dPrim pLen (aCons (dVar 0) aNil)) aNil)) (gSet 4) (dC (.bl true)) (dPrim (cP (pureOf F_law_row) []) (aCons (dBin pIx (dVar 0) (dVar 4)) (aCons (dVar 4) (aCons (dBin pAdd (dPrim pLen (aCons (dVar 0) aNil)) (dC (.int 1))) (aCons (dVar 1) aNil))))) [4]))
  (dRet (dPrim pTup (aCons (dPrim pTuple (aCons (dBin pIx (dVar 1) (dC (.int 1))) aNil)) (aCons (dPrim pTuple (aCons (dBin pIx (dVar 1) (dC (.int 2))) aNil)) (aCons (dBin pAdd (dPrim pTuple (aCons (dVar 3) aNil)) (dPrim pTup (aCons (dPrim pTup (aCons (dC (.str "end")) (aCons (dVar 2) aNil))) aNil))) aNil))))))
def F_law_program : PL := runF 3 5 b_law_program
def b_law_some : DS := (dRet (dPrim pTuple (aCons (dPrim pSorted (aCons (dLc (iRange1 (aCons (dPrim pLen (aCons (dVar 1) aNil)) aNil)) (gSet 2) (dBin (pEq false) (dBin pAnd (dBin pShr (dVar 0) (dVar 2)) (dC (.int 1))) (dC (.int 1))) (dBin pIx (dVar 1) (dVar 2)) [2]) aNil)) aNil)))
def F_law_some : PL := runF 2 3 b_law_some
def b_law_cutting : DS := (dSeq (dSet 3 (dBin pIx (dVar 0) (dC (.int 2))))
  (dSeq (dSet 4 (dPrim (cP (pureOf F_law_stream) []) (aCons (dVar 1) (aCons (dBin pAdd (dPrim pLen (aCons (dVar 3) aNil)) (dC (.int 2))) aNil))))
  (dSeq (dSet 5 (dBin pIx (dPrim pLst (aCons (dC (.int 2)) (aCons (dC (.int 3)) (aCons (dC (.int 5)) aNil)))) (dBin pMod (dBin pIx (dVar 4) (dC (.int 0))) (dC (.int 3)))))
  (dSeq (dSet 6 (dPrim pLstM aNil))
  (dSeq (dFor (iRange1 (aCons (dPrim pLen (aCons (dVar 3) aNil)) aNil)) (gSet 7) (dIfS (dOr (dBin (pEq false) (dBin pIx (dBin pIx (dVar 3) (dVar 7)) (dC (.int 0))) (dC (.str "end"))) (dBin (pEq false) (dBin pMod (dBin pIx (dVar 4) (dBin pAdd (dVar 7) (dC (.int 1)))) (dVar 5)) (dC (.int 0)))) (dExpr (dMt pAppend (dVar 6) (aCons (dPrim pTup (aCons (dVar 7) (aCons (dPrim (cP (pureOf F_law_some) []) (aCons (dBin pDiv (dBin pIx (dVar 4) (dBin pAdd (dVar 7) (dC (.int 1)))) (dC (.int 30))) (aCons (dVar 2) aNil))) aNil))) aNil))) dNext))
  (dRet (dPrim pTup (aCons (dPrim (cP (pureOf F_law_some) []) (aCons (dBin pIx (dVar 4) (dUn pNeg (dC (.int 1)))) (aCons (dVar 2) aNil))) (aCons (dPrim pTuple (aCons (dVar 6) aNil)) aNil)))))))))
def F_law_cutting : PL := runF 3 8 b_law_cutting
def b_law_failings : DS := (dSeq (dSet 1 (dPrim pLstM aNil))
  (dSeq (dFor (iSeq (dVar 0)) (gSet 2) (dSeq (dSet 3 (dPrim (cP (pureOf F_law_stream) []) (aCons (dVar 2) (aCons (dC (.int 3)) aNil))))
  (dSeq (dSet 4 (dBin pMod (dBin pIx (dVar 3) (dC (.int 0))) (dC (.int 15))))
  (dSeq (dIfS (dBin (pEq false) (dBin pMod (dBin pIx (dVar 3) (dC (.int 2))) (dC (.int 5))) (dC (.int 0))) (dSet 4 (dBin pMod (dBin pIx (dVar 3) (dC (.int 0))) (dC (.int 100)))) dNext)
  (dExpr (dMt pAppend (dVar 1) (aCons (dPrim pTup (aCons (dVar 4) (aCons (dPrim (cP (pureOf F_law_value_by) []) (aCons (dBin pIx (dVar 3) (dC (.int 1))) aNil)) aNil))) aNil)))))))
  (dRet (dVar 1))))
def F_law_failings : PL := runF 1 5 b_law_failings
def b_law_by_hand : DS := (dSeq (dSet 3 (dC (.int 0)))
  (dSeq (dSet 4 (dVar 2))
  (dSeq (dFor (iSeq (dVar 1)) (gTupD 2 (gsCons (gSet 6) (gsCons (gSet 7) gsNil))) (dSeq (dFor (iRange1 (aCons (dPrim pMin (aCons (dVar 6) (aCons (dVar 4) aNil))) aNil)) (gSet 5) (dSeq (dSet 3 (dBin pAdd (dVar 3) (dPrim pInt (aCons (dNot (dMeth "House" "rests" F_House_rests [] (dVar 0) aNil)) aNil))))
  (dExpr (dMeth "House" "step" F_House_step [] (dVar 0) aNil))))
  (dSeq (dIfS (dBin pGt (dVar 6) (dVar 4)) (dRet (dVar 3)) dNext)
  (dSeq (dSet 4 (dBin pSub (dVar 4) (dVar 6)))
  (dExpr (dMeth "House" "fail" F_House_fail [] (dVar 0) (aCons (dVar 7) aNil)))))))
  (dSeq (dFor (iRange1 (aCons (dVar 4) aNil)) (gSet 5) (dSeq (dSet 3 (dBin pAdd (dVar 3) (dPrim pInt (aCons (dNot (dMeth "House" "rests" F_House_rests [] (dVar 0) aNil)) aNil))))
  (dExpr (dMeth "House" "step" F_House_step [] (dVar 0) aNil))))
  (dRet (dVar 3))))))
def F_law_by_hand : PL := runF 3 8 b_law_by_hand
def b_law_same : DS := (dSeq (dFor (iSeq (dPrim pTup (aCons (dC (.int 0)) (aCons (dC (.int 1)) aNil)))) (gSet 4) (dIfS (dBin (pEq true) (dMeth "House" "page" F_House_page [] (dVar 0) (aCons (dVar 4) aNil)) (dMeth "House" "page" F_House_page [] (dVar 1) (aCons (dVar 4) aNil))) (dRet (dC (.bl false))) dNext))
  (dSeq (dIfS (dOr (dBin (pEq true) (dMeth "House" "face" F_House_face [] (dVar 0) aNil) (dMeth "House" "face" F_House_face [] (dVar 1) aNil)) (dOr (dBin (pEq true) (dMeth "House" "letters" F_House_letters [] (dVar 0) aNil) (dMeth "House" "letters" F_House_letters [] (dVar 1) aNil)) (dBin (pEq true) (dMeth "House" "answer" F_House_answer [] (dVar 0) aNil) (dMeth "House" "answer" F_House_answer [] (dVar 1) aNil)))) (dRet (dC (.bl false))) dNext)
  (dSeq (dFor (iSeq (dBin pIx (dVar 2) (dC (.int 0)))) (gTupD 3 (gsCons (gSet 5) (gsCons (gSet 6) (gsCons (gSet 7) gsNil)))) (dIfS (dBin (pEq true) (dMeth "House" "cell" F_House_cell [] (dVar 0) (aCons (dVar 5) aNil)) (dMeth "House" "cell" F_House_cell [] (dVar 1) (aCons (dVar 5) aNil))) (dRet (dC (.bl false))) dNext))
  (dSeq (dFor (iSeq (dBin pIx (dVar 2) (dC (.int 1)))) (gTupD 3 (gsCons (gSet 5) (gsCons (gSet 8) (gsCons (gSet 7) gsNil)))) (dIfS (dBin (pEq true) (dMeth "House" "shelf" F_House_shelf [] (dVar 0) (aCons (dVar 5) aNil)) (dMeth "House" "shelf" F_House_shelf [] (dVar 1) (aCons (dVar 5) aNil))) (dRet (dC (.bl false))) dNext))
  (dSeq (dIfS (dOr (dBin (pEq true) (dMeth "House" "stands" F_House_stands [] (dVar 0) aNil) (dMeth "House" "stands" F_House_stands [] (dVar 1) aNil)) (dOr (dBin (pEq true) (dMeth "House" "count" F_House_count [] (dVar 0) aNil) (dMeth "House" "count" F_House_count [] (dVar 1) aNil)) (dBin (pEq true) (dMeth "House" "torn" F_House_torn [] (dVar 0) aNil) (dMeth "House" "torn" F_House_torn [] (dVar 1) aNil)))) (dRet (dC (.bl false))) dNext)
  (dRet (dBin (pEq false) (dLc (iSeq (dVar 3)) (gSet 5) (dC (.bl true)) (dMeth "House" "box" F_House_box [] (dVar 0) (aCons (dVar 5) aNil)) [5]) (dLc (iSeq (dVar 3)) (gSet 5) (dC (.bl true)) (dMeth "House" "box" F_House_box [] (dVar 1) (aCons (dVar 5) aNil)) [5]))))))))
def F_law_same : PL := runF 4 9 b_law_same
def b_law_whole : DS := (dRet (dAnd (dIsi .int (dVar 0)) (dAnd (dNot (dIsi .bool (dVar 0))) (dBin (pEq false) (dVar 0) (dVar 1)))))
def F_law_whole : PL := runF 2 2 b_law_whole
def b_law_ends : DS := (dSeq (dSet 2 (dMake "Plain" F_Plain_init [] (aCons (dVar 0) (aCons (dVar 1) aNil))))
  (dSeq (dFor (iRange1 (aCons (dC (.int 60)) aNil)) (gSet 3) (dExpr (dMeth "Plain" "step" F_Plain_step [] (dVar 2) aNil)))
  (dRet (dMeth "Plain" "ended" F_Plain_ended [] (dVar 2) aNil))))
def F_law_ends : PL := runF 2 4 b_law_ends
def b_law : DS := (dSeq (dSet 1 (dPrim (cP (pureOf F_law_world) []) (aCons (dVar 0) aNil)))
  (dSeq (dSet 2 (dPrim (cP (pureOf F_law_names) []) (aCons (dPrim (cP (pureOf F_law_cell_at) []) (aCons (dVar 0) (aCons (dC (.int 0)) aNil))) (aCons (dC (.int 12)) aNil))))
  (dSeq (dSet 3 (dPrim (cP (pureOf F_law_program) []) (aCons (dSl pSl (dVar 0) (oSome (dC (.int 5))) (oSome (dC (.int 25)))) (aCons (dVar 1) (aCons (dPrim (cP (pureOf F_law_atom) []) (aCons (dBin pMod (dPrim (cP (pureOf F_law_cell_at) []) (aCons (dVar 0) (aCons (dC (.int 3)) aNil))) (dC (.int 2147483629))) (aCons (dBin pIx (dVar 1) (dC (.int 0))) aNil))) aNil)))))
  (dSeq (dSet 4 (dPrim (cP (pureOf F_law_cutting) []) (aCons (dVar 3) (aCons (dPrim (cP (pureOf F_law_cell_at) []) (aCons (dVar 0) (aCons (dC (.int 4)) aNil))) (aCons (dSl pSl (dVar 2) (oSome (dC (.int 5))) (oSome (dC (.int 11)))) aNil)))))
  (dSeq (dSet 5 (dPrim (cP (pureOf F_law_failings) []) (aCons (dSl pSl (dVar 0) (oSome (dC (.int 25))) (oSome (dC (.int 45)))) aNil)))
  (dSeq (dSet 6 (dPrim (cP (pureOf F_law_stream) []) (aCons (dPrim (cP (pureOf F_law_cell_at) []) (aCons (dVar 0) (aCons (dC (.int 3)) aNil))) (aCons (dC (.int 4)) aNil))))
  (dSeq (dSet 7 (dBin pMod (dBin pIx (dVar 6) (dC (.int 0))) (dC (.int 151))))
  (dSeq (dIfS (dBin (pEq false) (dBin pMod (dBin pIx (dVar 6) (dC (.int 1))) (dC (.int 2))) (dC (.int 0))) (dSet 7 (dPrim pSum (aCons (dLc (iSeq (dSl pSl (dVar 5) oNone (oSome (dBin pMod (dBin pIx (dVar 6) (dC (.int 2))) (dC (.int 5)))))) (gTupD 2 (gsCons (gSet 12) (gsCons (gSet 13) gsNil))) (dC (.bl true)) (dVar 12) [12, 13]) aNil))) dNext)
  (dSeq (dSet 8 (dPrim pList (aCons (dVar 5) aNil)))
  (dSeq (dSet 9 (dMake "House" F_House_init [] (aCons (dVar 3) (aCons (dVar 4) (aCons (dBin pIx (dVar 1) (dC (.int 3))) aNil)))))
  (dSeq (dSet 10 (dMake "House" F_House_init [] (aCons (dVar 3) (aCons (dVar 4) (aCons (dBin pIx (dVar 1) (dC (.int 3))) aNil)))))
  (dSeq (dSet 11 (dPrim (cS F_drive []) (aCons (dVar 9) (aCons (dVar 8) (aCons (dVar 7) aNil)))))
  (dSeq (dIfS (dOr (dNot (dPrim (cP (pureOf F_law_whole) []) (aCons (dVar 11) (aCons (dPrim (cS F_law_by_hand []) (aCons (dVar 10) (aCons (dVar 5) (aCons (dVar 7) aNil)))) aNil)))) (dNot (dPrim (cS F_law_same []) (aCons (dVar 9) (aCons (dVar 10) (aCons (dVar 3) (aCons (dVar 2) aNil))))))) (dRet (dC (.bl false))) dNext)
  (dSeq (dIfS (dNot (dPrim (cP (pureOf F_law_ends) []) (aCons (dVar 3) (aCons (dBin pIx (dVar 1) (dC (.int 3))) aNil)))) (dRet (dBin (pEq false) (dVar 8) (dVar 5))) dNext)
  (dSeq (dSet 9 (dMake "House" F_House_init [] (aCons (dVar 3) (aCons (dVar 4) (aCons (dBin pIx (dVar 1) (dC (.int 3))) aNil)))))
  (dSeq (dSet 10 (dMake "House" F_House_init [] (aCons (dVar 3) (aCons (dVar 4) (aCons (dBin pIx (dVar 1) (dC (.int 3))) aNil)))))
  (dSeq (dSet 11 (dPrim (cS F_drive [.int 1000]) (aCons (dVar 9) (aCons (dSl pSl (dVar 8) oNone (oSome (dC (.int 4)))) aNil))))
  (dSeq (dIfS (dNot (dPrim (cP (pureOf F_law_whole) []) (aCons (dVar 11) (aCons (dPrim (cS F_law_by_hand []) (aCons (dVar 10) (aCons (dSl pSl (dVar 5) oNone (oSome (dC (.int 4)))) (aCons (dC (.int 1000)) aNil)))) aNil)))) (dRet (dC (.bl false))) dNext)
  (dRet (dAnd (dPrim (cS F_law_same []) (aCons (dVar 9) (aCons (dVar 10) (aCons (dVar 3) (aCons (dVar 2) aNil))))) (dBin (pEq false) (dVar 8) (dVar 5))))))))))))))))))))))
def F_law : PL := runF 1 14 b_law
/-! ### facts of the head -/
def d_ways_of : He.DefD := ⟨("ways_of", none), "ways_of", "ways_of", defArgs s_ways_of, defBody s_ways_of, defScope s_ways_of, [], []⟩
def d_ways : He.DefD := ⟨("ways", none), "ways", "ways", defArgs s_ways, defBody s_ways, defScope s_ways, [], []⟩
def d_value : He.DefD := ⟨("value", none), "value", "value", defArgs s_value, defBody s_value, defScope s_value, [], []⟩
def d_Hand_init : He.DefD := ⟨("Hand", some "__init__"), "__init__", "Hand.__init__", defArgs s_Hand_init, defBody s_Hand_init, defScope s_Hand_init, [], []⟩
def d_Hand_take : He.DefD := ⟨("Hand", some "take"), "take", "Hand.take", defArgs s_Hand_take, defBody s_Hand_take, defScope s_Hand_take, [], []⟩
def d_Hand_kept : He.DefD := ⟨("Hand", some "kept"), "kept", "Hand.kept", defArgs s_Hand_kept, defBody s_Hand_kept, defScope s_Hand_kept, [], []⟩
def d_Hand_torn : He.DefD := ⟨("Hand", some "torn"), "torn", "Hand.torn", defArgs s_Hand_torn, defBody s_Hand_torn, defScope s_Hand_torn, [], []⟩
def d_Phase_at_row : He.DefD := ⟨("Phase", some "at_row"), "at_row", "Phase.at_row", defArgs s_Phase_at_row, defBody s_Phase_at_row, defScope s_Phase_at_row, [], []⟩
def d_Phase_goes : He.DefD := ⟨("Phase", some "goes"), "goes", "Phase.goes", defArgs s_Phase_goes, defBody s_Phase_goes, defScope s_Phase_goes, [], []⟩
def d_Up_init : He.DefD := ⟨("Up", some "__init__"), "__init__", "Up.__init__", defArgs s_Up_init, defBody s_Up_init, defScope s_Up_init, [], []⟩
def d_Up_goes : He.DefD := ⟨("Up", some "goes"), "goes", "Up.goes", defArgs s_Up_goes, defBody s_Up_goes, defScope s_Up_goes, [], []⟩
def d_Going_init : He.DefD := ⟨("Going", some "__init__"), "__init__", "Going.__init__", defArgs s_Going_init, defBody s_Going_init, defScope s_Going_init, [], []⟩
def d_Going_at_row : He.DefD := ⟨("Going", some "at_row"), "at_row", "Going.at_row", defArgs s_Going_at_row, defBody s_Going_at_row, defScope s_Going_at_row, [], []⟩
def d_Going_goes : He.DefD := ⟨("Going", some "goes"), "goes", "Going.goes", defArgs s_Going_goes, defBody s_Going_goes, defScope s_Going_goes, [], []⟩
def d_Keeping_init : He.DefD := ⟨("Keeping", some "__init__"), "__init__", "Keeping.__init__", defArgs s_Keeping_init, defBody s_Keeping_init, defScope s_Keeping_init, [], []⟩
def d_Keeping_goes : He.DefD := ⟨("Keeping", some "goes"), "goes", "Keeping.goes", defArgs s_Keeping_goes, defBody s_Keeping_goes, defScope s_Keeping_goes, [], []⟩
def d_Page_init : He.DefD := ⟨("Page", some "__init__"), "__init__", "Page.__init__", defArgs s_Page_init, defBody s_Page_init, defScope s_Page_init, [], []⟩
def d_Store_init : He.DefD := ⟨("Store", some "__init__"), "__init__", "Store.__init__", defArgs s_Store_init, defBody s_Store_init, defScope s_Store_init, [], []⟩
def d_Store_cell : He.DefD := ⟨("Store", some "cell"), "cell", "Store.cell", defArgs s_Store_cell, defBody s_Store_cell, defScope s_Store_cell, [], []⟩
def d_Store_shelf : He.DefD := ⟨("Store", some "shelf"), "shelf", "Store.shelf", defArgs s_Store_shelf, defBody s_Store_shelf, defScope s_Store_shelf, [], []⟩
def d_Store_get_home : He.DefD := ⟨("Store", some "get_home"), "get_home", "Store.get_home", defArgs s_Store_get_home, defBody s_Store_get_home, defScope s_Store_get_home, [], []⟩
def d_Store_put : He.DefD := ⟨("Store", some "put"), "put", "Store.put", defArgs s_Store_put, defBody s_Store_put, defScope s_Store_put, [], []⟩
def d_Store_face : He.DefD := ⟨("Store", some "face"), "face", "Store.face", defArgs s_Store_face, defBody s_Store_face, defScope s_Store_face, [], []⟩
def d_Store_page : He.DefD := ⟨("Store", some "page"), "page", "Store.page", defArgs s_Store_page, defBody s_Store_page, defScope s_Store_page, [], []⟩
def d_Store_begin_page : He.DefD := ⟨("Store", some "begin_page"), "begin_page", "Store.begin_page", defArgs s_Store_begin_page, defBody s_Store_begin_page, defScope s_Store_begin_page, [], []⟩
def d_Store_keep_box : He.DefD := ⟨("Store", some "keep_box"), "keep_box", "Store.keep_box", defArgs s_Store_keep_box, defBody s_Store_keep_box, defScope s_Store_keep_box, [], []⟩
def d_Store_keep_turn : He.DefD := ⟨("Store", some "keep_turn"), "keep_turn", "Store.keep_turn", defArgs s_Store_keep_turn, defBody s_Store_keep_turn, defScope s_Store_keep_turn, [], []⟩
def d_Store_turn : He.DefD := ⟨("Store", some "turn"), "turn", "Store.turn", defArgs s_Store_turn, defBody s_Store_turn, defScope s_Store_turn, [], []⟩
def d_Store_answer : He.DefD := ⟨("Store", some "answer"), "answer", "Store.answer", defArgs s_Store_answer, defBody s_Store_answer, defScope s_Store_answer, [], []⟩
def d_Store_give : He.DefD := ⟨("Store", some "give"), "give", "Store.give", defArgs s_Store_give, defBody s_Store_give, defScope s_Store_give, [], []⟩
def d_twins_of : He.DefD := ⟨("twins_of", none), "twins_of", "twins_of", defArgs s_twins_of, defBody s_twins_of, defScope s_twins_of, [], []⟩
def d_House_init : He.DefD := ⟨("House", some "__init__"), "__init__", "House.__init__", defArgs s_House_init, defBody s_House_init, defScope s_House_init, [], []⟩
def d_House_lose : He.DefD := ⟨("House", some "lose"), "lose", "House.lose", defArgs s_House_lose, defBody s_House_lose, defScope s_House_lose, [], []⟩
def d_House_fail : He.DefD := ⟨("House", some "fail"), "fail", "House.fail", defArgs s_House_fail, defBody s_House_fail, defScope s_House_fail, [], []⟩
def d_House_step : He.DefD := ⟨("House", some "step"), "step", "House.step", defArgs s_House_step, defBody s_House_step, defScope s_House_step, [], []⟩
def d_House_rests : He.DefD := ⟨("House", some "rests"), "rests", "House.rests", defArgs s_House_rests, defBody s_House_rests, defScope s_House_rests, [], []⟩
def d_House_stands : He.DefD := ⟨("House", some "stands"), "stands", "House.stands", defArgs s_House_stands, defBody s_House_stands, defScope s_House_stands, [], []⟩
def d_House_answer : He.DefD := ⟨("House", some "answer"), "answer", "House.answer", defArgs s_House_answer, defBody s_House_answer, defScope s_House_answer, [], []⟩
def d_House_cell : He.DefD := ⟨("House", some "cell"), "cell", "House.cell", defArgs s_House_cell, defBody s_House_cell, defScope s_House_cell, [], []⟩
def d_House_shelf : He.DefD := ⟨("House", some "shelf"), "shelf", "House.shelf", defArgs s_House_shelf, defBody s_House_shelf, defScope s_House_shelf, [], []⟩
def d_House_letters : He.DefD := ⟨("House", some "letters"), "letters", "House.letters", defArgs s_House_letters, defBody s_House_letters, defScope s_House_letters, [], []⟩
def d_House_torn : He.DefD := ⟨("House", some "torn"), "torn", "House.torn", defArgs s_House_torn, defBody s_House_torn, defScope s_House_torn, [], []⟩
def d_House_face : He.DefD := ⟨("House", some "face"), "face", "House.face", defArgs s_House_face, defBody s_House_face, defScope s_House_face, [], []⟩
def d_House_page : He.DefD := ⟨("House", some "page"), "page", "House.page", defArgs s_House_page, defBody s_House_page, defScope s_House_page, [], []⟩
def d_House_box : He.DefD := ⟨("House", some "box"), "box", "House.box", defArgs s_House_box, defBody s_House_box, defScope s_House_box, [], []⟩
def d_House_count : He.DefD := ⟨("House", some "count"), "count", "House.count", defArgs s_House_count, defBody s_House_count, defScope s_House_count, [], []⟩
def d_House_come_up : He.DefD := ⟨("House", some "come_up"), "come_up", "House.come_up", defArgs s_House_come_up, defBody s_House_come_up, defScope s_House_come_up, [], []⟩
def d_House_boxes_kept : He.DefD := ⟨("House", some "boxes_kept"), "boxes_kept", "House.boxes_kept", defArgs s_House_boxes_kept, defBody s_House_boxes_kept, defScope s_House_boxes_kept, [], []⟩
def d_House_small_steps : He.DefD := ⟨("House", some "small_steps"), "small_steps", "House.small_steps", defArgs s_House_small_steps, defBody s_House_small_steps, defScope s_House_small_steps, [], []⟩
def d_House_small_step : He.DefD := ⟨("House", some "small_step"), "small_step", "House.small_step", defArgs s_House_small_step, defBody s_House_small_step, defScope s_House_small_step, [], []⟩
def d_House_settle : He.DefD := ⟨("House", some "settle"), "settle", "House.settle", defArgs s_House_settle, defBody s_House_settle, defScope s_House_settle, [], []⟩
def d_House_forget_log : He.DefD := ⟨("House", some "forget_log"), "forget_log", "House.forget_log", defArgs s_House_forget_log, defBody s_House_forget_log, defScope s_House_forget_log, [], []⟩
def d_House_worth : He.DefD := ⟨("House", some "worth"), "worth", "House.worth", defArgs s_House_worth, defBody s_House_worth, defScope s_House_worth, [], []⟩
def d_House_place_of : He.DefD := ⟨("House", some "place_of"), "place_of", "House.place_of", defArgs s_House_place_of, defBody s_House_place_of, defScope s_House_place_of, [], []⟩
def d_House_seen : He.DefD := ⟨("House", some "seen"), "seen", "House.seen", defArgs s_House_seen, defBody s_House_seen, defScope s_House_seen, [], []⟩
def d_House_written : He.DefD := ⟨("House", some "written"), "written", "House.written", defArgs s_House_written, defBody s_House_written, defScope s_House_written, [], []⟩
def d_House_do_row : He.DefD := ⟨("House", some "do_row"), "do_row", "House.do_row", defArgs s_House_do_row, defBody s_House_do_row, defScope s_House_do_row, [], []⟩
def d_House_brought : He.DefD := ⟨("House", some "brought"), "brought", "House.brought", defArgs s_House_brought, defBody s_House_brought, defScope s_House_brought, [], []⟩
def d_stepped : He.DefD := ⟨("stepped", none), "stepped", "stepped", defArgs s_stepped, defBody s_stepped, defScope s_stepped, [], []⟩
def d_drive : He.DefD := ⟨("drive", none), "drive", "drive", defArgs s_drive, defBody s_drive, defScope s_drive, [.int 1000], []⟩
def d_Plain_init : He.DefD := ⟨("Plain", some "__init__"), "__init__", "Plain.__init__", defArgs s_Plain_init, defBody s_Plain_init, defScope s_Plain_init, [], []⟩
def d_Plain_worth : He.DefD := ⟨("Plain", some "worth"), "worth", "Plain.worth", defArgs s_Plain_worth, defBody s_Plain_worth, defScope s_Plain_worth, [], []⟩
def d_Plain_ended : He.DefD := ⟨("Plain", some "ended"), "ended", "Plain.ended", defArgs s_Plain_ended, defBody s_Plain_ended, defScope s_Plain_ended, [], []⟩
def d_Plain_step : He.DefD := ⟨("Plain", some "step"), "step", "Plain.step", defArgs s_Plain_step, defBody s_Plain_step, defScope s_Plain_step, [], []⟩
def d_Plain_put_out : He.DefD := ⟨("Plain", some "put_out"), "put_out", "Plain.put_out", defArgs s_Plain_put_out, defBody s_Plain_put_out, defScope s_Plain_put_out, [], []⟩
def d_Plain_brought : He.DefD := ⟨("Plain", some "brought"), "brought", "Plain.brought", defArgs s_Plain_brought, defBody s_Plain_brought, defScope s_Plain_brought, [], []⟩
def d_law_cell_at : He.DefD := ⟨("_law_cell_at", none), "_law_cell_at", "_law_cell_at", defArgs s_law_cell_at, defBody s_law_cell_at, defScope s_law_cell_at, [], []⟩
def d_law_stream : He.DefD := ⟨("_law_stream", none), "_law_stream", "_law_stream", defArgs s_law_stream, defBody s_law_stream, defScope s_law_stream, [], []⟩
def d_law_names : He.DefD := ⟨("_law_names", none), "_law_names", "_law_names", defArgs s_law_names, defBody s_law_names, defScope s_law_names, [], []⟩
def d_law_value_by : He.DefD := ⟨("_law_value_by", none), "_law_value_by", "_law_value_by", defArgs s_law_value_by, defBody s_law_value_by, defScope s_law_value_by, [], []⟩
def d_law_atom : He.DefD := ⟨("_law_atom", none), "_law_atom", "_law_atom", defArgs s_law_atom, defBody s_law_atom, defScope s_law_atom, [], []⟩
def d_law_world : He.DefD := ⟨("_law_world", none), "_law_world", "_law_world", defArgs s_law_world, defBody s_law_world, defScope s_law_world, [], []⟩
def d_law_led : He.DefD := ⟨("_law_led", none), "_law_led", "_law_led", defArgs s_law_led, defBody s_law_led, defScope s_law_led, [], []⟩
def d_law_row : He.DefD := ⟨("_law_row", none), "_law_row", "_law_row", defArgs s_law_row, defBody s_law_row, defScope s_law_row, [], []⟩
def d_law_program : He.DefD := ⟨("_law_program", none), "_law_program", "_law_program", defArgs s_law_program, defBody s_law_program, defScope s_law_program, [], []⟩
def d_law_some : He.DefD := ⟨("_law_some", none), "_law_some", "_law_some", defArgs s_law_some, defBody s_law_some, defScope s_law_some, [], []⟩
def d_law_cutting : He.DefD := ⟨("_law_cutting", none), "_law_cutting", "_law_cutting", defArgs s_law_cutting, defBody s_law_cutting, defScope s_law_cutting, [], []⟩
def d_law_failings : He.DefD := ⟨("_law_failings", none), "_law_failings", "_law_failings", defArgs s_law_failings, defBody s_law_failings, defScope s_law_failings, [], []⟩
def d_law_by_hand : He.DefD := ⟨("_law_by_hand", none), "_law_by_hand", "_law_by_hand", defArgs s_law_by_hand, defBody s_law_by_hand, defScope s_law_by_hand, [], []⟩
def d_law_same : He.DefD := ⟨("_law_same", none), "_law_same", "_law_same", defArgs s_law_same, defBody s_law_same, defScope s_law_same, [], []⟩
def d_law_whole : He.DefD := ⟨("_law_whole", none), "_law_whole", "_law_whole", defArgs s_law_whole, defBody s_law_whole, defScope s_law_whole, [], []⟩
def d_law_ends : He.DefD := ⟨("_law_ends", none), "_law_ends", "_law_ends", defArgs s_law_ends, defBody s_law_ends, defScope s_law_ends, [], []⟩
def d_law : He.DefD := ⟨("law", none), "law", "law", defArgs s_law, defBody s_law, defScope s_law, [], []⟩
def fn0 : List He.DefD := [d_ways_of, d_ways, d_value, d_Hand_init, d_Hand_take, d_Hand_kept, d_Hand_torn, d_Phase_at_row, d_Phase_goes, d_Up_init, d_Up_goes, d_Going_init, d_Going_at_row, d_Going_goes, d_Keeping_init, d_Keeping_goes, d_Page_init, d_Store_init, d_Store_cell, d_Store_shelf, d_Store_get_home, d_Store_put, d_Store_face, d_Store_page, d_Store_begin_page, d_Store_keep_box, d_Store_keep_turn, d_Store_turn, d_Store_answer, d_Store_give]
def fn1 : List He.DefD := [d_twins_of, d_House_init, d_House_lose, d_House_fail, d_House_step, d_House_rests, d_House_stands, d_House_answer, d_House_cell, d_House_shelf, d_House_letters, d_House_torn, d_House_face, d_House_page, d_House_box, d_House_count, d_House_come_up, d_House_boxes_kept, d_House_small_steps, d_House_small_step, d_House_settle, d_House_forget_log, d_House_worth, d_House_place_of, d_House_seen, d_House_written, d_House_do_row, d_House_brought, d_stepped, d_drive]
def fn2 : List He.DefD := [d_Plain_init, d_Plain_worth, d_Plain_ended, d_Plain_step, d_Plain_put_out, d_Plain_brought, d_law_cell_at, d_law_stream, d_law_names, d_law_value_by, d_law_atom, d_law_world, d_law_led, d_law_row, d_law_program, d_law_some, d_law_cutting, d_law_failings, d_law_by_hand, d_law_same, d_law_whole, d_law_ends, d_law]
def fn : List He.DefD := fn0 ++ fn1 ++ fn2
def fac0 : List He.Fa := [.glo "ways_of", .glo "ways", .glo "value", .glo "twins_of", .glo "stepped", .glo "drive", .glo "_law_cell_at", .glo "_law_stream", .glo "_law_names", .glo "_law_value_by", .glo "_law_atom", .glo "_law_world", .glo "_law_led", .glo "_law_row", .glo "_law_program", .glo "_law_some", .glo "_law_cutting", .glo "_law_failings", .glo "_law_by_hand", .glo "_law_same", .glo "_law_whole", .glo "_law_ends", .glo "law", .glo "Hand", .cls "Hand", .mkr "Hand", .glo "Phase", .cls "Phase", .glo "Resting", .cls "Resting"]
def fac1 : List He.Fa := [.glo "Up", .cls "Up", .mkr "Up", .glo "Going", .cls "Going", .mkr "Going", .glo "Keeping", .cls "Keeping", .mkr "Keeping", .glo "Page", .cls "Page", .mkr "Page", .glo "Store", .cls "Store", .mkr "Store", .glo "House", .cls "House", .mkr "House", .glo "Plain", .cls "Plain", .mkr "Plain", .meth "Hand" "take", .meth "Hand" "kept", .meth "Hand" "torn", .meth "Phase" "at_row", .meth "Phase" "goes", .meth "Up" "goes", .meth "Going" "at_row", .meth "Going" "goes", .meth "Keeping" "goes"]
def fac2 : List He.Fa := [.meth "Store" "cell", .meth "Store" "shelf", .meth "Store" "get_home", .meth "Store" "put", .meth "Store" "face", .meth "Store" "page", .meth "Store" "begin_page", .meth "Store" "keep_box", .meth "Store" "keep_turn", .meth "Store" "turn", .meth "Store" "answer", .meth "Store" "give", .meth "House" "lose", .meth "House" "fail", .meth "House" "step", .meth "House" "rests", .meth "House" "stands", .meth "House" "answer", .meth "House" "cell", .meth "House" "shelf", .meth "House" "letters", .meth "House" "torn", .meth "House" "face", .meth "House" "page", .meth "House" "box", .meth "House" "count", .meth "House" "come_up", .meth "House" "boxes_kept", .meth "House" "small_steps", .meth "House" "small_step"]
def fac3 : List He.Fa := [.meth "House" "settle", .meth "House" "forget_log", .meth "House" "worth", .meth "House" "place_of", .meth "House" "seen", .meth "House" "written", .meth "House" "do_row", .meth "House" "brought", .meth "Plain" "worth", .meth "Plain" "stands", .meth "Plain" "ended", .meth "Plain" "answer", .meth "Plain" "box", .meth "Plain" "cell", .meth "Plain" "shelf", .meth "Plain" "sent", .meth "Plain" "heard", .meth "Plain" "count", .meth "Plain" "step", .meth "Plain" "put_out", .meth "Plain" "brought", .meth "Resting" "goes", .meth "Keeping" "at_row", .meth "Up" "at_row", .meth "Resting" "at_row", .int "WIDE" (1099511627776)]
def fac : List He.Fa := fac0 ++ fac1 ++ fac2 ++ fac3
def fa : List He.Fa := fac ++ frees
def ex (K : PySem.W.Frag) : Bool := atB K AT && mk0B K "Resting" && isB K IT && decide (He.ma K (He.ga K "Phase") "goes" = He.ma K (He.ga K "Resting") "goes") && decide (He.ma K (He.ga K "Phase") "at_row" = He.ma K (He.ga K "Keeping") "at_row") && decide (He.ma K (He.ga K "Phase") "at_row" = He.ma K (He.ga K "Up") "at_row") && decide (He.ma K (He.ga K "Phase") "at_row" = He.ma K (He.ga K "Resting") "at_row")
abbrev Fx (K : PySem.W.Frag) (mg : Str → Option Value) : Prop := Facts fa fn ex K mg
section
variable {K : PySem.W.Frag} {mg : Str → Option Value} {P : Program} {w : World} {base : Heap}
theorem Fx.tb (Y : Fx K mg) : TB mg := Y.tb0 ⟨fac, rfl⟩
theorem Fx.at (Y : Fx K mg) : ATOk K AT := atOk_of (Bool.and_eq_true_iff.mp (Bool.and_eq_true_iff.mp (Bool.and_eq_true_iff.mp (Bool.and_eq_true_iff.mp (Bool.and_eq_true_iff.mp (Bool.and_eq_true_iff.mp (show ex K = true from Y.e)).1).1).1).1).1).1
theorem Fx.mk0_Resting (Y : Fx K mg) : Mk0 K (He.ga K "Resting") := mk0_of (Bool.and_eq_true_iff.mp (Bool.and_eq_true_iff.mp (Bool.and_eq_true_iff.mp (Bool.and_eq_true_iff.mp (Bool.and_eq_true_iff.mp (Bool.and_eq_true_iff.mp (show ex K = true from Y.e)).1).1).1).1).1).2
theorem Fx.isi (Y : Fx K mg) : isB K IT = true := (Bool.and_eq_true_iff.mp (Bool.and_eq_true_iff.mp (Bool.and_eq_true_iff.mp (Bool.and_eq_true_iff.mp (Bool.and_eq_true_iff.mp (show ex K = true from Y.e)).1).1).1).1).2
theorem Fx.inh_Resting_goes (Y : Fx K mg) : He.ma K (He.ga K "Phase") "goes" = He.ma K (He.ga K "Resting") "goes" := of_decide_eq_true (Bool.and_eq_true_iff.mp (Bool.and_eq_true_iff.mp (Bool.and_eq_true_iff.mp (Bool.and_eq_true_iff.mp (show ex K = true from Y.e)).1).1).1).2
theorem Fx.inh_Keeping_at_row (Y : Fx K mg) : He.ma K (He.ga K "Phase") "at_row" = He.ma K (He.ga K "Keeping") "at_row" := of_decide_eq_true (Bool.and_eq_true_iff.mp (Bool.and_eq_true_iff.mp (Bool.and_eq_true_iff.mp (show ex K = true from Y.e)).1).1).2
theorem Fx.inh_Up_at_row (Y : Fx K mg) : He.ma K (He.ga K "Phase") "at_row" = He.ma K (He.ga K "Up") "at_row" := of_decide_eq_true (Bool.and_eq_true_iff.mp (Bool.and_eq_true_iff.mp (show ex K = true from Y.e)).1).2
theorem Fx.inh_Resting_at_row (Y : Fx K mg) : He.ma K (He.ga K "Phase") "at_row" = He.ma K (He.ga K "Resting") "at_row" := of_decide_eq_true (Bool.and_eq_true_iff.mp (show ex K = true from Y.e)).2
theorem sc_ways_of : FnScope ["row", "at"] ["row", "at"] (defScope s_ways_of) := ⟨rfl, rfl, rfl, by decide +kernel, rfl, by decide +kernel, by decide +kernel⟩
theorem ok_ways_of_fn {f : Addr} {fd : FuncData} (FD : FunD K d_ways_of.name d_ways_of.qual d_ways_of.params d_ways_of.body d_ways_of.scope (He.DefD.dvs K d_ways_of) (He.DefD.kws K d_ways_of) f fd) (Y : Fx K mg) : FnOk P w K mg base CX0 1 f fd ["row", "at"] (spS K 2 F_ways_of) := by
  refine fn_ok FD sc_ways_of fun cdv A outer s H E hr => ?_
  exact (sds_cons (sd_if (td_eq hr (ed_ix hr (ed_var (pv 0)) ed_int (fun _ _ => rfl)) ed_str) (sds_one (sd_ret (ed_tup ad_nil))) sds_nil)
  (sds_cons (sd_if (td_eq hr (ed_ix hr (ed_var (pv 0)) ed_int (fun _ _ => rfl)) ed_str) (sds_one (sd_ret (ed_tup (ad_cons (ed_ix hr (ed_var (pv 0)) ed_int (fun _ _ => rfl)) ad_nil)))) sds_nil)
  (sds_cons (sd_if (td_eq hr (ed_ix hr (ed_var (pv 0)) ed_int (fun _ _ => rfl)) ed_str) (sds_one (sd_ret (ed_tup (ad_cons (ed_ix hr (ed_var (pv 0)) ed_int (fun _ _ => rfl)) (ad_cons (ed_add (ed_var (pv 1)) ed_int) ad_nil))))) sds_nil)
  (sds_one (sd_ret (ed_tup (ad_cons (ed_add (ed_var (pv 1)) ed_int) ad_nil)))))))
theorem ok_ways_of (Y : Fx K mg) : FnC P w K mg base "ways_of" 1 ["row", "at"] [] F_ways_of := by
  obtain ⟨fd, FD⟩ := Y.c.def_ 0 (d := d_ways_of) rfl
  exact FnC.of FD (Y.glo 0) (ok_ways_of_fn FD Y) fun _ _ _ _ _ _ us hl => match us, hl with | [_, _], _ => rfl
theorem sc_ways : FnScope ["program", "at", "row"] ["program"] (defScope s_ways) := ⟨rfl, rfl, rfl, by decide +kernel, rfl, by decide +kernel, by decide +kernel⟩
theorem ok_ways_fn {f : Addr} {fd : FuncData} (FD : FunD K d_ways.name d_ways.qual d_ways.params d_ways.body d_ways.scope (He.DefD.dvs K d_ways) (He.DefD.kws K d_ways) f fd) (Y : Fx K mg) : FnOk P w K mg base CX0 2 f fd ["program"] (spS K 1 F_ways) := by
  refine fn_ok FD sc_ways fun cdv A outer s H E hr => ?_
  exact (sds_one (sd_ret (ed_lcM (pe_lc (own := [("at", 1), ("row", 2)]) rfl sc_ways.nd (Dn.ID.pi (id_enum2 (ad_cons (ed_ix hr (ed_var (pv 0)) ed_int (fun _ _ => rfl)) ad_nil) (fun ha => pi_enum (by rfl) Y.tb.enumerate ha) (fun ha => pi_enumT (by rfl) Y.tb.enumerate ha))) (blkOk_by (by rfl)) (fun _ _ _ _ _ => (pg_tup rfl (pgs_cons (pg_name (i := 1) sc_ways.nd rfl (by first | exact .inl rfl | exact .inr rfl)) (pgs_cons (pg_name (i := 2) sc_ways.nd rfl (by first | exact .inl rfl | exact .inr rfl)) pgs_nil)))) (fun _ _ _ _ _ => pts_nil) (fun _ _ _ _ _ => (ED.pe (ed_callP (ok_ways_of Y) rfl hr (by decide) (by rfl) dd0 (ad_cons (ed_var (pv 2)) (ad_cons (ed_var (pv 1)) ad_nil)))))) (gw_tup (gws_cons (gw_name (by decide)) (gws_cons (gw_name (by decide)) gws_nil))) yes_of)))
theorem ok_ways (Y : Fx K mg) : FnC P w K mg base "ways" 2 ["program"] [] F_ways := by
  obtain ⟨fd, FD⟩ := Y.c.def_ 1 (d := d_ways) rfl
  exact FnC.of FD (Y.glo 1) (ok_ways_fn FD Y) fun _ _ _ _ _ _ us hl => match us, hl with | [_], _ => rfl
theorem sc_value : FnScope ["sign", "one", "other"] ["sign", "one", "other"] (defScope s_value) := ⟨rfl, rfl, rfl, by decide +kernel, rfl, by decide +kernel, by decide +kernel⟩
theorem ok_value_fn {f : Addr} {fd : FuncData} (FD : FunD K d_value.name d_value.qual d_value.params d_value.body d_value.scope (He.DefD.dvs K d_value) (He.DefD.kws K d_value) f fd) (Y : Fx K mg) : FnOk P w K mg base CX0 1 f fd ["sign", "one", "other"] (spS K 3 F_value) := by
  refine fn_ok FD sc_value fun cdv A outer s H E hr => ?_
  exact (sds_cons (sd_if (td_eq hr (ed_var (pv 0)) ed_str) (sds_one (sd_ret (ed_mod (ed_add (ed_var (pv 1)) (ed_var (pv 2))) (ed_kint (X := _) (Y.int 115))))) sds_nil)
  (sds_cons (sd_if (td_eq hr (ed_var (pv 0)) ed_str) (sds_one (sd_ret (ed_mod (ed_sub (ed_var (pv 1)) (ed_var (pv 2))) (ed_kint (X := _) (Y.int 115))))) sds_nil)
  (sds_cons (sd_if (td_eq hr (ed_var (pv 0)) ed_str) (sds_one (sd_ret (ed_mod (ed_mul (ed_var (pv 1)) (ed_var (pv 2))) (ed_kint (X := _) (Y.int 115))))) sds_nil)
  (sds_cons (sd_if (td_eq hr (ed_var (pv 0)) ed_str) (sds_one (sd_ret (ed_prim (fun ha => pe_callTy (x := "int") call_intAll (by rfl) Y.tb.int boot_int ha) ok_int (ad_cons (ed_lt (ed_var (pv 1)) (ed_var (pv 2))) ad_nil)))) sds_nil)
  (sds_cons (sd_if (td_eq hr (ed_var (pv 0)) ed_str) (sds_one (sd_ret (ed_prim (fun ha => pe_callTy (x := "int") call_intAll (by rfl) Y.tb.int boot_int ha) ok_int (ad_cons (ed_eq hr (ed_var (pv 1)) (ed_var (pv 2))) ad_nil)))) sds_nil)
  (sds_cons (sd_if (td_eq hr (ed_var (pv 0)) ed_str) (sds_one (sd_ret (ed_band (ed_var (pv 1)) (ed_var (pv 2))))) sds_nil)
  (sds_cons (sd_if (td_eq hr (ed_var (pv 0)) ed_str) (sds_one (sd_ret (ed_bor (ed_var (pv 1)) (ed_var (pv 2))))) sds_nil)
  (sds_one (sd_ret (ed_bxor (ed_var (pv 1)) (ed_var (pv 2))))))))))))
theorem ok_value (Y : Fx K mg) : FnC P w K mg base "value" 1 ["sign", "one", "other"] [] F_value := by
  obtain ⟨fd, FD⟩ := Y.c.def_ 2 (d := d_value) rfl
  exact FnC.of FD (Y.glo 2) (ok_value_fn FD Y) fun _ _ _ _ _ _ us hl => match us, hl with | [_, _, _], _ => rfl
theorem sc_Hand_init : FnScope ["self"] ["self"] (defScope s_Hand_init) := ⟨rfl, rfl, rfl, by decide +kernel, rfl, by decide +kernel, by decide +kernel⟩
theorem ok_Hand_init_fn {f : Addr} {fd : FuncData} (FD : FunD K d_Hand_init.name d_Hand_init.qual d_Hand_init.params d_Hand_init.body d_Hand_init.scope (He.DefD.dvs K d_Hand_init) (He.DefD.kws K d_Hand_init) f fd) (Y : Fx K mg) : FnOk P w K mg base CX0 1 f fd ["self"] (spS K 1 F_Hand_init) := by
  refine fn_ok FD sc_Hand_init fun cdv A outer s H E hr => ?_
  exact (sds_cons (sd_setF Y.at (ed_dnewK pe_dnewK) (ed_var (pv 0)))
  (sds_one (sd_setF Y.at ed_bl (ed_var (pv 0)))))
theorem ok_Hand_init (Y : Fx K mg) : MkC P w K mg base "Hand" 1 ["self"] [] F_Hand_init := by
  obtain ⟨fd, FD⟩ := Y.c.def_ 3 (d := d_Hand_init) rfl
  exact MkC.of FD (Y.glo 23) (Y.c.fact 25) rfl (ok_Hand_init_fn FD Y) fun _ _ _ _ _ _ us hl => match us, hl with | [_], _ => rfl
theorem sc_Hand_take : FnScope ["self", "number", "value"] ["self", "number", "value"] (defScope s_Hand_take) := ⟨rfl, rfl, rfl, by decide +kernel, rfl, by decide +kernel, by decide +kernel⟩
theorem ok_Hand_take_fn {f : Addr} {fd : FuncData} (FD : FunD K d_Hand_take.name d_Hand_take.qual d_Hand_take.params d_Hand_take.body d_Hand_take.scope (He.DefD.dvs K d_Hand_take) (He.DefD.kws K d_Hand_take) f fd) (Y : Fx K mg) : FnOk P w K mg base CX0 1 f fd ["self", "number", "value"] (spS K 3 F_Hand_take) := by
  refine fn_ok FD sc_Hand_take fun cdv A outer s H E hr => ?_
  exact (sds_one (sd_if (td_notin hr (ed_var (pv 1)) (ed_fld Y.at (ed_var (pv 0))) rfl) (sds_one (sd_sub (ps_asg (ED.pe (ed_var (pv 2))) (pg_sub (ED.pe (ed_fld Y.at (ed_var (pv 0)))) (ED.pe (ed_var (pv 1))) (PSet.or set_list (set_dict (hu1 hr))))))) (sds_one (sd_if (td_ne hr (ed_ix hr (ed_fld Y.at (ed_var (pv 0))) (ed_var (pv 1)) (fun _ _ => rfl)) (ed_var (pv 2))) (sds_one (sd_setF Y.at ed_bl (ed_var (pv 0)))) sds_nil))))
theorem ok_Hand_take (Y : Fx K mg) : MtC P w K mg base "Hand" "take" 1 ["self", "number", "value"] [] F_Hand_take := by
  obtain ⟨fd, FD⟩ := Y.c.def_ 4 (d := d_Hand_take) rfl
  exact MtC.of FD (Y.c.fact 24) (Y.c.fact 51) rfl (ok_Hand_take_fn FD Y) fun _ _ _ _ _ _ us hl => match us, hl with | [_, _, _], _ => rfl
theorem sc_Hand_kept : FnScope ["self", "found"] ["self"] (defScope s_Hand_kept) := ⟨rfl, rfl, rfl, by decide +kernel, rfl, by decide +kernel, by decide +kernel⟩
theorem ok_Hand_kept_fn {f : Addr} {fd : FuncData} (FD : FunD K d_Hand_kept.name d_Hand_kept.qual d_Hand_kept.params d_Hand_kept.body d_Hand_kept.scope (He.DefD.dvs K d_Hand_kept) (He.DefD.kws K d_Hand_kept) f fd) (Y : Fx K mg) : FnOk P w K mg base CX0 1 f fd ["self"] (spS K 1 F_Hand_kept) := by
  refine fn_ok FD sc_Hand_kept fun cdv A outer s H E hr => ?_
  exact (sds_cons (sd_set (ps_set (i := 1) sc_Hand_kept.nd rfl (by first | exact .inl rfl | exact .inr rfl) (ED.pe (ed_lstM ad_nil))))
  (sds_cons (sd_while _ (ps_while PassesOwn.never (TD.pt (td_in hr (ed_prim (fun ha => pe_callB (x := "len") call_lenAll (by rfl) Y.tb.len boot_len ha) ok_len (ad_cons (ed_var (pv 1)) ad_nil)) (ed_fld Y.at (ed_var (pv 0))) rfl)) (SDs.ps (sds_one (sd_expr (ed_mt ok_append (ed_var (pv 1)) (ad_cons (ed_ix hr (ed_fld Y.at (ed_var (pv 0))) (ed_prim (fun ha => pe_callB (x := "len") call_lenAll (by rfl) Y.tb.len boot_len ha) ok_len (ad_cons (ed_var (pv 1)) ad_nil)) (fun _ _ => rfl)) ad_nil) (fun ho ha => pe_bm PySem.F.plainAttrs_list PySem.F.slot_list_append PySem.F.type_list_append mt_append ho ha)))))))
  (sds_one (sd_ret (ed_var (pv 1))))))
theorem ok_Hand_kept (Y : Fx K mg) : MtC P w K mg base "Hand" "kept" 1 ["self"] [] F_Hand_kept := by
  obtain ⟨fd, FD⟩ := Y.c.def_ 5 (d := d_Hand_kept) rfl
  exact MtC.of FD (Y.c.fact 24) (Y.c.fact 52) rfl (ok_Hand_kept_fn FD Y) fun _ _ _ _ _ _ us hl => match us, hl with | [_], _ => rfl
theorem sc_Hand_torn : FnScope ["self"] ["self"] (defScope s_Hand_torn) := ⟨rfl, rfl, rfl, by decide +kernel, rfl, by decide +kernel, by decide +kernel⟩
theorem ok_Hand_torn_fn {f : Addr} {fd : FuncData} (FD : FunD K d_Hand_torn.name d_Hand_torn.qual d_Hand_torn.params d_Hand_torn.body d_Hand_torn.scope (He.DefD.dvs K d_Hand_torn) (He.DefD.kws K d_Hand_torn) f fd) (Y : Fx K mg) : FnOk P w K mg base CX0 1 f fd ["self"] (spS K 1 F_Hand_torn) := by
  refine fn_ok FD sc_Hand_torn fun cdv A outer s H E hr => ?_
  exact (sds_one (sd_ret (ed_fld Y.at (ed_var (pv 0)))))
theorem ok_Hand_torn (Y : Fx K mg) : MtC P w K mg base "Hand" "torn" 1 ["self"] [] F_Hand_torn := by
  obtain ⟨fd, FD⟩ := Y.c.def_ 6 (d := d_Hand_torn) rfl
  exact MtC.of FD (Y.c.fact 24) (Y.c.fact 53) rfl (ok_Hand_torn_fn FD Y) fun _ _ _ _ _ _ us hl => match us, hl with | [_], _ => rfl
theorem sc_Phase_at_row : FnScope ["self"] ["self"] (defScope s_Phase_at_row) := ⟨rfl, rfl, rfl, by decide +kernel, rfl, by decide +kernel, by decide +kernel⟩
theorem ok_Phase_at_row_fn {f : Addr} {fd : FuncData} (FD : FunD K d_Phase_at_row.name d_Phase_at_row.qual d_Phase_at_row.params d_Phase_at_row.body d_Phase_at_row.scope (He.DefD.dvs K d_Phase_at_row) (He.DefD.kws K d_Phase_at_row) f fd) (Y : Fx K mg) : FnOk P w K mg base CX0 1 f fd ["self"] (spS K 1 F_Phase_at_row) := by
  refine fn_ok FD sc_Phase_at_row fun cdv A outer s H E hr => ?_
  exact (sds_one (sd_ret ed_non))
theorem ok_inh_Keeping_at_row (Y : Fx K mg) : MtC P w K mg base "Keeping" "at_row" 1 ["self"] [] F_Phase_at_row := by
  obtain ⟨fd, FD⟩ := Y.c.def_ 7 (d := d_Phase_at_row) rfl
  exact MtC.of FD (Y.c.fact 37) (Y.c.fact 112) Y.inh_Keeping_at_row (ok_Phase_at_row_fn FD Y) fun _ _ _ _ _ _ us hl => match us, hl with | [_], _ => rfl
theorem ok_inh_Up_at_row (Y : Fx K mg) : MtC P w K mg base "Up" "at_row" 1 ["self"] [] F_Phase_at_row := by
  obtain ⟨fd, FD⟩ := Y.c.def_ 7 (d := d_Phase_at_row) rfl
  exact MtC.of FD (Y.c.fact 31) (Y.c.fact 113) Y.inh_Up_at_row (ok_Phase_at_row_fn FD Y) fun _ _ _ _ _ _ us hl => match us, hl with | [_], _ => rfl
theorem ok_inh_Resting_at_row (Y : Fx K mg) : MtC P w K mg base "Resting" "at_row" 1 ["self"] [] F_Phase_at_row := by
  obtain ⟨fd, FD⟩ := Y.c.def_ 7 (d := d_Phase_at_row) rfl
  exact MtC.of FD (Y.c.fact 29) (Y.c.fact 114) Y.inh_Resting_at_row (ok_Phase_at_row_fn FD Y) fun _ _ _ _ _ _ us hl => match us, hl with | [_], _ => rfl
theorem sc_Phase_goes : FnScope ["self", "house"] ["self", "house"] (defScope s_Phase_goes) := ⟨rfl, rfl, rfl, by decide +kernel, rfl, by decide +kernel, by decide +kernel⟩
theorem ok_Phase_goes_fn {f : Addr} {fd : FuncData} (FD : FunD K d_Phase_goes.name d_Phase_goes.qual d_Phase_goes.params d_Phase_goes.body d_Phase_goes.scope (He.DefD.dvs K d_Phase_goes) (He.DefD.kws K d_Phase_goes) f fd) (Y : Fx K mg) : FnOk P w K mg base CX0 1 f fd ["self", "house"] (spS K 2 F_Phase_goes) := by
  refine fn_ok FD sc_Phase_goes fun cdv A outer s H E hr => ?_
  exact (sds_one (sd_ret (ed_var (pv 0))))
theorem ok_inh_Resting_goes (Y : Fx K mg) : MtC P w K mg base "Resting" "goes" 1 ["self", "house"] [] F_Phase_goes := by
  obtain ⟨fd, FD⟩ := Y.c.def_ 8 (d := d_Phase_goes) rfl
  exact MtC.of FD (Y.c.fact 29) (Y.c.fact 111) Y.inh_Resting_goes (ok_Phase_goes_fn FD Y) fun _ _ _ _ _ _ us hl => match us, hl with | [_, _], _ => rfl
theorem sc_Up_init : FnScope ["self"] ["self"] (defScope s_Up_init) := ⟨rfl, rfl, rfl, by decide +kernel, rfl, by decide +kernel, by decide +kernel⟩
theorem ok_Up_init_fn {f : Addr} {fd : FuncData} (FD : FunD K d_Up_init.name d_Up_init.qual d_Up_init.params d_Up_init.body d_Up_init.scope (He.DefD.dvs K d_Up_init) (He.DefD.kws K d_Up_init) f fd) (Y : Fx K mg) : FnOk P w K mg base CX0 1 f fd ["self"] (spS K 1 F_Up_init) := by
  refine fn_ok FD sc_Up_init fun cdv A outer s H E hr => ?_
  exact (sds_one (sd_setF Y.at ed_int (ed_var (pv 0))))
theorem ok_Up_init (Y : Fx K mg) : MkC P w K mg base "Up" 1 ["self"] [] F_Up_init := by
  obtain ⟨fd, FD⟩ := Y.c.def_ 9 (d := d_Up_init) rfl
  exact MkC.of FD (Y.glo 30) (Y.c.fact 32) rfl (ok_Up_init_fn FD Y) fun _ _ _ _ _ _ us hl => match us, hl with | [_], _ => rfl
theorem sc_Going_init : FnScope ["self", "row"] ["self", "row"] (defScope s_Going_init) := ⟨rfl, rfl, rfl, by decide +kernel, rfl, by decide +kernel, by decide +kernel⟩
theorem ok_Going_init_fn {f : Addr} {fd : FuncData} (FD : FunD K d_Going_init.name d_Going_init.qual d_Going_init.params d_Going_init.body d_Going_init.scope (He.DefD.dvs K d_Going_init) (He.DefD.kws K d_Going_init) f fd) (Y : Fx K mg) : FnOk P w K mg base CX0 1 f fd ["self", "row"] (spS K 2 F_Going_init) := by
  refine fn_ok FD sc_Going_init fun cdv A outer s H E hr => ?_
  exact (sds_one (sd_setF Y.at (ed_var (pv 1)) (ed_var (pv 0))))
theorem ok_Going_init (Y : Fx K mg) : MkC P w K mg base "Going" 1 ["self", "row"] [] F_Going_init := by
  obtain ⟨fd, FD⟩ := Y.c.def_ 11 (d := d_Going_init) rfl
  exact MkC.of FD (Y.glo 33) (Y.c.fact 35) rfl (ok_Going_init_fn FD Y) fun _ _ _ _ _ _ us hl => match us, hl with | [_, _], _ => rfl
theorem sc_Store_face : FnScope ["self"] ["self"] (defScope s_Store_face) := ⟨rfl, rfl, rfl, by decide +kernel, rfl, by decide +kernel, by decide +kernel⟩
theorem ok_Store_face_fn {f : Addr} {fd : FuncData} (FD : FunD K d_Store_face.name d_Store_face.qual d_Store_face.params d_Store_face.body d_Store_face.scope (He.DefD.dvs K d_Store_face) (He.DefD.kws K d_Store_face) f fd) (Y : Fx K mg) : FnOk P w K mg base CX0 1 f fd ["self"] (spS K 1 F_Store_face) := by
  refine fn_ok FD sc_Store_face fun cdv A outer s H E hr => ?_
  exact (sds_one (sd_ret (ed_fld Y.at (ed_var (pv 0)))))
theorem ok_Store_face (Y : Fx K mg) : MtC P w K mg base "Store" "face" 1 ["self"] [] F_Store_face := by
  obtain ⟨fd, FD⟩ := Y.c.def_ 22 (d := d_Store_face) rfl
  exact MtC.of FD (Y.c.fact 43) (Y.c.fact 64) rfl (ok_Store_face_fn FD Y) fun _ _ _ _ _ _ us hl => match us, hl with | [_], _ => rfl
theorem sc_House_face : FnScope ["self"] ["self"] (defScope s_House_face) := ⟨rfl, rfl, rfl, by decide +kernel, rfl, by decide +kernel, by decide +kernel⟩
theorem ok_House_face_fn {f : Addr} {fd : FuncData} (FD : FunD K d_House_face.name d_House_face.qual d_House_face.params d_House_face.body d_House_face.scope (He.DefD.dvs K d_House_face) (He.DefD.kws K d_House_face) f fd) (Y : Fx K mg) : FnOk P w K mg base CX0 2 f fd ["self"] (spS K 1 F_House_face) := by
  refine fn_ok FD sc_House_face fun cdv A outer s H E hr => ?_
  exact (sds_one (sd_ret (ed_meth0 (ok_Store_face Y) rfl hr (by decide) dd0 (ed_fld Y.at (ed_var (pv 0))))))
theorem ok_House_face (Y : Fx K mg) : MtC P w K mg base "House" "face" 2 ["self"] [] F_House_face := by
  obtain ⟨fd, FD⟩ := Y.c.def_ 42 (d := d_House_face) rfl
  exact MtC.of FD (Y.c.fact 46) (Y.c.fact 82) rfl (ok_House_face_fn FD Y) fun _ _ _ _ _ _ us hl => match us, hl with | [_], _ => rfl
theorem sc_Store_page : FnScope ["self", "number", "one"] ["self", "number"] (defScope s_Store_page) := ⟨rfl, rfl, rfl, by decide +kernel, rfl, by decide +kernel, by decide +kernel⟩
theorem ok_Store_page_fn {f : Addr} {fd : FuncData} (FD : FunD K d_Store_page.name d_Store_page.qual d_Store_page.params d_Store_page.body d_Store_page.scope (He.DefD.dvs K d_Store_page) (He.DefD.kws K d_Store_page) f fd) (Y : Fx K mg) : FnOk P w K mg base CX0 1 f fd ["self", "number"] (spS K 2 F_Store_page) := by
  refine fn_ok FD sc_Store_page fun cdv A outer s H E hr => ?_
  exact (sds_cons (sd_set (ps_set (i := 2) sc_Store_page.nd rfl (by first | exact .inl rfl | exact .inr rfl) (ED.pe (ed_ix hr (ed_fld Y.at (ed_var (pv 0))) (ed_var (pv 1)) (fun _ _ => rfl)))))
  (sds_one (sd_ret (ed_add (ed_fld Y.at (ed_var (pv 2))) (ed_tup (ad_cons (ed_prim (fun ha => pe_callTy (x := "list") (call_listAll rfl) (by rfl) Y.tb.list boot_list ha) ok_list (ad_cons (ed_fld Y.at (ed_var (pv 2))) ad_nil)) (ad_cons (ed_prim (fun ha => pe_callTy (x := "list") (call_listAll rfl) (by rfl) Y.tb.list boot_list ha) ok_list (ad_cons (ed_fld Y.at (ed_var (pv 2))) ad_nil)) ad_nil)))))))
theorem ok_Store_page (Y : Fx K mg) : MtC P w K mg base "Store" "page" 1 ["self", "number"] [] F_Store_page := by
  obtain ⟨fd, FD⟩ := Y.c.def_ 23 (d := d_Store_page) rfl
  exact MtC.of FD (Y.c.fact 43) (Y.c.fact 65) rfl (ok_Store_page_fn FD Y) fun _ _ _ _ _ _ us hl => match us, hl with | [_, _], _ => rfl
theorem sc_House_page : FnScope ["self", "number"] ["self", "number"] (defScope s_House_page) := ⟨rfl, rfl, rfl, by decide +kernel, rfl, by decide +kernel, by decide +kernel⟩
theorem ok_House_page_fn {f : Addr} {fd : FuncData} (FD : FunD K d_House_page.name d_House_page.qual d_House_page.params d_House_page.body d_House_page.scope (He.DefD.dvs K d_House_page) (He.DefD.kws K d_House_page) f fd) (Y : Fx K mg) : FnOk P w K mg base CX0 2 f fd ["self", "number"] (spS K 2 F_House_page) := by
  refine fn_ok FD sc_House_page fun cdv A outer s H E hr => ?_
  exact (sds_one (sd_ret (ed_meth (ok_Store_page Y) rfl hr (by decide) dd0 (ed_fld Y.at (ed_var (pv 0))) (ad_cons (ed_var (pv 1)) ad_nil))))
theorem ok_House_page (Y : Fx K mg) : MtC P w K mg base "House" "page" 2 ["self", "number"] [] F_House_page := by
  obtain ⟨fd, FD⟩ := Y.c.def_ 43 (d := d_House_page) rfl
  exact MtC.of FD (Y.c.fact 46) (Y.c.fact 83) rfl (ok_House_page_fn FD Y) fun _ _ _ _ _ _ us hl => match us, hl with | [_, _], _ => rfl
theorem sc_House_come_up : FnScope ["self", "done", "hears", "says", "boxes", "name", "number"] ["self", "done", "hears", "says", "boxes"] (defScope s_House_come_up) := ⟨rfl, rfl, rfl, by decide +kernel, rfl, by decide +kernel, by decide +kernel⟩
theorem ok_House_come_up_fn {f : Addr} {fd : FuncData} (FD : FunD K d_House_come_up.name d_House_come_up.qual d_House_come_up.params d_House_come_up.body d_House_come_up.scope (He.DefD.dvs K d_House_come_up) (He.DefD.kws K d_House_come_up) f fd) (Y : Fx K mg) : FnOk P w K mg base CX0 1 f fd ["self", "done", "hears", "says", "boxes"] (spS K 5 F_House_come_up) := by
  refine fn_ok FD sc_House_come_up fun cdv A outer s H E hr => ?_
  exact (sds_cons (sd_setF Y.at (ed_dnewK pe_dnewK) (ed_var (pv 0)))
  (sds_cons (sd_for (ps_for PassesOwn.never rfl (Dn.ID.pi (id_seq (ed_var (pv 4)))) (GD.pg (gd_t rfl (gds_c (gd_name (pg_name (i := 5) sc_House_come_up.nd rfl (by first | exact .inl rfl | exact .inr rfl))) (gds_c (gd_name (pg_name (i := 6) sc_House_come_up.nd rfl (by first | exact .inl rfl | exact .inr rfl))) gds_nil)))) (SDs.ps (sds_one (sd_sub (ps_asg (ED.pe (ed_var (pv 6))) (pg_sub (ED.pe (ed_fld Y.at (ed_var (pv 0)))) (ED.pe (ed_var (pv 5))) (PSet.or set_list (set_dict (hu1 hr))))))))))
  (sds_cons (sd_setF Y.at (ed_var (pv 1)) (ed_var (pv 0)))
  (sds_cons (sd_setF Y.at (ed_var (pv 2)) (ed_var (pv 0)))
  (sds_one (sd_setF Y.at (ed_var (pv 3)) (ed_var (pv 0))))))))
theorem ok_House_come_up (Y : Fx K mg) : MtC P w K mg base "House" "come_up" 1 ["self", "done", "hears", "says", "boxes"] [] F_House_come_up := by
  obtain ⟨fd, FD⟩ := Y.c.def_ 46 (d := d_House_come_up) rfl
  exact MtC.of FD (Y.c.fact 46) (Y.c.fact 86) rfl (ok_House_come_up_fn FD Y) fun _ _ _ _ _ _ us hl => match us, hl with | [_, _, _, _, _], _ => rfl
theorem sc_Store_put : FnScope ["self", "name", "place", "value"] ["self", "name", "place", "value"] (defScope s_Store_put) := ⟨rfl, rfl, rfl, by decide +kernel, rfl, by decide +kernel, by decide +kernel⟩
theorem ok_Store_put_fn {f : Addr} {fd : FuncData} (FD : FunD K d_Store_put.name d_Store_put.qual d_Store_put.params d_Store_put.body d_Store_put.scope (He.DefD.dvs K d_Store_put) (He.DefD.kws K d_Store_put) f fd) (Y : Fx K mg) : FnOk P w K mg base CX0 1 f fd ["self", "name", "place", "value"] (spS K 4 F_Store_put) := by
  refine fn_ok FD sc_Store_put fun cdv A outer s H E hr => ?_
  exact (sds_one (sd_sub (ps_asg (ED.pe (ed_var (pv 3))) (pg_sub (ED.pe (ed_fld Y.at (ed_var (pv 0)))) (ED.pe (ed_tup (ad_cons (ed_var (pv 1)) (ad_cons (ed_var (pv 2)) ad_nil)))) (PSet.or set_list (set_dict (hu1 hr)))))))
theorem ok_Store_put (Y : Fx K mg) : MtC P w K mg base "Store" "put" 1 ["self", "name", "place", "value"] [] F_Store_put := by
  obtain ⟨fd, FD⟩ := Y.c.def_ 21 (d := d_Store_put) rfl
  exact MtC.of FD (Y.c.fact 43) (Y.c.fact 63) rfl (ok_Store_put_fn FD Y) fun _ _ _ _ _ _ us hl => match us, hl with | [_, _, _, _], _ => rfl
theorem sc_House_settle : FnScope ["self", "name", "place", "number"] ["self", "name", "place", "number"] (defScope s_House_settle) := ⟨rfl, rfl, rfl, by decide +kernel, rfl, by decide +kernel, by decide +kernel⟩
theorem ok_House_settle_fn {f : Addr} {fd : FuncData} (FD : FunD K d_House_settle.name d_House_settle.qual d_House_settle.params d_House_settle.body d_House_settle.scope (He.DefD.dvs K d_House_settle) (He.DefD.kws K d_House_settle) f fd) (Y : Fx K mg) : FnOk P w K mg base CX0 2 f fd ["self", "name", "place", "number"] (spS K 4 F_House_settle) := by
  refine fn_ok FD sc_House_settle fun cdv A outer s H E hr => ?_
  exact (sds_one (sd_expr (ed_meth (ok_Store_put Y) rfl hr (by decide) dd0 (ed_fld Y.at (ed_var (pv 0))) (ad_cons (ed_var (pv 1)) (ad_cons (ed_var (pv 2)) (ad_cons (ed_var (pv 3)) ad_nil))))))
theorem ok_House_settle (Y : Fx K mg) : MtC P w K mg base "House" "settle" 2 ["self", "name", "place", "number"] [] F_House_settle := by
  obtain ⟨fd, FD⟩ := Y.c.def_ 50 (d := d_House_settle) rfl
  exact MtC.of FD (Y.c.fact 46) (Y.c.fact 90) rfl (ok_House_settle_fn FD Y) fun _ _ _ _ _ _ us hl => match us, hl with | [_, _, _, _], _ => rfl
theorem sc_Up_goes : FnScope ["self", "house", "row", "done", "hears", "says", "boxes", "turns", "where", "value"] ["self", "house"] (defScope s_Up_goes) := ⟨rfl, rfl, rfl, by decide +kernel, rfl, by decide +kernel, by decide +kernel⟩
theorem ok_Up_goes_fn {f : Addr} {fd : FuncData} (FD : FunD K d_Up_goes.name d_Up_goes.qual d_Up_goes.params d_Up_goes.body d_Up_goes.scope (He.DefD.dvs K d_Up_goes) (He.DefD.kws K d_Up_goes) f fd) (Y : Fx K mg) : FnOk P w K mg base CX0 3 f fd ["self", "house"] (spS K 2 F_Up_goes) := by
  refine fn_ok FD sc_Up_goes fun cdv A outer s H E hr => ?_
  exact (sds_cons (sd_asg (ps_asg (ED.pe (ed_meth (ok_House_page Y) rfl hr (by decide) dd0 (ed_var (pv 1)) (ad_cons (ed_meth0 (ok_House_face Y) rfl hr (by decide) dd0 (ed_var (pv 1))) ad_nil))) (GD.pg (gd_t rfl (gds_c (gd_name (pg_name (i := 2) sc_Up_goes.nd rfl (by first | exact .inl rfl | exact .inr rfl))) (gds_c (gd_name (pg_name (i := 3) sc_Up_goes.nd rfl (by first | exact .inl rfl | exact .inr rfl))) (gds_c (gd_name (pg_name (i := 4) sc_Up_goes.nd rfl (by first | exact .inl rfl | exact .inr rfl))) (gds_c (gd_name (pg_name (i := 5) sc_Up_goes.nd rfl (by first | exact .inl rfl | exact .inr rfl))) (gds_c (gd_name (pg_name (i := 6) sc_Up_goes.nd rfl (by first | exact .inl rfl | exact .inr rfl))) (gds_c (gd_name (pg_name (i := 7) sc_Up_goes.nd rfl (by first | exact .inl rfl | exact .inr rfl))) gds_nil))))))))))
  (sds_cons (sd_if (td_lt (ed_fld Y.at (ed_var (pv 0))) (ed_prim (fun ha => pe_callB (x := "len") call_lenAll (by rfl) Y.tb.len boot_len ha) ok_len (ad_cons (ed_var (pv 7)) ad_nil))) (sds_cons (sd_asg (ps_asg (ED.pe (ed_ix hr (ed_var (pv 7)) (ed_fld Y.at (ed_var (pv 0))) (fun _ _ => rfl))) (GD.pg (gd_t rfl (gds_c (gd_name (pg_name (i := 8) sc_Up_goes.nd rfl (by first | exact .inl rfl | exact .inr rfl))) (gds_c (gd_name (pg_name (i := 9) sc_Up_goes.nd rfl (by first | exact .inl rfl | exact .inr rfl))) gds_nil))))))
  (sds_cons (sd_expr (ed_meth (ok_House_settle Y) rfl hr (by decide) dd0 (ed_var (pv 1)) (ad_cons (ed_ix hr (ed_var (pv 8)) ed_int (fun _ _ => rfl)) (ad_cons (ed_ix hr (ed_var (pv 8)) ed_int (fun _ _ => rfl)) (ad_cons (ed_var (pv 9)) ad_nil)))))
  (sds_cons (sd_augF Y.at in_add ok_rAdd ed_int (ed_var (pv 0)))
  (sds_one (sd_ret (ed_var (pv 0))))))) sds_nil)
  (sds_cons (sd_expr (ed_meth (ok_House_come_up Y) rfl hr (by decide) dd0 (ed_var (pv 1)) (ad_cons (ed_var (pv 3)) (ad_cons (ed_var (pv 4)) (ad_cons (ed_var (pv 5)) (ad_cons (ed_var (pv 6)) ad_nil))))))
  (sds_one (sd_ret (ed_make (ok_Going_init Y) rfl hr (by decide) (by rfl) dd0 (ad_cons (ed_var (pv 2)) ad_nil)))))))
theorem ok_Up_goes (Y : Fx K mg) : MtC P w K mg base "Up" "goes" 3 ["self", "house"] [] F_Up_goes := by
  obtain ⟨fd, FD⟩ := Y.c.def_ 10 (d := d_Up_goes) rfl
  exact MtC.of FD (Y.c.fact 31) (Y.c.fact 56) rfl (ok_Up_goes_fn FD Y) fun _ _ _ _ _ _ us hl => match us, hl with | [_, _], _ => rfl
theorem sc_Going_at_row : FnScope ["self"] ["self"] (defScope s_Going_at_row) := ⟨rfl, rfl, rfl, by decide +kernel, rfl, by decide +kernel, by decide +kernel⟩
theorem ok_Going_at_row_fn {f : Addr} {fd : FuncData} (FD : FunD K d_Going_at_row.name d_Going_at_row.qual d_Going_at_row.params d_Going_at_row.body d_Going_at_row.scope (He.DefD.dvs K d_Going_at_row) (He.DefD.kws K d_Going_at_row) f fd) (Y : Fx K mg) : FnOk P w K mg base CX0 1 f fd ["self"] (spS K 1 F_Going_at_row) := by
  refine fn_ok FD sc_Going_at_row fun cdv A outer s H E hr => ?_
  exact (sds_one (sd_ret (ed_fld Y.at (ed_var (pv 0)))))
theorem ok_Going_at_row (Y : Fx K mg) : MtC P w K mg base "Going" "at_row" 1 ["self"] [] F_Going_at_row := by
  obtain ⟨fd, FD⟩ := Y.c.def_ 12 (d := d_Going_at_row) rfl
  exact MtC.of FD (Y.c.fact 34) (Y.c.fact 57) rfl (ok_Going_at_row_fn FD Y) fun _ _ _ _ _ _ us hl => match us, hl with | [_], _ => rfl
theorem sc_Keeping_init : FnScope ["self", "row", "steps"] ["self", "row", "steps"] (defScope s_Keeping_init) := ⟨rfl, rfl, rfl, by decide +kernel, rfl, by decide +kernel, by decide +kernel⟩
theorem ok_Keeping_init_fn {f : Addr} {fd : FuncData} (FD : FunD K d_Keeping_init.name d_Keeping_init.qual d_Keeping_init.params d_Keeping_init.body d_Keeping_init.scope (He.DefD.dvs K d_Keeping_init) (He.DefD.kws K d_Keeping_init) f fd) (Y : Fx K mg) : FnOk P w K mg base CX0 1 f fd ["self", "row", "steps"] (spS K 3 F_Keeping_init) := by
  refine fn_ok FD sc_Keeping_init fun cdv A outer s H E hr => ?_
  exact (sds_cons (sd_setF Y.at (ed_var (pv 1)) (ed_var (pv 0)))
  (sds_cons (sd_setF Y.at (ed_var (pv 2)) (ed_var (pv 0)))
  (sds_one (sd_setF Y.at ed_int (ed_var (pv 0))))))
theorem ok_Keeping_init (Y : Fx K mg) : MkC P w K mg base "Keeping" 1 ["self", "row", "steps"] [] F_Keeping_init := by
  obtain ⟨fd, FD⟩ := Y.c.def_ 14 (d := d_Keeping_init) rfl
  exact MkC.of FD (Y.glo 36) (Y.c.fact 38) rfl (ok_Keeping_init_fn FD Y) fun _ _ _ _ _ _ us hl => match us, hl with | [_, _, _], _ => rfl
theorem sc_House_boxes_kept : FnScope ["self", "row"] ["self", "row"] (defScope s_House_boxes_kept) := ⟨rfl, rfl, rfl, by decide +kernel, rfl, by decide +kernel, by decide +kernel⟩
theorem ok_House_boxes_kept_fn {f : Addr} {fd : FuncData} (FD : FunD K d_House_boxes_kept.name d_House_boxes_kept.qual d_House_boxes_kept.params d_House_boxes_kept.body d_House_boxes_kept.scope (He.DefD.dvs K d_House_boxes_kept) (He.DefD.kws K d_House_boxes_kept) f fd) (Y : Fx K mg) : FnOk P w K mg base CX0 1 f fd ["self", "row"] (spS K 2 F_House_boxes_kept) := by
  refine fn_ok FD sc_House_boxes_kept fun cdv A outer s H E hr => ?_
  exact (sds_one (sd_ret (ed_get1 (ed_fld Y.at (ed_var (pv 0))) (ed_var (pv 1)) (fun ho he => pe_dget1 (hu1 hr) ho he ⟨by rfl, by rfl, by rfl, by rfl⟩))))
theorem ok_House_boxes_kept (Y : Fx K mg) : MtC P w K mg base "House" "boxes_kept" 1 ["self", "row"] [] F_House_boxes_kept := by
  obtain ⟨fd, FD⟩ := Y.c.def_ 47 (d := d_House_boxes_kept) rfl
  exact MtC.of FD (Y.c.fact 46) (Y.c.fact 87) rfl (ok_House_boxes_kept_fn FD Y) fun _ _ _ _ _ _ us hl => match us, hl with | [_, _], _ => rfl
theorem sc_House_small_steps : FnScope ["self", "row", "boxes", "turns", "steps", "where", "name", "turn"] ["self", "row", "boxes"] (defScope s_House_small_steps) := ⟨rfl, rfl, rfl, by decide +kernel, rfl, by decide +kernel, by decide +kernel⟩
theorem ok_House_small_steps_fn {f : Addr} {fd : FuncData} (FD : FunD K d_House_small_steps.name d_House_small_steps.qual d_House_small_steps.params d_House_small_steps.body d_House_small_steps.scope (He.DefD.dvs K d_House_small_steps) (He.DefD.kws K d_House_small_steps) f fd) (Y : Fx K mg) : FnOk P w K mg base CX0 1 f fd ["self", "row", "boxes"] (spS K 3 F_House_small_steps) := by
  refine fn_ok FD sc_House_small_steps fun cdv A outer s H E hr => ?_
  exact (sds_cons (sd_lockS (sd_setLc (i := 3) (ps_setLc (own := [("where", 5)]) rfl sc_House_small_steps.nd rfl rfl rfl (Dn.ID.pi (id_keyL (ed_fld Y.at (ed_var (pv 0))))) (blkOk_by (by rfl)) (fun _ _ _ _ _ => (pg_name (i := 5) sc_House_small_steps.nd rfl (by first | exact .inl rfl | exact .inr rfl))) (fun _ _ _ _ _ => pts_nil) (fun _ _ _ _ _ => (ED.pe (ed_tup (ad_cons ed_str (ad_cons (ed_ix hr (ed_var (pv 5)) ed_int (fun _ _ => rfl)) (ad_cons (ed_ix hr (ed_var (pv 5)) ed_int (fun _ _ => rfl)) (ad_cons (ed_ix hr (ed_fld Y.at (ed_var (pv 0))) (ed_var (pv 5)) (fun _ _ => rfl)) ad_nil)))))))) (gw_name (by decide)) yes_of))
  (sds_cons (sd_set (ps_set (i := 4) sc_House_small_steps.nd rfl (by first | exact .inl rfl | exact .inr rfl) (ED.pe (ed_lstM (ad_cons (ed_tup (ad_cons ed_str (ad_cons (ed_var (pv 1)) ad_nil))) ad_nil)))))
  (sds_cons (sd_expr (ed_mt ok_extend (ed_var (pv 4)) (ad_cons (ed_lc (pe_lc (own := [("name", 6)]) rfl sc_House_small_steps.nd (Dn.ID.pi (id_seq (ed_var (pv 2)))) (blkOk_by (by rfl)) (fun _ _ _ _ _ => (pg_name (i := 6) sc_House_small_steps.nd rfl (by first | exact .inl rfl | exact .inr rfl))) (fun _ _ _ _ _ => pts_nil) (fun _ _ _ _ _ => (ED.pe (ed_tup (ad_cons ed_str (ad_cons (ed_var (pv 6)) (ad_cons (ed_get2 (ed_fld Y.at (ed_var (pv 0))) (ed_var (pv 6)) (ed_fld Y.at (ed_var (pv 0))) (fun ho he hf => pe_dget2 (hu1 hr) ho he hf ⟨by rfl, by rfl, by rfl, by rfl⟩)) ad_nil))))))) (gw_name (by decide)) yes_of) ad_nil) (fun ho ha => pe_bm PySem.F.plainAttrs_list PySem.F.slot_list_extend PySem.F.type_list_extend mt_extend ho ha)))
  (sds_cons (sd_expr (ed_mt ok_extend (ed_var (pv 4)) (ad_cons (ed_lc (pe_lc (own := [("turn", 7)]) rfl sc_House_small_steps.nd (Dn.ID.pi (id_seq (ed_var (pv 3)))) (blkOk_by (by rfl)) (fun _ _ _ _ _ => (pg_name (i := 7) sc_House_small_steps.nd rfl (by first | exact .inl rfl | exact .inr rfl))) (fun _ _ _ _ _ => pts_nil) (fun _ _ _ _ _ => (ED.pe (ed_add (ed_tup (ad_cons ed_str ad_nil)) (ed_sl (ed_var (pv 7)) (od_some ed_int) od_none))))) (gw_name (by decide)) yes_of) ad_nil) (fun ho ha => pe_bm PySem.F.plainAttrs_list PySem.F.slot_list_extend PySem.F.type_list_extend mt_extend ho ha)))
  (sds_one (sd_ret (ed_add (ed_add (ed_var (pv 4)) (ed_lst (ad_cons (ed_tup (ad_cons ed_str ad_nil)) ad_nil))) (ed_var (pv 3)))))))))
theorem ok_House_small_steps (Y : Fx K mg) : MtC P w K mg base "House" "small_steps" 1 ["self", "row", "boxes"] [] F_House_small_steps := by
  obtain ⟨fd, FD⟩ := Y.c.def_ 48 (d := d_House_small_steps) rfl
  exact MtC.of FD (Y.c.fact 46) (Y.c.fact 88) rfl (ok_House_small_steps_fn FD Y) fun _ _ _ _ _ _ us hl => match us, hl with | [_, _, _], _ => rfl
theorem sc_Store_give : FnScope ["self", "value"] ["self", "value"] (defScope s_Store_give) := ⟨rfl, rfl, rfl, by decide +kernel, rfl, by decide +kernel, by decide +kernel⟩
theorem ok_Store_give_fn {f : Addr} {fd : FuncData} (FD : FunD K d_Store_give.name d_Store_give.qual d_Store_give.params d_Store_give.body d_Store_give.scope (He.DefD.dvs K d_Store_give) (He.DefD.kws K d_Store_give) f fd) (Y : Fx K mg) : FnOk P w K mg base CX0 1 f fd ["self", "value"] (spS K 2 F_Store_give) := by
  refine fn_ok FD sc_Store_give fun cdv A outer s H E hr => ?_
  exact (sds_one (sd_setF Y.at (ed_var (pv 1)) (ed_var (pv 0))))
theorem ok_Store_give (Y : Fx K mg) : MtC P w K mg base "Store" "give" 1 ["self", "value"] [] F_Store_give := by
  obtain ⟨fd, FD⟩ := Y.c.def_ 29 (d := d_Store_give) rfl
  exact MtC.of FD (Y.c.fact 43) (Y.c.fact 71) rfl (ok_Store_give_fn FD Y) fun _ _ _ _ _ _ us hl => match us, hl with | [_, _], _ => rfl
theorem sc_House_worth : FnScope ["self", "atom"] ["self", "atom"] (defScope s_House_worth) := ⟨rfl, rfl, rfl, by decide +kernel, rfl, by decide +kernel, by decide +kernel⟩
theorem ok_House_worth_fn {f : Addr} {fd : FuncData} (FD : FunD K d_House_worth.name d_House_worth.qual d_House_worth.params d_House_worth.body d_House_worth.scope (He.DefD.dvs K d_House_worth) (He.DefD.kws K d_House_worth) f fd) (Y : Fx K mg) : FnOk P w K mg base CX0 1 f fd ["self", "atom"] (spS K 2 F_House_worth) := by
  refine fn_ok FD sc_House_worth fun cdv A outer s H E hr => ?_
  exact (sds_cons (sd_if (td_val (e_isi (T7 := .str) Y.tb Y.tb.str (by decide) (by rfl) (by rfl) boot_str (ed_var (pv 1)))) (sds_one (sd_ret (ed_get2 (ed_fld Y.at (ed_var (pv 0))) (ed_var (pv 1)) (ed_fld Y.at (ed_var (pv 0))) (fun ho he hf => pe_dget2 (hu1 hr) ho he hf ⟨by rfl, by rfl, by rfl, by rfl⟩)))) sds_nil)
  (sds_one (sd_ret (ed_var (pv 1)))))
theorem ok_House_worth (Y : Fx K mg) : MtC P w K mg base "House" "worth" 1 ["self", "atom"] [] F_House_worth := by
  obtain ⟨fd, FD⟩ := Y.c.def_ 52 (d := d_House_worth) rfl
  exact MtC.of FD (Y.c.fact 46) (Y.c.fact 92) rfl (ok_House_worth_fn FD Y) fun _ _ _ _ _ _ us hl => match us, hl with | [_, _], _ => rfl
theorem sc_House_place_of : FnScope ["self", "name", "atom"] ["self", "name", "atom"] (defScope s_House_place_of) := ⟨rfl, rfl, rfl, by decide +kernel, rfl, by decide +kernel, by decide +kernel⟩
theorem ok_House_place_of_fn {f : Addr} {fd : FuncData} (FD : FunD K d_House_place_of.name d_House_place_of.qual d_House_place_of.params d_House_place_of.body d_House_place_of.scope (He.DefD.dvs K d_House_place_of) (He.DefD.kws K d_House_place_of) f fd) (Y : Fx K mg) : FnOk P w K mg base CX0 2 f fd ["self", "name", "atom"] (spS K 3 F_House_place_of) := by
  refine fn_ok FD sc_House_place_of fun cdv A outer s H E hr => ?_
  exact (sds_one (sd_ret (ed_mod (ed_meth (ok_House_worth Y) rfl hr (by decide) dd0 (ed_var (pv 0)) (ad_cons (ed_var (pv 2)) ad_nil)) (ed_ix hr (ed_fld Y.at (ed_var (pv 0))) (ed_var (pv 1)) (fun _ _ => rfl)))))
theorem ok_House_place_of (Y : Fx K mg) : MtC P w K mg base "House" "place_of" 2 ["self", "name", "atom"] [] F_House_place_of := by
  obtain ⟨fd, FD⟩ := Y.c.def_ 53 (d := d_House_place_of) rfl
  exact MtC.of FD (Y.c.fact 46) (Y.c.fact 93) rfl (ok_House_place_of_fn FD Y) fun _ _ _ _ _ _ us hl => match us, hl with | [_, _, _], _ => rfl
theorem sc_House_written : FnScope ["self", "name", "place", "number"] ["self", "name", "place", "number"] (defScope s_House_written) := ⟨rfl, rfl, rfl, by decide +kernel, rfl, by decide +kernel, by decide +kernel⟩
theorem ok_House_written_fn {f : Addr} {fd : FuncData} (FD : FunD K d_House_written.name d_House_written.qual d_House_written.params d_House_written.body d_House_written.scope (He.DefD.dvs K d_House_written) (He.DefD.kws K d_House_written) f fd) (Y : Fx K mg) : FnOk P w K mg base CX0 3 f fd ["self", "name", "place", "number"] (spS K 4 F_House_written) := by
  refine fn_ok FD sc_House_written fun cdv A outer s H E hr => ?_
  exact (sds_one (sd_if (td_val (ed_ix hr (ed_fld Y.at (ed_var (pv 0))) (ed_var (pv 1)) (fun _ _ => rfl))) (sds_one (sd_sub (ps_asg (ED.pe (ed_var (pv 3))) (pg_sub (ED.pe (ed_fld Y.at (ed_var (pv 0)))) (ED.pe (ed_tup (ad_cons (ed_var (pv 1)) (ad_cons (ed_var (pv 2)) ad_nil)))) (PSet.or set_list (set_dict (hu1 hr))))))) (sds_one (sd_expr (ed_meth (ok_House_settle Y) rfl hr (by decide) dd0 (ed_var (pv 0)) (ad_cons (ed_var (pv 1)) (ad_cons (ed_var (pv 2)) (ad_cons (ed_var (pv 3)) ad_nil))))))))
theorem ok_House_written (Y : Fx K mg) : MtC P w K mg base "House" "written" 3 ["self", "name", "place", "number"] [] F_House_written := by
  obtain ⟨fd, FD⟩ := Y.c.def_ 55 (d := d_House_written) rfl
  exact MtC.of FD (Y.c.fact 46) (Y.c.fact 95) rfl (ok_House_written_fn FD Y) fun _ _ _ _ _ _ us hl => match us, hl with | [_, _, _, _], _ => rfl
theorem sc_Store_get_home : FnScope ["self", "name", "place"] ["self", "name", "place"] (defScope s_Store_get_home) := ⟨rfl, rfl, rfl, by decide +kernel, rfl, by decide +kernel, by decide +kernel⟩
theorem ok_Store_get_home_fn {f : Addr} {fd : FuncData} (FD : FunD K d_Store_get_home.name d_Store_get_home.qual d_Store_get_home.params d_Store_get_home.body d_Store_get_home.scope (He.DefD.dvs K d_Store_get_home) (He.DefD.kws K d_Store_get_home) f fd) (Y : Fx K mg) : FnOk P w K mg base CX0 1 f fd ["self", "name", "place"] (spS K 3 F_Store_get_home) := by
  refine fn_ok FD sc_Store_get_home fun cdv A outer s H E hr => ?_
  exact (sds_one (sd_ret (ed_ix hr (ed_fld Y.at (ed_var (pv 0))) (ed_tup (ad_cons (ed_var (pv 1)) (ad_cons (ed_var (pv 2)) ad_nil))) (fun _ _ => rfl))))
theorem ok_Store_get_home (Y : Fx K mg) : MtC P w K mg base "Store" "get_home" 1 ["self", "name", "place"] [] F_Store_get_home := by
  obtain ⟨fd, FD⟩ := Y.c.def_ 20 (d := d_Store_get_home) rfl
  exact MtC.of FD (Y.c.fact 43) (Y.c.fact 62) rfl (ok_Store_get_home_fn FD Y) fun _ _ _ _ _ _ us hl => match us, hl with | [_, _, _], _ => rfl
theorem sc_House_seen : FnScope ["self", "name", "place"] ["self", "name", "place"] (defScope s_House_seen) := ⟨rfl, rfl, rfl, by decide +kernel, rfl, by decide +kernel, by decide +kernel⟩
theorem ok_House_seen_fn {f : Addr} {fd : FuncData} (FD : FunD K d_House_seen.name d_House_seen.qual d_House_seen.params d_House_seen.body d_House_seen.scope (He.DefD.dvs K d_House_seen) (He.DefD.kws K d_House_seen) f fd) (Y : Fx K mg) : FnOk P w K mg base CX0 2 f fd ["self", "name", "place"] (spS K 3 F_House_seen) := by
  refine fn_ok FD sc_House_seen fun cdv A outer s H E hr => ?_
  exact (sds_cons (sd_if (TDW.td (tw_and (td_val (ed_ix hr (ed_fld Y.at (ed_var (pv 0))) (ed_var (pv 1)) (fun _ _ => rfl))) (tw_and1 (td_in hr (ed_tup (ad_cons (ed_var (pv 1)) (ad_cons (ed_var (pv 2)) ad_nil))) (ed_fld Y.at (ed_var (pv 0))) rfl)))) (sds_one (sd_ret (ed_ix hr (ed_fld Y.at (ed_var (pv 0))) (ed_tup (ad_cons (ed_var (pv 1)) (ad_cons (ed_var (pv 2)) ad_nil))) (fun _ _ => rfl)))) sds_nil)
  (sds_one (sd_ret (ed_meth (ok_Store_get_home Y) rfl hr (by decide) dd0 (ed_fld Y.at (ed_var (pv 0))) (ad_cons (ed_var (pv 1)) (ad_cons (ed_var (pv 2)) ad_nil))))))
theorem ok_House_seen (Y : Fx K mg) : MtC P w K mg base "House" "seen" 2 ["self", "name", "place"] [] F_House_seen := by
  obtain ⟨fd, FD⟩ := Y.c.def_ 54 (d := d_House_seen) rfl
  exact MtC.of FD (Y.c.fact 46) (Y.c.fact 94) rfl (ok_House_seen_fn FD Y) fun _ _ _ _ _ _ us hl => match us, hl with | [_, _, _], _ => rfl
theorem sc_House_brought : FnScope ["self", "row"] ["self", "row"] (defScope s_House_brought) := ⟨rfl, rfl, rfl, by decide +kernel, rfl, by decide +kernel, by decide +kernel⟩
theorem ok_House_brought_fn {f : Addr} {fd : FuncData} (FD : FunD K d_House_brought.name d_House_brought.qual d_House_brought.params d_House_brought.body d_House_brought.scope (He.DefD.dvs K d_House_brought) (He.DefD.kws K d_House_brought) f fd) (Y : Fx K mg) : FnOk P w K mg base CX0 3 f fd ["self", "row"] (spS K 2 F_House_brought) := by
  refine fn_ok FD sc_House_brought fun cdv A outer s H E hr => ?_
  exact (sds_cons (sd_if (td_eq hr (ed_ix hr (ed_var (pv 1)) ed_int (fun _ _ => rfl)) ed_str) (sds_one (sd_ret (ed_meth (ok_House_worth Y) rfl hr (by decide) dd0 (ed_var (pv 0)) (ad_cons (ed_ix hr (ed_var (pv 1)) ed_int (fun _ _ => rfl)) ad_nil)))) sds_nil)
  (sds_cons (sd_if (td_eq hr (ed_ix hr (ed_var (pv 1)) ed_int (fun _ _ => rfl)) ed_str) (sds_one (sd_ret (ed_callP (ok_value Y) rfl hr (by decide) (by rfl) dd0 (ad_cons (ed_ix hr (ed_var (pv 1)) ed_int (fun _ _ => rfl)) (ad_cons (ed_meth (ok_House_worth Y) rfl hr (by decide) dd0 (ed_var (pv 0)) (ad_cons (ed_ix hr (ed_var (pv 1)) ed_int (fun _ _ => rfl)) ad_nil)) (ad_cons (ed_meth (ok_House_worth Y) rfl hr (by decide) dd0 (ed_var (pv 0)) (ad_cons (ed_ix hr (ed_var (pv 1)) ed_int (fun _ _ => rfl)) ad_nil)) ad_nil)))))) sds_nil)
  (sds_cons (sd_if (td_eq hr (ed_ix hr (ed_var (pv 1)) ed_int (fun _ _ => rfl)) ed_str) (sds_one (sd_ret (ed_meth (ok_House_seen Y) rfl hr (by decide) dd0 (ed_var (pv 0)) (ad_cons (ed_ix hr (ed_var (pv 1)) ed_int (fun _ _ => rfl)) (ad_cons ed_int ad_nil))))) sds_nil)
  (sds_cons (sd_if (td_eq hr (ed_ix hr (ed_var (pv 1)) ed_int (fun _ _ => rfl)) ed_str) (sds_one (sd_ret (ed_meth (ok_House_seen Y) rfl hr (by decide) dd0 (ed_var (pv 0)) (ad_cons (ed_ix hr (ed_var (pv 1)) ed_int (fun _ _ => rfl)) (ad_cons (ed_meth (ok_House_place_of Y) rfl hr (by decide) dd0 (ed_var (pv 0)) (ad_cons (ed_ix hr (ed_var (pv 1)) ed_int (fun _ _ => rfl)) (ad_cons (ed_ix hr (ed_var (pv 1)) ed_int (fun _ _ => rfl)) ad_nil))) ad_nil))))) sds_nil)
  (sds_cons (sd_augF Y.at in_add ok_rAdd ed_int (ed_var (pv 0)))
  (sds_cons (sd_if (td_gt (ed_fld Y.at (ed_var (pv 0))) (ed_prim (fun ha => pe_callB (x := "len") call_lenAll (by rfl) Y.tb.len boot_len ha) ok_len (ad_cons (ed_fld Y.at (ed_var (pv 0))) ad_nil))) (sds_one (sd_ret ed_int)) sds_nil)
  (sds_one (sd_ret (ed_ix hr (ed_fld Y.at (ed_var (pv 0))) (ed_sub (ed_fld Y.at (ed_var (pv 0))) ed_int) (fun _ _ => rfl))))))))))
theorem ok_House_brought (Y : Fx K mg) : MtC P w K mg base "House" "brought" 3 ["self", "row"] [] F_House_brought := by
  obtain ⟨fd, FD⟩ := Y.c.def_ 57 (d := d_House_brought) rfl
  exact MtC.of FD (Y.c.fact 46) (Y.c.fact 97) rfl (ok_House_brought_fn FD Y) fun _ _ _ _ _ _ us hl => match us, hl with | [_, _], _ => rfl
theorem sc_House_do_row : FnScope ["self", "at", "row", "way"] ["self", "at"] (defScope s_House_do_row) := ⟨rfl, rfl, rfl, by decide +kernel, rfl, by decide +kernel, by decide +kernel⟩
theorem ok_House_do_row_fn {f : Addr} {fd : FuncData} (FD : FunD K d_House_do_row.name d_House_do_row.qual d_House_do_row.params d_House_do_row.body d_House_do_row.scope (He.DefD.dvs K d_House_do_row) (He.DefD.kws K d_House_do_row) f fd) (Y : Fx K mg) : FnOk P w K mg base CX0 4 f fd ["self", "at"] (spS K 2 F_House_do_row) := by
  refine fn_ok FD sc_House_do_row fun cdv A outer s H E hr => ?_
  exact (sds_cons (sd_set (ps_set (i := 2) sc_House_do_row.nd rfl (by first | exact .inl rfl | exact .inr rfl) (ED.pe (ed_ix hr (ed_ix hr (ed_fld Y.at (ed_var (pv 0))) ed_int (fun _ _ => rfl)) (ed_var (pv 1)) (fun _ _ => rfl)))))
  (sds_cons (sd_augF Y.at in_add ok_rAdd ed_int (ed_var (pv 0)))
  (sds_cons (sd_set (ps_set (i := 3) sc_House_do_row.nd rfl (by first | exact .inl rfl | exact .inr rfl) (ED.pe ed_int)))
  (sds_cons (sd_if (td_eq hr (ed_ix hr (ed_var (pv 2)) ed_int (fun _ _ => rfl)) ed_str) (sds_cons (sd_expr (ed_meth (ok_Store_give Y) rfl hr (by decide) dd0 (ed_fld Y.at (ed_var (pv 0))) (ad_cons (ed_meth (ok_House_worth Y) rfl hr (by decide) dd0 (ed_var (pv 0)) (ad_cons (ed_ix hr (ed_var (pv 2)) ed_int (fun _ _ => rfl)) ad_nil)) ad_nil)))
  (sds_one (sd_ret ed_non))) sds_nil)
  (sds_cons (sd_if (td_eq hr (ed_ix hr (ed_var (pv 2)) ed_int (fun _ _ => rfl)) ed_str) (sds_one (sd_set (ps_set (i := 3) sc_House_do_row.nd rfl (by first | exact .inl rfl | exact .inr rfl) (ED.pe (ed_prim (fun ha => pe_callTy (x := "int") call_intAll (by rfl) Y.tb.int boot_int ha) ok_int (ad_cons (ed_eq hr (ed_meth (ok_House_worth Y) rfl hr (by decide) dd0 (ed_var (pv 0)) (ad_cons (ed_ix hr (ed_var (pv 2)) ed_int (fun _ _ => rfl)) ad_nil)) ed_int) ad_nil)))))) (sds_one (sd_if (td_eq hr (ed_ix hr (ed_var (pv 2)) ed_int (fun _ _ => rfl)) ed_str) (sds_one (sd_expr (ed_meth (ok_House_written Y) rfl hr (by decide) dd0 (ed_var (pv 0)) (ad_cons (ed_ix hr (ed_var (pv 2)) ed_int (fun _ _ => rfl)) (ad_cons ed_int (ad_cons (ed_meth (ok_House_worth Y) rfl hr (by decide) dd0 (ed_var (pv 0)) (ad_cons (ed_ix hr (ed_var (pv 2)) ed_int (fun _ _ => rfl)) ad_nil)) ad_nil)))))) (sds_one (sd_if (td_eq hr (ed_ix hr (ed_var (pv 2)) ed_int (fun _ _ => rfl)) ed_str) (sds_one (sd_expr (ed_meth (ok_House_written Y) rfl hr (by decide) dd0 (ed_var (pv 0)) (ad_cons (ed_ix hr (ed_var (pv 2)) ed_int (fun _ _ => rfl)) (ad_cons (ed_meth (ok_House_place_of Y) rfl hr (by decide) dd0 (ed_var (pv 0)) (ad_cons (ed_ix hr (ed_var (pv 2)) ed_int (fun _ _ => rfl)) (ad_cons (ed_ix hr (ed_var (pv 2)) ed_int (fun _ _ => rfl)) ad_nil))) (ad_cons (ed_meth (ok_House_worth Y) rfl hr (by decide) dd0 (ed_var (pv 0)) (ad_cons (ed_ix hr (ed_var (pv 2)) ed_int (fun _ _ => rfl)) ad_nil)) ad_nil)))))) (sds_one (sd_if (td_eq hr (ed_ix hr (ed_var (pv 2)) ed_int (fun _ _ => rfl)) ed_str) (sds_cons (sd_expr (ed_meth (ok_Hand_take Y) rfl hr (by decide) dd0 (ed_fld Y.at (ed_var (pv 0))) (ad_cons (ed_fld Y.at (ed_var (pv 0))) (ad_cons (ed_meth (ok_House_worth Y) rfl hr (by decide) dd0 (ed_var (pv 0)) (ad_cons (ed_ix hr (ed_var (pv 2)) ed_int (fun _ _ => rfl)) ad_nil)) ad_nil))))
  (sds_one (sd_augF Y.at in_add ok_rAdd ed_int (ed_var (pv 0))))) (sds_one (sd_if (td_ne hr (ed_ix hr (ed_var (pv 2)) ed_int (fun _ _ => rfl)) ed_str) (sds_one (sd_sub (ps_asg (ED.pe (ed_meth (ok_House_brought Y) rfl hr (by decide) dd0 (ed_var (pv 0)) (ad_cons (ed_var (pv 2)) ad_nil))) (pg_sub (ED.pe (ed_fld Y.at (ed_var (pv 0)))) (ED.pe (ed_ix hr (ed_var (pv 2)) ed_int (fun _ _ => rfl))) (PSet.or set_list (set_dict (hu1 hr))))))) sds_nil)))))))))
  (sds_one (sd_ret (ed_ix hr (ed_ix hr (ed_fld Y.at (ed_var (pv 0))) (ed_var (pv 1)) (fun _ _ => rfl)) (ed_var (pv 3)) (fun _ _ => rfl)))))))))
theorem ok_House_do_row (Y : Fx K mg) : MtC P w K mg base "House" "do_row" 4 ["self", "at"] [] F_House_do_row := by
  obtain ⟨fd, FD⟩ := Y.c.def_ 56 (d := d_House_do_row) rfl
  exact MtC.of FD (Y.c.fact 46) (Y.c.fact 96) rfl (ok_House_do_row_fn FD Y) fun _ _ _ _ _ _ us hl => match us, hl with | [_, _], _ => rfl
theorem sc_Going_goes : FnScope ["self", "house", "line", "boxes"] ["self", "house"] (defScope s_Going_goes) := ⟨rfl, rfl, rfl, by decide +kernel, rfl, by decide +kernel, by decide +kernel⟩
theorem ok_Going_goes_fn {f : Addr} {fd : FuncData} (FD : FunD K d_Going_goes.name d_Going_goes.qual d_Going_goes.params d_Going_goes.body d_Going_goes.scope (He.DefD.dvs K d_Going_goes) (He.DefD.kws K d_Going_goes) f fd) (Y : Fx K mg) : FnOk P w K mg base CX0 5 f fd ["self", "house"] (spS K 2 F_Going_goes) := by
  refine fn_ok FD sc_Going_goes fun cdv A outer s H E hr => ?_
  exact (sds_cons (sd_set (ps_set (i := 2) sc_Going_goes.nd rfl (by first | exact .inl rfl | exact .inr rfl) (ED.pe (ed_meth (ok_House_do_row Y) rfl hr (by decide) dd0 (ed_var (pv 1)) (ad_cons (ed_fld Y.at (ed_var (pv 0))) ad_nil)))))
  (sds_cons (sd_if (td_is (ed_var (pv 2)) ed_non) (sds_one (sd_ret (ed_makeO (Y.mk0_Resting) (by rfl) (Y.glo 28)))) sds_nil)
  (sds_cons (sd_set (ps_set (i := 3) sc_Going_goes.nd rfl (by first | exact .inl rfl | exact .inr rfl) (ED.pe (ed_meth (ok_House_boxes_kept Y) rfl hr (by decide) dd0 (ed_var (pv 1)) (ad_cons (ed_var (pv 2)) ad_nil)))))
  (sds_cons (sd_if (td_is (ed_var (pv 3)) ed_non) (sds_one (sd_ret (ed_make (ok_Going_init Y) rfl hr (by decide) (by rfl) dd0 (ad_cons (ed_var (pv 2)) ad_nil)))) sds_nil)
  (sds_one (sd_ret (ed_make (ok_Keeping_init Y) rfl hr (by decide) (by rfl) dd0 (ad_cons (ed_var (pv 2)) (ad_cons (ed_meth (ok_House_small_steps Y) rfl hr (by decide) dd0 (ed_var (pv 1)) (ad_cons (ed_var (pv 2)) (ad_cons (ed_var (pv 3)) ad_nil))) ad_nil)))))))))
theorem ok_Going_goes (Y : Fx K mg) : MtC P w K mg base "Going" "goes" 5 ["self", "house"] [] F_Going_goes := by
  obtain ⟨fd, FD⟩ := Y.c.def_ 13 (d := d_Going_goes) rfl
  exact MtC.of FD (Y.c.fact 34) (Y.c.fact 58) rfl (ok_Going_goes_fn FD Y) fun _ _ _ _ _ _ us hl => match us, hl with | [_, _], _ => rfl
theorem sc_Page_init : FnScope ["self", "row", "count", "heard", "sent"] ["self", "row", "count", "heard", "sent"] (defScope s_Page_init) := ⟨rfl, rfl, rfl, by decide +kernel, rfl, by decide +kernel, by decide +kernel⟩
theorem ok_Page_init_fn {f : Addr} {fd : FuncData} (FD : FunD K d_Page_init.name d_Page_init.qual d_Page_init.params d_Page_init.body d_Page_init.scope (He.DefD.dvs K d_Page_init) (He.DefD.kws K d_Page_init) f fd) (Y : Fx K mg) : FnOk P w K mg base CX0 1 f fd ["self", "row", "count", "heard", "sent"] (spS K 5 F_Page_init) := by
  refine fn_ok FD sc_Page_init fun cdv A outer s H E hr => ?_
  exact (sds_cons (sd_setF Y.at (ed_tup (ad_cons (ed_var (pv 1)) (ad_cons (ed_var (pv 2)) (ad_cons (ed_var (pv 3)) (ad_cons (ed_var (pv 4)) ad_nil))))) (ed_var (pv 0)))
  (sds_cons (sd_setF Y.at (ed_lstM ad_nil) (ed_var (pv 0)))
  (sds_one (sd_setF Y.at (ed_lstM ad_nil) (ed_var (pv 0))))))
theorem ok_Page_init (Y : Fx K mg) : MkC P w K mg base "Page" 1 ["self", "row", "count", "heard", "sent"] [] F_Page_init := by
  obtain ⟨fd, FD⟩ := Y.c.def_ 16 (d := d_Page_init) rfl
  exact MkC.of FD (Y.glo 39) (Y.c.fact 41) rfl (ok_Page_init_fn FD Y) fun _ _ _ _ _ _ us hl => match us, hl with | [_, _, _, _, _], _ => rfl
theorem sc_Store_begin_page : FnScope ["self", "row", "count", "heard", "sent"] ["self", "row", "count", "heard", "sent"] (defScope s_Store_begin_page) := ⟨rfl, rfl, rfl, by decide +kernel, rfl, by decide +kernel, by decide +kernel⟩
theorem ok_Store_begin_page_fn {f : Addr} {fd : FuncData} (FD : FunD K d_Store_begin_page.name d_Store_begin_page.qual d_Store_begin_page.params d_Store_begin_page.body d_Store_begin_page.scope (He.DefD.dvs K d_Store_begin_page) (He.DefD.kws K d_Store_begin_page) f fd) (Y : Fx K mg) : FnOk P w K mg base CX0 3 f fd ["self", "row", "count", "heard", "sent"] (spS K 5 F_Store_begin_page) := by
  refine fn_ok FD sc_Store_begin_page fun cdv A outer s H E hr => ?_
  exact (sds_one (sd_sub (ps_asg (ED.pe (ed_make (ok_Page_init Y) rfl hr (by decide) (by rfl) dd0 (ad_cons (ed_var (pv 1)) (ad_cons (ed_var (pv 2)) (ad_cons (ed_var (pv 3)) (ad_cons (ed_var (pv 4)) ad_nil)))))) (pg_sub (ED.pe (ed_fld Y.at (ed_var (pv 0)))) (ED.pe (ed_sub ed_int (ed_fld Y.at (ed_var (pv 0))))) (PSet.or set_list (set_dict (hu1 hr)))))))
theorem ok_Store_begin_page (Y : Fx K mg) : MtC P w K mg base "Store" "begin_page" 3 ["self", "row", "count", "heard", "sent"] [] F_Store_begin_page := by
  obtain ⟨fd, FD⟩ := Y.c.def_ 24 (d := d_Store_begin_page) rfl
  exact MtC.of FD (Y.c.fact 43) (Y.c.fact 66) rfl (ok_Store_begin_page_fn FD Y) fun _ _ _ _ _ _ us hl => match us, hl with | [_, _, _, _, _], _ => rfl
theorem sc_Store_keep_box : FnScope ["self", "name", "value"] ["self", "name", "value"] (defScope s_Store_keep_box) := ⟨rfl, rfl, rfl, by decide +kernel, rfl, by decide +kernel, by decide +kernel⟩
theorem ok_Store_keep_box_fn {f : Addr} {fd : FuncData} (FD : FunD K d_Store_keep_box.name d_Store_keep_box.qual d_Store_keep_box.params d_Store_keep_box.body d_Store_keep_box.scope (He.DefD.dvs K d_Store_keep_box) (He.DefD.kws K d_Store_keep_box) f fd) (Y : Fx K mg) : FnOk P w K mg base CX0 1 f fd ["self", "name", "value"] (spS K 3 F_Store_keep_box) := by
  refine fn_ok FD sc_Store_keep_box fun cdv A outer s H E hr => ?_
  exact (sds_one (sd_expr (ed_mt ok_append (ed_fld Y.at (ed_ix hr (ed_fld Y.at (ed_var (pv 0))) (ed_sub ed_int (ed_fld Y.at (ed_var (pv 0)))) (fun _ _ => rfl))) (ad_cons (ed_tup (ad_cons (ed_var (pv 1)) (ad_cons (ed_var (pv 2)) ad_nil))) ad_nil) (fun ho ha => pe_bm PySem.F.plainAttrs_list PySem.F.slot_list_append PySem.F.type_list_append mt_append ho ha))))
theorem ok_Store_keep_box (Y : Fx K mg) : MtC P w K mg base "Store" "keep_box" 1 ["self", "name", "value"] [] F_Store_keep_box := by
  obtain ⟨fd, FD⟩ := Y.c.def_ 25 (d := d_Store_keep_box) rfl
  exact MtC.of FD (Y.c.fact 43) (Y.c.fact 67) rfl (ok_Store_keep_box_fn FD Y) fun _ _ _ _ _ _ us hl => match us, hl with | [_, _, _], _ => rfl
theorem sc_Store_keep_turn : FnScope ["self", "name", "place", "value"] ["self", "name", "place", "value"] (defScope s_Store_keep_turn) := ⟨rfl, rfl, rfl, by decide +kernel, rfl, by decide +kernel, by decide +kernel⟩
theorem ok_Store_keep_turn_fn {f : Addr} {fd : FuncData} (FD : FunD K d_Store_keep_turn.name d_Store_keep_turn.qual d_Store_keep_turn.params d_Store_keep_turn.body d_Store_keep_turn.scope (He.DefD.dvs K d_Store_keep_turn) (He.DefD.kws K d_Store_keep_turn) f fd) (Y : Fx K mg) : FnOk P w K mg base CX0 1 f fd ["self", "name", "place", "value"] (spS K 4 F_Store_keep_turn) := by
  refine fn_ok FD sc_Store_keep_turn fun cdv A outer s H E hr => ?_
  exact (sds_one (sd_expr (ed_mt ok_append (ed_fld Y.at (ed_ix hr (ed_fld Y.at (ed_var (pv 0))) (ed_sub ed_int (ed_fld Y.at (ed_var (pv 0)))) (fun _ _ => rfl))) (ad_cons (ed_tup (ad_cons (ed_tup (ad_cons (ed_var (pv 1)) (ad_cons (ed_var (pv 2)) ad_nil))) (ad_cons (ed_var (pv 3)) ad_nil))) ad_nil) (fun ho ha => pe_bm PySem.F.plainAttrs_list PySem.F.slot_list_append PySem.F.type_list_append mt_append ho ha))))
theorem ok_Store_keep_turn (Y : Fx K mg) : MtC P w K mg base "Store" "keep_turn" 1 ["self", "name", "place", "value"] [] F_Store_keep_turn := by
  obtain ⟨fd, FD⟩ := Y.c.def_ 26 (d := d_Store_keep_turn) rfl
  exact MtC.of FD (Y.c.fact 43) (Y.c.fact 68) rfl (ok_Store_keep_turn_fn FD Y) fun _ _ _ _ _ _ us hl => match us, hl with | [_, _, _, _], _ => rfl
theorem sc_Store_turn : FnScope ["self"] ["self"] (defScope s_Store_turn) := ⟨rfl, rfl, rfl, by decide +kernel, rfl, by decide +kernel, by decide +kernel⟩
theorem ok_Store_turn_fn {f : Addr} {fd : FuncData} (FD : FunD K d_Store_turn.name d_Store_turn.qual d_Store_turn.params d_Store_turn.body d_Store_turn.scope (He.DefD.dvs K d_Store_turn) (He.DefD.kws K d_Store_turn) f fd) (Y : Fx K mg) : FnOk P w K mg base CX0 1 f fd ["self"] (spS K 1 F_Store_turn) := by
  refine fn_ok FD sc_Store_turn fun cdv A outer s H E hr => ?_
  exact (sds_one (sd_setF Y.at (ed_sub ed_int (ed_fld Y.at (ed_var (pv 0)))) (ed_var (pv 0))))
theorem ok_Store_turn (Y : Fx K mg) : MtC P w K mg base "Store" "turn" 1 ["self"] [] F_Store_turn := by
  obtain ⟨fd, FD⟩ := Y.c.def_ 27 (d := d_Store_turn) rfl
  exact MtC.of FD (Y.c.fact 43) (Y.c.fact 69) rfl (ok_Store_turn_fn FD Y) fun _ _ _ _ _ _ us hl => match us, hl with | [_], _ => rfl
theorem sc_House_small_step : FnScope ["self", "deed"] ["self", "deed"] (defScope s_House_small_step) := ⟨rfl, rfl, rfl, by decide +kernel, rfl, by decide +kernel, by decide +kernel⟩
theorem ok_House_small_step_fn {f : Addr} {fd : FuncData} (FD : FunD K d_House_small_step.name d_House_small_step.qual d_House_small_step.params d_House_small_step.body d_House_small_step.scope (He.DefD.dvs K d_House_small_step) (He.DefD.kws K d_House_small_step) f fd) (Y : Fx K mg) : FnOk P w K mg base CX0 4 f fd ["self", "deed"] (spS K 2 F_House_small_step) := by
  refine fn_ok FD sc_House_small_step fun cdv A outer s H E hr => ?_
  exact (sds_one (sd_if (td_eq hr (ed_ix hr (ed_var (pv 1)) ed_int (fun _ _ => rfl)) ed_str) (sds_one (sd_expr (ed_meth (ok_Store_begin_page Y) rfl hr (by decide) dd0 (ed_fld Y.at (ed_var (pv 0))) (ad_cons (ed_ix hr (ed_var (pv 1)) ed_int (fun _ _ => rfl)) (ad_cons (ed_fld Y.at (ed_var (pv 0))) (ad_cons (ed_fld Y.at (ed_var (pv 0))) (ad_cons (ed_fld Y.at (ed_var (pv 0))) ad_nil))))))) (sds_one (sd_if (td_eq hr (ed_ix hr (ed_var (pv 1)) ed_int (fun _ _ => rfl)) ed_str) (sds_one (sd_expr (ed_meth (ok_Store_keep_box Y) rfl hr (by decide) dd0 (ed_fld Y.at (ed_var (pv 0))) (ad_cons (ed_ix hr (ed_var (pv 1)) ed_int (fun _ _ => rfl)) (ad_cons (ed_ix hr (ed_var (pv 1)) ed_int (fun _ _ => rfl)) ad_nil))))) (sds_one (sd_if (td_eq hr (ed_ix hr (ed_var (pv 1)) ed_int (fun _ _ => rfl)) ed_str) (sds_one (sd_expr (ed_meth (ok_Store_keep_turn Y) rfl hr (by decide) dd0 (ed_fld Y.at (ed_var (pv 0))) (ad_cons (ed_ix hr (ed_var (pv 1)) ed_int (fun _ _ => rfl)) (ad_cons (ed_ix hr (ed_var (pv 1)) ed_int (fun _ _ => rfl)) (ad_cons (ed_ix hr (ed_var (pv 1)) ed_int (fun _ _ => rfl)) ad_nil)))))) (sds_one (sd_if (td_eq hr (ed_ix hr (ed_var (pv 1)) ed_int (fun _ _ => rfl)) ed_str) (sds_one (sd_expr (ed_meth0 (ok_Store_turn Y) rfl hr (by decide) dd0 (ed_fld Y.at (ed_var (pv 0)))))) (sds_one (sd_expr (ed_meth (ok_House_settle Y) rfl hr (by decide) dd0 (ed_var (pv 0)) (ad_cons (ed_ix hr (ed_var (pv 1)) ed_int (fun _ _ => rfl)) (ad_cons (ed_ix hr (ed_var (pv 1)) ed_int (fun _ _ => rfl)) (ad_cons (ed_ix hr (ed_var (pv 1)) ed_int (fun _ _ => rfl)) ad_nil))))))))))))))
theorem ok_House_small_step (Y : Fx K mg) : MtC P w K mg base "House" "small_step" 4 ["self", "deed"] [] F_House_small_step := by
  obtain ⟨fd, FD⟩ := Y.c.def_ 49 (d := d_House_small_step) rfl
  exact MtC.of FD (Y.c.fact 46) (Y.c.fact 89) rfl (ok_House_small_step_fn FD Y) fun _ _ _ _ _ _ us hl => match us, hl with | [_, _], _ => rfl
theorem sc_House_forget_log : FnScope ["self"] ["self"] (defScope s_House_forget_log) := ⟨rfl, rfl, rfl, by decide +kernel, rfl, by decide +kernel, by decide +kernel⟩
theorem ok_House_forget_log_fn {f : Addr} {fd : FuncData} (FD : FunD K d_House_forget_log.name d_House_forget_log.qual d_House_forget_log.params d_House_forget_log.body d_House_forget_log.scope (He.DefD.dvs K d_House_forget_log) (He.DefD.kws K d_House_forget_log) f fd) (Y : Fx K mg) : FnOk P w K mg base CX0 1 f fd ["self"] (spS K 1 F_House_forget_log) := by
  refine fn_ok FD sc_House_forget_log fun cdv A outer s H E hr => ?_
  exact (sds_one (sd_setF Y.at (ed_dnewT pe_dnewT) (ed_var (pv 0))))
theorem ok_House_forget_log (Y : Fx K mg) : MtC P w K mg base "House" "forget_log" 1 ["self"] [] F_House_forget_log := by
  obtain ⟨fd, FD⟩ := Y.c.def_ 51 (d := d_House_forget_log) rfl
  exact MtC.of FD (Y.c.fact 46) (Y.c.fact 91) rfl (ok_House_forget_log_fn FD Y) fun _ _ _ _ _ _ us hl => match us, hl with | [_], _ => rfl
theorem sc_Keeping_goes : FnScope ["self", "house"] ["self", "house"] (defScope s_Keeping_goes) := ⟨rfl, rfl, rfl, by decide +kernel, rfl, by decide +kernel, by decide +kernel⟩
theorem ok_Keeping_goes_fn {f : Addr} {fd : FuncData} (FD : FunD K d_Keeping_goes.name d_Keeping_goes.qual d_Keeping_goes.params d_Keeping_goes.body d_Keeping_goes.scope (He.DefD.dvs K d_Keeping_goes) (He.DefD.kws K d_Keeping_goes) f fd) (Y : Fx K mg) : FnOk P w K mg base CX0 5 f fd ["self", "house"] (spS K 2 F_Keeping_goes) := by
  refine fn_ok FD sc_Keeping_goes fun cdv A outer s H E hr => ?_
  exact (sds_cons (sd_expr (ed_meth (ok_House_small_step Y) rfl hr (by decide) dd0 (ed_var (pv 1)) (ad_cons (ed_ix hr (ed_fld Y.at (ed_var (pv 0))) (ed_fld Y.at (ed_var (pv 0))) (fun _ _ => rfl)) ad_nil)))
  (sds_cons (sd_augF Y.at in_add ok_rAdd ed_int (ed_var (pv 0)))
  (sds_cons (sd_if (td_lt (ed_fld Y.at (ed_var (pv 0))) (ed_prim (fun ha => pe_callB (x := "len") call_lenAll (by rfl) Y.tb.len boot_len ha) ok_len (ad_cons (ed_fld Y.at (ed_var (pv 0))) ad_nil))) (sds_one (sd_ret (ed_var (pv 0)))) sds_nil)
  (sds_cons (sd_expr (ed_meth0 (ok_House_forget_log Y) rfl hr (by decide) dd0 (ed_var (pv 1))))
  (sds_one (sd_ret (ed_make (ok_Going_init Y) rfl hr (by decide) (by rfl) dd0 (ad_cons (ed_fld Y.at (ed_var (pv 0))) ad_nil))))))))
theorem ok_Keeping_goes (Y : Fx K mg) : MtC P w K mg base "Keeping" "goes" 5 ["self", "house"] [] F_Keeping_goes := by
  obtain ⟨fd, FD⟩ := Y.c.def_ 15 (d := d_Keeping_goes) rfl
  exact MtC.of FD (Y.c.fact 37) (Y.c.fact 59) rfl (ok_Keeping_goes_fn FD Y) fun _ _ _ _ _ _ us hl => match us, hl with | [_, _], _ => rfl
theorem sc_Store_init : FnScope ["self", "program", "begin", "name", "start", "twin", "size", "place"] ["self", "program", "begin"] (defScope s_Store_init) := ⟨rfl, rfl, rfl, by decide +kernel, rfl, by decide +kernel, by decide +kernel⟩
theorem ok_Store_init_fn {f : Addr} {fd : FuncData} (FD : FunD K d_Store_init.name d_Store_init.qual d_Store_init.params d_Store_init.body d_Store_init.scope (He.DefD.dvs K d_Store_init) (He.DefD.kws K d_Store_init) f fd) (Y : Fx K mg) : FnOk P w K mg base CX0 3 f fd ["self", "program", "begin"] (spS K 3 F_Store_init) := by
  refine fn_ok FD sc_Store_init fun cdv A outer s H E hr => ?_
  exact (sds_cons (sd_setF Y.at (ed_dnewT pe_dnewT) (ed_var (pv 0)))
  (sds_cons (sd_setF Y.at (ed_dnewK pe_dnewK) (ed_var (pv 0)))
  (sds_cons (sd_for (ps_for PassesOwn.never rfl (Dn.ID.pi (id_seq (ed_ix hr (ed_var (pv 1)) ed_int (fun _ _ => rfl)))) (GD.pg (gd_t rfl (gds_c (gd_name (pg_name (i := 3) sc_Store_init.nd rfl (by first | exact .inl rfl | exact .inr rfl))) (gds_c (gd_name (pg_name (i := 4) sc_Store_init.nd rfl (by first | exact .inl rfl | exact .inr rfl))) (gds_c (gd_name (pg_name (i := 5) sc_Store_init.nd rfl (by first | exact .inl rfl | exact .inr rfl))) gds_nil))))) (SDs.ps (sds_one (sd_sub (ps_asg (ED.pe (ed_var (pv 4))) (pg_sub (ED.pe (ed_fld Y.at (ed_var (pv 0)))) (ED.pe (ed_tup (ad_cons (ed_var (pv 3)) (ad_cons ed_int ad_nil)))) (PSet.or set_list (set_dict (hu1 hr))))))))))
  (sds_cons (sd_for (ps_for PassesOwn.never rfl (Dn.ID.pi (id_seq (ed_ix hr (ed_var (pv 1)) ed_int (fun _ _ => rfl)))) (GD.pg (gd_t rfl (gds_c (gd_name (pg_name (i := 3) sc_Store_init.nd rfl (by first | exact .inl rfl | exact .inr rfl))) (gds_c (gd_name (pg_name (i := 6) sc_Store_init.nd rfl (by first | exact .inl rfl | exact .inr rfl))) (gds_c (gd_name (pg_name (i := 5) sc_Store_init.nd rfl (by first | exact .inl rfl | exact .inr rfl))) gds_nil))))) (SDs.ps (sds_cons (sd_sub (ps_asg (ED.pe (ed_var (pv 6))) (pg_sub (ED.pe (ed_fld Y.at (ed_var (pv 0)))) (ED.pe (ed_var (pv 3))) (PSet.or set_list (set_dict (hu1 hr))))))
  (sds_one (sd_for (ps_for PassesOwn.never rfl (Dn.ID.pi (id_range1 (ad_cons (ed_var (pv 6)) ad_nil) (fun ha => pi_range1 (by rfl) Y.tb.range ha))) (GD.pg (gd_name (pg_name (i := 7) sc_Store_init.nd rfl (by first | exact .inl rfl | exact .inr rfl)))) (SDs.ps (sds_one (sd_sub (ps_asg (ED.pe ed_int) (pg_sub (ED.pe (ed_fld Y.at (ed_var (pv 0)))) (ED.pe (ed_tup (ad_cons (ed_var (pv 3)) (ad_cons (ed_var (pv 7)) ad_nil)))) (PSet.or set_list (set_dict (hu1 hr)))))))))))))))
  (sds_cons (sd_setF Y.at (ed_lstM (ad_cons (ed_make (ok_Page_init Y) rfl hr (by decide) (by rfl) dd0 (ad_cons ed_int (ad_cons ed_int (ad_cons ed_int (ad_cons ed_int ad_nil))))) (ad_cons (ed_make (ok_Page_init Y) rfl hr (by decide) (by rfl) dd0 (ad_cons ed_int (ad_cons ed_int (ad_cons ed_int (ad_cons ed_int ad_nil))))) ad_nil))) (ed_var (pv 0)))
  (sds_cons (sd_for (ps_for PassesOwn.never rfl (Dn.ID.pi (id_seq (ed_var (pv 2)))) (GD.pg (gd_name (pg_name (i := 3) sc_Store_init.nd rfl (by first | exact .inl rfl | exact .inr rfl)))) (SDs.ps (sds_one (sd_expr (ed_mt ok_append (ed_fld Y.at (ed_ix hr (ed_fld Y.at (ed_var (pv 0))) ed_int (fun _ _ => rfl))) (ad_cons (ed_tup (ad_cons (ed_var (pv 3)) (ad_cons ed_int ad_nil))) ad_nil) (fun ho ha => pe_bm PySem.F.plainAttrs_list PySem.F.slot_list_append PySem.F.type_list_append mt_append ho ha)))))))
  (sds_cons (sd_setF Y.at ed_int (ed_var (pv 0)))
  (sds_one (sd_setF Y.at ed_non (ed_var (pv 0)))))))))))
theorem ok_Store_init (Y : Fx K mg) : MkC P w K mg base "Store" 3 ["self", "program", "begin"] [] F_Store_init := by
  obtain ⟨fd, FD⟩ := Y.c.def_ 17 (d := d_Store_init) rfl
  exact MkC.of FD (Y.glo 42) (Y.c.fact 44) rfl (ok_Store_init_fn FD Y) fun _ _ _ _ _ _ us hl => match us, hl with | [_, _, _], _ => rfl
theorem sc_Store_cell : FnScope ["self", "name"] ["self", "name"] (defScope s_Store_cell) := ⟨rfl, rfl, rfl, by decide +kernel, rfl, by decide +kernel, by decide +kernel⟩
theorem ok_Store_cell_fn {f : Addr} {fd : FuncData} (FD : FunD K d_Store_cell.name d_Store_cell.qual d_Store_cell.params d_Store_cell.body d_Store_cell.scope (He.DefD.dvs K d_Store_cell) (He.DefD.kws K d_Store_cell) f fd) (Y : Fx K mg) : FnOk P w K mg base CX0 1 f fd ["self", "name"] (spS K 2 F_Store_cell) := by
  refine fn_ok FD sc_Store_cell fun cdv A outer s H E hr => ?_
  exact (sds_one (sd_ret (ed_ix hr (ed_fld Y.at (ed_var (pv 0))) (ed_tup (ad_cons (ed_var (pv 1)) (ad_cons ed_int ad_nil))) (fun _ _ => rfl))))
theorem ok_Store_cell (Y : Fx K mg) : MtC P w K mg base "Store" "cell" 1 ["self", "name"] [] F_Store_cell := by
  obtain ⟨fd, FD⟩ := Y.c.def_ 18 (d := d_Store_cell) rfl
  exact MtC.of FD (Y.c.fact 43) (Y.c.fact 60) rfl (ok_Store_cell_fn FD Y) fun _ _ _ _ _ _ us hl => match us, hl with | [_, _], _ => rfl
theorem sc_Store_shelf : FnScope ["self", "name", "place"] ["self", "name"] (defScope s_Store_shelf) := ⟨rfl, rfl, rfl, by decide +kernel, rfl, by decide +kernel, by decide +kernel⟩
theorem ok_Store_shelf_fn {f : Addr} {fd : FuncData} (FD : FunD K d_Store_shelf.name d_Store_shelf.qual d_Store_shelf.params d_Store_shelf.body d_Store_shelf.scope (He.DefD.dvs K d_Store_shelf) (He.DefD.kws K d_Store_shelf) f fd) (Y : Fx K mg) : FnOk P w K mg base CX0 1 f fd ["self", "name"] (spS K 2 F_Store_shelf) := by
  refine fn_ok FD sc_Store_shelf fun cdv A outer s H E hr => ?_
  exact (sds_one (sd_ret (ed_lc (pe_lc (own := [("place", 2)]) rfl sc_Store_shelf.nd (Dn.ID.pi (id_range1 (ad_cons (ed_ix hr (ed_fld Y.at (ed_var (pv 0))) (ed_var (pv 1)) (fun _ _ => rfl)) ad_nil) (fun ha => pi_range1 (by rfl) Y.tb.range ha))) (blkOk_by (by rfl)) (fun _ _ _ _ _ => (pg_name (i := 2) sc_Store_shelf.nd rfl (by first | exact .inl rfl | exact .inr rfl))) (fun _ _ _ _ _ => pts_nil) (fun _ _ _ _ _ => (ED.pe (ed_ix hr (ed_fld Y.at (ed_var (pv 0))) (ed_tup (ad_cons (ed_var (pv 1)) (ad_cons (ed_var (pv 2)) ad_nil))) (fun _ _ => rfl))))) (gw_name (by decide)) yes_of)))
theorem ok_Store_shelf (Y : Fx K mg) : MtC P w K mg base "Store" "shelf" 1 ["self", "name"] [] F_Store_shelf := by
  obtain ⟨fd, FD⟩ := Y.c.def_ 19 (d := d_Store_shelf) rfl
  exact MtC.of FD (Y.c.fact 43) (Y.c.fact 61) rfl (ok_Store_shelf_fn FD Y) fun _ _ _ _ _ _ us hl => match us, hl with | [_, _], _ => rfl
theorem sc_Store_answer : FnScope ["self"] ["self"] (defScope s_Store_answer) := ⟨rfl, rfl, rfl, by decide +kernel, rfl, by decide +kernel, by decide +kernel⟩
theorem ok_Store_answer_fn {f : Addr} {fd : FuncData} (FD : FunD K d_Store_answer.name d_Store_answer.qual d_Store_answer.params d_Store_answer.body d_Store_answer.scope (He.DefD.dvs K d_Store_answer) (He.DefD.kws K d_Store_answer) f fd) (Y : Fx K mg) : FnOk P w K mg base CX0 1 f fd ["self"] (spS K 1 F_Store_answer) := by
  refine fn_ok FD sc_Store_answer fun cdv A outer s H E hr => ?_
  exact (sds_one (sd_ret (ed_fld Y.at (ed_var (pv 0)))))
theorem ok_Store_answer (Y : Fx K mg) : MtC P w K mg base "Store" "answer" 1 ["self"] [] F_Store_answer := by
  obtain ⟨fd, FD⟩ := Y.c.def_ 28 (d := d_Store_answer) rfl
  exact MtC.of FD (Y.c.fact 43) (Y.c.fact 70) rfl (ok_Store_answer_fn FD Y) fun _ _ _ _ _ _ us hl => match us, hl with | [_], _ => rfl
theorem sc_twins_of : FnScope ["program", "twins", "sizes", "name", "start", "twin", "size"] ["program"] (defScope s_twins_of) := ⟨rfl, rfl, rfl, by decide +kernel, rfl, by decide +kernel, by decide +kernel⟩
theorem ok_twins_of_fn {f : Addr} {fd : FuncData} (FD : FunD K d_twins_of.name d_twins_of.qual d_twins_of.params d_twins_of.body d_twins_of.scope (He.DefD.dvs K d_twins_of) (He.DefD.kws K d_twins_of) f fd) (Y : Fx K mg) : FnOk P w K mg base CX0 1 f fd ["program"] (spS K 1 F_twins_of) := by
  refine fn_ok FD sc_twins_of fun cdv A outer s H E hr => ?_
  exact (sds_cons (sd_set (ps_set (i := 1) sc_twins_of.nd rfl (by first | exact .inl rfl | exact .inr rfl) (ED.pe (ed_dnewK pe_dnewK))))
  (sds_cons (sd_set (ps_set (i := 2) sc_twins_of.nd rfl (by first | exact .inl rfl | exact .inr rfl) (ED.pe (ed_dnewK pe_dnewK))))
  (sds_cons (sd_for (ps_for PassesOwn.never rfl (Dn.ID.pi (id_seq (ed_ix hr (ed_var (pv 0)) ed_int (fun _ _ => rfl)))) (GD.pg (gd_t rfl (gds_c (gd_name (pg_name (i := 3) sc_twins_of.nd rfl (by first | exact .inl rfl | exact .inr rfl))) (gds_c (gd_name (pg_name (i := 4) sc_twins_of.nd rfl (by first | exact .inl rfl | exact .inr rfl))) (gds_c (gd_name (pg_name (i := 5) sc_twins_of.nd rfl (by first | exact .inl rfl | exact .inr rfl))) gds_nil))))) (SDs.ps (sds_one (sd_sub (ps_asg (ED.pe (ed_var (pv 5))) (pg_sub (ED.pe (ed_var (pv 1))) (ED.pe (ed_var (pv 3))) (PSet.or set_list (set_dict (hu1 hr))))))))))
  (sds_cons (sd_for (ps_for PassesOwn.never rfl (Dn.ID.pi (id_seq (ed_ix hr (ed_var (pv 0)) ed_int (fun _ _ => rfl)))) (GD.pg (gd_t rfl (gds_c (gd_name (pg_name (i := 3) sc_twins_of.nd rfl (by first | exact .inl rfl | exact .inr rfl))) (gds_c (gd_name (pg_name (i := 6) sc_twins_of.nd rfl (by first | exact .inl rfl | exact .inr rfl))) (gds_c (gd_name (pg_name (i := 5) sc_twins_of.nd rfl (by first | exact .inl rfl | exact .inr rfl))) gds_nil))))) (SDs.ps (sds_cons (sd_sub (ps_asg (ED.pe (ed_var (pv 5))) (pg_sub (ED.pe (ed_var (pv 1))) (ED.pe (ed_var (pv 3))) (PSet.or set_list (set_dict (hu1 hr))))))
  (sds_one (sd_sub (ps_asg (ED.pe (ed_var (pv 6))) (pg_sub (ED.pe (ed_var (pv 2))) (ED.pe (ed_var (pv 3))) (PSet.or set_list (set_dict (hu1 hr)))))))))))
  (sds_one (sd_ret (ed_tup (ad_cons (ed_var (pv 1)) (ad_cons (ed_var (pv 2)) ad_nil)))))))))
theorem ok_twins_of (Y : Fx K mg) : FnC P w K mg base "twins_of" 1 ["program"] [] F_twins_of := by
  obtain ⟨fd, FD⟩ := Y.c.def_ 30 (d := d_twins_of) rfl
  exact FnC.of FD (Y.glo 3) (ok_twins_of_fn FD Y) fun _ _ _ _ _ _ us hl => match us, hl with | [_], _ => rfl
theorem sc_House_lose : FnScope ["self", "dust"] ["self", "dust"] (defScope s_House_lose) := ⟨rfl, rfl, rfl, by decide +kernel, rfl, by decide +kernel, by decide +kernel⟩
theorem ok_House_lose_fn {f : Addr} {fd : FuncData} (FD : FunD K d_House_lose.name d_House_lose.qual d_House_lose.params d_House_lose.body d_House_lose.scope (He.DefD.dvs K d_House_lose) (He.DefD.kws K d_House_lose) f fd) (Y : Fx K mg) : FnOk P w K mg base CX0 3 f fd ["self", "dust"] (spS K 2 F_House_lose) := by
  refine fn_ok FD sc_House_lose fun cdv A outer s H E hr => ?_
  exact (sds_cons (sd_setF Y.at (ed_var (pv 1)) (ed_var (pv 0)))
  (sds_cons (sd_setF Y.at (ed_dnewK pe_dnewK) (ed_var (pv 0)))
  (sds_cons (sd_setF Y.at (ed_dnewT pe_dnewT) (ed_var (pv 0)))
  (sds_cons (sd_setF Y.at ed_int (ed_var (pv 0)))
  (sds_cons (sd_setF Y.at ed_int (ed_var (pv 0)))
  (sds_cons (sd_setF Y.at ed_int (ed_var (pv 0)))
  (sds_one (sd_setF Y.at (ed_make0 (ok_Up_init Y) rfl hr (by decide) (by rfl) dd0) (ed_var (pv 0))))))))))
theorem ok_House_lose (Y : Fx K mg) : MtC P w K mg base "House" "lose" 3 ["self", "dust"] [] F_House_lose := by
  obtain ⟨fd, FD⟩ := Y.c.def_ 32 (d := d_House_lose) rfl
  exact MtC.of FD (Y.c.fact 46) (Y.c.fact 72) rfl (ok_House_lose_fn FD Y) fun _ _ _ _ _ _ us hl => match us, hl with | [_, _], _ => rfl
theorem sc_House_init : FnScope ["self", "program", "code", "letters", "row", "boxes"] ["self", "program", "code", "letters"] (defScope s_House_init) := ⟨rfl, rfl, rfl, by decide +kernel, rfl, by decide +kernel, by decide +kernel⟩
theorem ok_House_init_fn {f : Addr} {fd : FuncData} (FD : FunD K d_House_init.name d_House_init.qual d_House_init.params d_House_init.body d_House_init.scope (He.DefD.dvs K d_House_init) (He.DefD.kws K d_House_init) f fd) (Y : Fx K mg) : FnOk P w K mg base CX0 5 f fd ["self", "program", "code", "letters"] (spS K 4 F_House_init) := by
  refine fn_ok FD sc_House_init fun cdv A outer s H E hr => ?_
  exact (sds_cons (sd_setF Y.at (ed_var (pv 1)) (ed_var (pv 0)))
  (sds_cons (sd_setF Y.at (ed_callM (ok_ways Y) rfl hr (by decide) (by rfl) dd0 (ad_cons (ed_var (pv 1)) ad_nil)) (ed_var (pv 0)))
  (sds_cons (sd_asg (ps_asg (ED.pe (ed_callP (ok_twins_of Y) rfl hr (by decide) (by rfl) dd0 (ad_cons (ed_var (pv 1)) ad_nil))) (GD.pg (gd_t rfl (gds_c (gd_fld Y.at (ed_var (pv 0))) (gds_c (gd_fld Y.at (ed_var (pv 0))) gds_nil))))))
  (sds_cons (sd_setF Y.at (ed_dnewK pe_dnewK) (ed_var (pv 0)))
  (sds_cons (sd_for (ps_for PassesOwn.never rfl (Dn.ID.pi (id_seq (ed_ix hr (ed_var (pv 2)) ed_int (fun _ _ => rfl)))) (GD.pg (gd_t rfl (gds_c (gd_name (pg_name (i := 4) sc_House_init.nd rfl (by first | exact .inl rfl | exact .inr rfl))) (gds_c (gd_name (pg_name (i := 5) sc_House_init.nd rfl (by first | exact .inl rfl | exact .inr rfl))) gds_nil)))) (SDs.ps (sds_one (sd_sub (ps_asg (ED.pe (ed_var (pv 5))) (pg_sub (ED.pe (ed_fld Y.at (ed_var (pv 0)))) (ED.pe (ed_var (pv 4))) (PSet.or set_list (set_dict (hu1 hr))))))))))
  (sds_cons (sd_setF Y.at (ed_prim (fun ha => pe_callTy (x := "list") (call_listAll rfl) (by rfl) Y.tb.list boot_list ha) ok_listM (ad_cons (ed_var (pv 3)) ad_nil)) (ed_var (pv 0)))
  (sds_cons (sd_setF Y.at (ed_make (ok_Store_init Y) rfl hr (by decide) (by rfl) dd0 (ad_cons (ed_var (pv 1)) (ad_cons (ed_ix hr (ed_var (pv 2)) ed_int (fun _ _ => rfl)) ad_nil))) (ed_var (pv 0)))
  (sds_cons (sd_setF Y.at (ed_make0 (ok_Hand_init Y) rfl hr (by decide) (by rfl) dd0) (ed_var (pv 0)))
  (sds_one (sd_expr (ed_meth (ok_House_lose Y) rfl hr (by decide) dd0 (ed_var (pv 0)) (ad_cons ed_int ad_nil))))))))))))
theorem ok_House_init (Y : Fx K mg) : MkC P w K mg base "House" 5 ["self", "program", "code", "letters"] [] F_House_init := by
  obtain ⟨fd, FD⟩ := Y.c.def_ 31 (d := d_House_init) rfl
  exact MkC.of FD (Y.glo 45) (Y.c.fact 47) rfl (ok_House_init_fn FD Y) fun _ _ _ _ _ _ us hl => match us, hl with | [_, _, _, _], _ => rfl
theorem sc_House_rests : FnScope ["self"] ["self"] (defScope s_House_rests) := ⟨rfl, rfl, rfl, by decide +kernel, rfl, by decide +kernel, by decide +kernel⟩
theorem ok_House_rests_fn {f : Addr} {fd : FuncData} (FD : FunD K d_House_rests.name d_House_rests.qual d_House_rests.params d_House_rests.body d_House_rests.scope (He.DefD.dvs K d_House_rests) (He.DefD.kws K d_House_rests) f fd) (Y : Fx K mg) : FnOk P w K mg base CX0 1 f fd ["self"] (spS K 1 F_House_rests) := by
  refine fn_ok FD sc_House_rests fun cdv A outer s H E hr => ?_
  exact (sds_one (sd_ret (ed_isC Y.isi Y.tb (Y.glo 28) (by rfl) (by rfl) (ed_fld Y.at (ed_var (pv 0))))))
theorem ok_House_rests (Y : Fx K mg) : MtC P w K mg base "House" "rests" 1 ["self"] [] F_House_rests := by
  obtain ⟨fd, FD⟩ := Y.c.def_ 35 (d := d_House_rests) rfl
  exact MtC.of FD (Y.c.fact 46) (Y.c.fact 75) rfl (ok_House_rests_fn FD Y) fun _ _ _ _ _ _ us hl => match us, hl with | [_], _ => rfl
theorem sc_House_fail : FnScope ["self", "dust"] ["self", "dust"] (defScope s_House_fail) := ⟨rfl, rfl, rfl, by decide +kernel, rfl, by decide +kernel, by decide +kernel⟩
theorem ok_House_fail_fn {f : Addr} {fd : FuncData} (FD : FunD K d_House_fail.name d_House_fail.qual d_House_fail.params d_House_fail.body d_House_fail.scope (He.DefD.dvs K d_House_fail) (He.DefD.kws K d_House_fail) f fd) (Y : Fx K mg) : FnOk P w K mg base CX0 4 f fd ["self", "dust"] (spS K 2 F_House_fail) := by
  refine fn_ok FD sc_House_fail fun cdv A outer s H E hr => ?_
  exact (sds_one (sd_if (td_not (td_val (ed_meth0 (ok_House_rests Y) rfl hr (by decide) dd0 (ed_var (pv 0))))) (sds_one (sd_expr (ed_meth (ok_House_lose Y) rfl hr (by decide) dd0 (ed_var (pv 0)) (ad_cons (ed_var (pv 1)) ad_nil)))) sds_nil))
theorem ok_House_fail (Y : Fx K mg) : MtC P w K mg base "House" "fail" 4 ["self", "dust"] [] F_House_fail := by
  obtain ⟨fd, FD⟩ := Y.c.def_ 33 (d := d_House_fail) rfl
  exact MtC.of FD (Y.c.fact 46) (Y.c.fact 73) rfl (ok_House_fail_fn FD Y) fun _ _ _ _ _ _ us hl => match us, hl with | [_, _], _ => rfl
theorem sc_House_step : FnScope ["self"] ["self"] (defScope s_House_step) := ⟨rfl, rfl, rfl, by decide +kernel, rfl, by decide +kernel, by decide +kernel⟩
theorem ok_House_step_fn {f : Addr} {fd : FuncData} (FD : FunD K d_House_step.name d_House_step.qual d_House_step.params d_House_step.body d_House_step.scope (He.DefD.dvs K d_House_step) (He.DefD.kws K d_House_step) f fd) (Y : Fx K mg) : FnOk P w K mg base CX0 6 f fd ["self"] (spS K 1 F_House_step) := by
  refine fn_ok FD sc_House_step fun cdv A outer s H E hr => ?_
  exact (sds_one (sd_setF Y.at (ed_orD (ed_meth (ok_Going_goes Y) rfl hr (by decide) dd0 (ed_fld Y.at (ed_var (pv 0))) (ad_cons (ed_var (pv 0)) ad_nil)) (ed_orD (ed_meth (ok_Keeping_goes Y) rfl hr (by decide) dd0 (ed_fld Y.at (ed_var (pv 0))) (ad_cons (ed_var (pv 0)) ad_nil)) (ed_orD (ed_meth (ok_Up_goes Y) rfl hr (by decide) dd0 (ed_fld Y.at (ed_var (pv 0))) (ad_cons (ed_var (pv 0)) ad_nil)) (ed_meth (ok_inh_Resting_goes Y) rfl hr (by decide) dd0 (ed_fld Y.at (ed_var (pv 0))) (ad_cons (ed_var (pv 0)) ad_nil))))) (ed_var (pv 0))))
theorem ok_House_step (Y : Fx K mg) : MtC P w K mg base "House" "step" 6 ["self"] [] F_House_step := by
  obtain ⟨fd, FD⟩ := Y.c.def_ 34 (d := d_House_step) rfl
  exact MtC.of FD (Y.c.fact 46) (Y.c.fact 74) rfl (ok_House_step_fn FD Y) fun _ _ _ _ _ _ us hl => match us, hl with | [_], _ => rfl
theorem sc_House_stands : FnScope ["self"] ["self"] (defScope s_House_stands) := ⟨rfl, rfl, rfl, by decide +kernel, rfl, by decide +kernel, by decide +kernel⟩
theorem ok_House_stands_fn {f : Addr} {fd : FuncData} (FD : FunD K d_House_stands.name d_House_stands.qual d_House_stands.params d_House_stands.body d_House_stands.scope (He.DefD.dvs K d_House_stands) (He.DefD.kws K d_House_stands) f fd) (Y : Fx K mg) : FnOk P w K mg base CX0 2 f fd ["self"] (spS K 1 F_House_stands) := by
  refine fn_ok FD sc_House_stands fun cdv A outer s H E hr => ?_
  exact (sds_one (sd_ret (ed_orD (ed_meth0 (ok_Going_at_row Y) rfl hr (by decide) dd0 (ed_fld Y.at (ed_var (pv 0)))) (ed_orD (ed_meth0 (ok_inh_Keeping_at_row Y) rfl hr (by decide) dd0 (ed_fld Y.at (ed_var (pv 0)))) (ed_orD (ed_meth0 (ok_inh_Up_at_row Y) rfl hr (by decide) dd0 (ed_fld Y.at (ed_var (pv 0)))) (ed_meth0 (ok_inh_Resting_at_row Y) rfl hr (by decide) dd0 (ed_fld Y.at (ed_var (pv 0)))))))))
theorem ok_House_stands (Y : Fx K mg) : MtC P w K mg base "House" "stands" 2 ["self"] [] F_House_stands := by
  obtain ⟨fd, FD⟩ := Y.c.def_ 36 (d := d_House_stands) rfl
  exact MtC.of FD (Y.c.fact 46) (Y.c.fact 76) rfl (ok_House_stands_fn FD Y) fun _ _ _ _ _ _ us hl => match us, hl with | [_], _ => rfl
theorem sc_House_answer : FnScope ["self"] ["self"] (defScope s_House_answer) := ⟨rfl, rfl, rfl, by decide +kernel, rfl, by decide +kernel, by decide +kernel⟩
theorem ok_House_answer_fn {f : Addr} {fd : FuncData} (FD : FunD K d_House_answer.name d_House_answer.qual d_House_answer.params d_House_answer.body d_House_answer.scope (He.DefD.dvs K d_House_answer) (He.DefD.kws K d_House_answer) f fd) (Y : Fx K mg) : FnOk P w K mg base CX0 2 f fd ["self"] (spS K 1 F_House_answer) := by
  refine fn_ok FD sc_House_answer fun cdv A outer s H E hr => ?_
  exact (sds_one (sd_ret (ed_meth0 (ok_Store_answer Y) rfl hr (by decide) dd0 (ed_fld Y.at (ed_var (pv 0))))))
theorem ok_House_answer (Y : Fx K mg) : MtC P w K mg base "House" "answer" 2 ["self"] [] F_House_answer := by
  obtain ⟨fd, FD⟩ := Y.c.def_ 37 (d := d_House_answer) rfl
  exact MtC.of FD (Y.c.fact 46) (Y.c.fact 77) rfl (ok_House_answer_fn FD Y) fun _ _ _ _ _ _ us hl => match us, hl with | [_], _ => rfl
theorem sc_House_cell : FnScope ["self", "name"] ["self", "name"] (defScope s_House_cell) := ⟨rfl, rfl, rfl, by decide +kernel, rfl, by decide +kernel, by decide +kernel⟩
theorem ok_House_cell_fn {f : Addr} {fd : FuncData} (FD : FunD K d_House_cell.name d_House_cell.qual d_House_cell.params d_House_cell.body d_House_cell.scope (He.DefD.dvs K d_House_cell) (He.DefD.kws K d_House_cell) f fd) (Y : Fx K mg) : FnOk P w K mg base CX0 2 f fd ["self", "name"] (spS K 2 F_House_cell) := by
  refine fn_ok FD sc_House_cell fun cdv A outer s H E hr => ?_
  exact (sds_one (sd_ret (ed_meth (ok_Store_cell Y) rfl hr (by decide) dd0 (ed_fld Y.at (ed_var (pv 0))) (ad_cons (ed_var (pv 1)) ad_nil))))
theorem ok_House_cell (Y : Fx K mg) : MtC P w K mg base "House" "cell" 2 ["self", "name"] [] F_House_cell := by
  obtain ⟨fd, FD⟩ := Y.c.def_ 38 (d := d_House_cell) rfl
  exact MtC.of FD (Y.c.fact 46) (Y.c.fact 78) rfl (ok_House_cell_fn FD Y) fun _ _ _ _ _ _ us hl => match us, hl with | [_, _], _ => rfl
theorem sc_House_shelf : FnScope ["self", "name"] ["self", "name"] (defScope s_House_shelf) := ⟨rfl, rfl, rfl, by decide +kernel, rfl, by decide +kernel, by decide +kernel⟩
theorem ok_House_shelf_fn {f : Addr} {fd : FuncData} (FD : FunD K d_House_shelf.name d_House_shelf.qual d_House_shelf.params d_House_shelf.body d_House_shelf.scope (He.DefD.dvs K d_House_shelf) (He.DefD.kws K d_House_shelf) f fd) (Y : Fx K mg) : FnOk P w K mg base CX0 2 f fd ["self", "name"] (spS K 2 F_House_shelf) := by
  refine fn_ok FD sc_House_shelf fun cdv A outer s H E hr => ?_
  exact (sds_one (sd_ret (ed_meth (ok_Store_shelf Y) rfl hr (by decide) dd0 (ed_fld Y.at (ed_var (pv 0))) (ad_cons (ed_var (pv 1)) ad_nil))))
theorem ok_House_shelf (Y : Fx K mg) : MtC P w K mg base "House" "shelf" 2 ["self", "name"] [] F_House_shelf := by
  obtain ⟨fd, FD⟩ := Y.c.def_ 39 (d := d_House_shelf) rfl
  exact MtC.of FD (Y.c.fact 46) (Y.c.fact 79) rfl (ok_House_shelf_fn FD Y) fun _ _ _ _ _ _ us hl => match us, hl with | [_, _], _ => rfl
theorem sc_House_letters : FnScope ["self"] ["self"] (defScope s_House_letters) := ⟨rfl, rfl, rfl, by decide +kernel, rfl, by decide +kernel, by decide +kernel⟩
theorem ok_House_letters_fn {f : Addr} {fd : FuncData} (FD : FunD K d_House_letters.name d_House_letters.qual d_House_letters.params d_House_letters.body d_House_letters.scope (He.DefD.dvs K d_House_letters) (He.DefD.kws K d_House_letters) f fd) (Y : Fx K mg) : FnOk P w K mg base CX0 2 f fd ["self"] (spS K 1 F_House_letters) := by
  refine fn_ok FD sc_House_letters fun cdv A outer s H E hr => ?_
  exact (sds_one (sd_ret (ed_meth0 (ok_Hand_kept Y) rfl hr (by decide) dd0 (ed_fld Y.at (ed_var (pv 0))))))
theorem ok_House_letters (Y : Fx K mg) : MtC P w K mg base "House" "letters" 2 ["self"] [] F_House_letters := by
  obtain ⟨fd, FD⟩ := Y.c.def_ 40 (d := d_House_letters) rfl
  exact MtC.of FD (Y.c.fact 46) (Y.c.fact 80) rfl (ok_House_letters_fn FD Y) fun _ _ _ _ _ _ us hl => match us, hl with | [_], _ => rfl
theorem sc_House_torn : FnScope ["self"] ["self"] (defScope s_House_torn) := ⟨rfl, rfl, rfl, by decide +kernel, rfl, by decide +kernel, by decide +kernel⟩
theorem ok_House_torn_fn {f : Addr} {fd : FuncData} (FD : FunD K d_House_torn.name d_House_torn.qual d_House_torn.params d_House_torn.body d_House_torn.scope (He.DefD.dvs K d_House_torn) (He.DefD.kws K d_House_torn) f fd) (Y : Fx K mg) : FnOk P w K mg base CX0 2 f fd ["self"] (spS K 1 F_House_torn) := by
  refine fn_ok FD sc_House_torn fun cdv A outer s H E hr => ?_
  exact (sds_one (sd_ret (ed_meth0 (ok_Hand_torn Y) rfl hr (by decide) dd0 (ed_fld Y.at (ed_var (pv 0))))))
theorem ok_House_torn (Y : Fx K mg) : MtC P w K mg base "House" "torn" 2 ["self"] [] F_House_torn := by
  obtain ⟨fd, FD⟩ := Y.c.def_ 41 (d := d_House_torn) rfl
  exact MtC.of FD (Y.c.fact 46) (Y.c.fact 81) rfl (ok_House_torn_fn FD Y) fun _ _ _ _ _ _ us hl => match us, hl with | [_], _ => rfl
theorem sc_House_box : FnScope ["self", "name"] ["self", "name"] (defScope s_House_box) := ⟨rfl, rfl, rfl, by decide +kernel, rfl, by decide +kernel, by decide +kernel⟩
theorem ok_House_box_fn {f : Addr} {fd : FuncData} (FD : FunD K d_House_box.name d_House_box.qual d_House_box.params d_House_box.body d_House_box.scope (He.DefD.dvs K d_House_box) (He.DefD.kws K d_House_box) f fd) (Y : Fx K mg) : FnOk P w K mg base CX0 1 f fd ["self", "name"] (spS K 2 F_House_box) := by
  refine fn_ok FD sc_House_box fun cdv A outer s H E hr => ?_
  exact (sds_cons (sd_if (td_val (ed_isC Y.isi Y.tb (Y.glo 33) (by rfl) (by rfl) (ed_fld Y.at (ed_var (pv 0))))) (sds_one (sd_ret (ed_get2 (ed_fld Y.at (ed_var (pv 0))) (ed_var (pv 1)) (ed_fld Y.at (ed_var (pv 0))) (fun ho he hf => pe_dget2 (hu1 hr) ho he hf ⟨by rfl, by rfl, by rfl, by rfl⟩)))) sds_nil)
  (sds_one (sd_ret ed_int)))
theorem ok_House_box (Y : Fx K mg) : MtC P w K mg base "House" "box" 1 ["self", "name"] [] F_House_box := by
  obtain ⟨fd, FD⟩ := Y.c.def_ 44 (d := d_House_box) rfl
  exact MtC.of FD (Y.c.fact 46) (Y.c.fact 84) rfl (ok_House_box_fn FD Y) fun _ _ _ _ _ _ us hl => match us, hl with | [_, _], _ => rfl
theorem sc_House_count : FnScope ["self"] ["self"] (defScope s_House_count) := ⟨rfl, rfl, rfl, by decide +kernel, rfl, by decide +kernel, by decide +kernel⟩
theorem ok_House_count_fn {f : Addr} {fd : FuncData} (FD : FunD K d_House_count.name d_House_count.qual d_House_count.params d_House_count.body d_House_count.scope (He.DefD.dvs K d_House_count) (He.DefD.kws K d_House_count) f fd) (Y : Fx K mg) : FnOk P w K mg base CX0 3 f fd ["self"] (spS K 1 F_House_count) := by
  refine fn_ok FD sc_House_count fun cdv A outer s H E hr => ?_
  exact (sds_cons (sd_if (td_val (ed_isC Y.isi Y.tb (Y.glo 33) (by rfl) (by rfl) (ed_fld Y.at (ed_var (pv 0))))) (sds_one (sd_ret (ed_fld Y.at (ed_var (pv 0))))) sds_nil)
  (sds_one (sd_ret (ed_ix hr (ed_meth (ok_House_page Y) rfl hr (by decide) dd0 (ed_var (pv 0)) (ad_cons (ed_meth0 (ok_House_face Y) rfl hr (by decide) dd0 (ed_var (pv 0))) ad_nil)) ed_int (fun _ _ => rfl)))))
theorem ok_House_count (Y : Fx K mg) : MtC P w K mg base "House" "count" 3 ["self"] [] F_House_count := by
  obtain ⟨fd, FD⟩ := Y.c.def_ 45 (d := d_House_count) rfl
  exact MtC.of FD (Y.c.fact 46) (Y.c.fact 85) rfl (ok_House_count_fn FD Y) fun _ _ _ _ _ _ us hl => match us, hl with | [_], _ => rfl
theorem sc_stepped : FnScope ["house", "many", "done"] ["house", "many"] (defScope s_stepped) := ⟨rfl, rfl, rfl, by decide +kernel, rfl, by decide +kernel, by decide +kernel⟩
theorem ok_stepped_fn {f : Addr} {fd : FuncData} (FD : FunD K d_stepped.name d_stepped.qual d_stepped.params d_stepped.body d_stepped.scope (He.DefD.dvs K d_stepped) (He.DefD.kws K d_stepped) f fd) (Y : Fx K mg) : FnOk P w K mg base CX0 7 f fd ["house", "many"] (spS K 2 F_stepped) := by
  refine fn_ok FD sc_stepped fun cdv A outer s H E hr => ?_
  exact (sds_cons (sd_set (ps_set (i := 2) sc_stepped.nd rfl (by first | exact .inl rfl | exact .inr rfl) (ED.pe ed_int)))
  (sds_cons (sd_while _ (ps_while PassesOwn.never (TD.pt (TDW.td (tw_and (td_lt (ed_var (pv 2)) (ed_var (pv 1))) (tw_and1 (td_not (td_val (ed_meth0 (ok_House_rests Y) rfl hr (by decide) dd0 (ed_var (pv 0))))))))) (SDs.ps (sds_cons (sd_expr (ed_meth0 (ok_House_step Y) rfl hr (by decide) dd0 (ed_var (pv 0))))
  (sds_one (sd_aug ok_ipadd (ps_aug (i := 2) sc_stepped.nd rfl (by first | exact .inl rfl | exact .inr rfl) (ED.pe ed_int) ip_add)))))))
  (sds_one (sd_ret (ed_var (pv 2))))))
theorem ok_stepped (Y : Fx K mg) : FnC P w K mg base "stepped" 7 ["house", "many"] [] F_stepped := by
  obtain ⟨fd, FD⟩ := Y.c.def_ 58 (d := d_stepped) rfl
  exact FnC.of FD (Y.glo 4) (ok_stepped_fn FD Y) fun _ _ _ _ _ _ us hl => match us, hl with | [_, _], _ => rfl
theorem sc_drive : FnScope ["house", "failings", "most", "done", "asked", "many", "dust"] ["house", "failings", "most"] (defScope s_drive) := ⟨rfl, rfl, rfl, by decide +kernel, rfl, by decide +kernel, by decide +kernel⟩
theorem ok_drive_fn {f : Addr} {fd : FuncData} (FD : FunD K d_drive.name d_drive.qual d_drive.params d_drive.body d_drive.scope (He.DefD.dvs K d_drive) (He.DefD.kws K d_drive) f fd) (Y : Fx K mg) : FnOk P w K mg base CX0 8 f fd ["house", "failings", "most"] (spS K 3 F_drive) := by
  refine fn_ok FD sc_drive fun cdv A outer s H E hr => ?_
  exact (sds_cons (sd_set (ps_set (i := 3) sc_drive.nd rfl (by first | exact .inl rfl | exact .inr rfl) (ED.pe ed_int)))
  (sds_cons (sd_set (ps_set (i := 4) sc_drive.nd rfl (by first | exact .inl rfl | exact .inr rfl) (ED.pe ed_int)))
  (sds_cons (sd_for (ps_for PassesOwn.never rfl (Dn.ID.pi (id_seq (ed_var (pv 1)))) (GD.pg (gd_t rfl (gds_c (gd_name (pg_name (i := 5) sc_drive.nd rfl (by first | exact .inl rfl | exact .inr rfl))) (gds_c (gd_name (pg_name (i := 6) sc_drive.nd rfl (by first | exact .inl rfl | exact .inr rfl))) gds_nil)))) (SDs.ps (sds_cons (sd_aug ok_ipadd (ps_aug (i := 3) sc_drive.nd rfl (by first | exact .inl rfl | exact .inr rfl) (ED.pe (ed_callS (ok_stepped Y) rfl hr (by decide) (by rfl) dd0 (ad_cons (ed_var (pv 0)) (ad_cons (ed_prim (fun ha => pe_callB (x := "min") (call_minAll rfl) (by rfl) Y.tb.min boot_min ha) ok_min (ad_cons (ed_var (pv 5)) (ad_cons (ed_sub (ed_var (pv 2)) (ed_var (pv 4))) ad_nil))) ad_nil)))) ip_add))
  (sds_cons (sd_aug ok_ipadd (ps_aug (i := 4) sc_drive.nd rfl (by first | exact .inl rfl | exact .inr rfl) (ED.pe (ed_var (pv 5))) ip_add))
  (sds_cons (sd_if (td_gt (ed_var (pv 4)) (ed_var (pv 2))) (sds_one (sd_ret (ed_var (pv 3)))) sds_nil)
  (sds_one (sd_expr (ed_meth (ok_House_fail Y) rfl hr (by decide) dd0 (ed_var (pv 0)) (ad_cons (ed_var (pv 6)) ad_nil))))))))))
  (sds_one (sd_ret (ed_add (ed_var (pv 3)) (ed_callS (ok_stepped Y) rfl hr (by decide) (by rfl) dd0 (ad_cons (ed_var (pv 0)) (ad_cons (ed_sub (ed_var (pv 2)) (ed_var (pv 4))) ad_nil)))))))))
theorem ok_drive (Y : Fx K mg) : FnC P w K mg base "drive" 8 ["house", "failings", "most"] [] F_drive := by
  obtain ⟨fd, FD⟩ := Y.c.def_ 59 (d := d_drive) rfl
  exact FnC.ofD FD (Y.glo 5) (ok_drive_fn FD Y) 3 1 (by simp [He.DefD.dvs, d_drive]) rfl (fun _ _ _ _ _ _ _ us its h1 h2 => match us, its, h1, h2 with | [_, _, _], [_], _, _ => ⟨_, rfl, rfl⟩)
theorem ok_drive_d1 (Y : Fx K mg) : FnC P w K mg base "drive" 8 ["house", "failings", "most"] ([.int 1000].map (He.Dv.v K)) F_drive := by
  obtain ⟨fd, FD⟩ := Y.c.def_ 59 (d := d_drive) rfl
  exact FnC.ofD FD (Y.glo 5) (ok_drive_fn FD Y) 2 0 (by simp [He.DefD.dvs, d_drive]) rfl (fun _ _ _ _ _ _ _ us its h1 h2 => match us, its, h1, h2 with | [_, _], [_], _, _ => ⟨_, rfl, rfl⟩)
theorem sc_Plain_init : FnScope ["self", "program", "letters", "name", "start", "twin", "size"] ["self", "program", "letters"] (defScope s_Plain_init) := ⟨rfl, rfl, rfl, by decide +kernel, rfl, by decide +kernel, by decide +kernel⟩
theorem ok_Plain_init_fn {f : Addr} {fd : FuncData} (FD : FunD K d_Plain_init.name d_Plain_init.qual d_Plain_init.params d_Plain_init.body d_Plain_init.scope (He.DefD.dvs K d_Plain_init) (He.DefD.kws K d_Plain_init) f fd) (Y : Fx K mg) : FnOk P w K mg base CX0 3 f fd ["self", "program", "letters"] (spS K 3 F_Plain_init) := by
  refine fn_ok FD sc_Plain_init fun cdv A outer s H E hr => ?_
  exact (sds_cons (sd_setF Y.at (ed_ix hr (ed_var (pv 1)) ed_int (fun _ _ => rfl)) (ed_var (pv 0)))
  (sds_cons (sd_setF Y.at (ed_callM (ok_ways Y) rfl hr (by decide) (by rfl) dd0 (ad_cons (ed_var (pv 1)) ad_nil)) (ed_var (pv 0)))
  (sds_cons (sd_setF Y.at (ed_prim (fun ha => pe_callTy (x := "list") (call_listAll rfl) (by rfl) Y.tb.list boot_list ha) ok_listM (ad_cons (ed_var (pv 2)) ad_nil)) (ed_var (pv 0)))
  (sds_cons (sd_setF Y.at ed_int (ed_var (pv 0)))
  (sds_cons (sd_setF Y.at (ed_dnewK pe_dnewK) (ed_var (pv 0)))
  (sds_cons (sd_setF Y.at (ed_dnewK pe_dnewK) (ed_var (pv 0)))
  (sds_cons (sd_for (ps_for PassesOwn.never rfl (Dn.ID.pi (id_seq (ed_ix hr (ed_var (pv 1)) ed_int (fun _ _ => rfl)))) (GD.pg (gd_t rfl (gds_c (gd_name (pg_name (i := 3) sc_Plain_init.nd rfl (by first | exact .inl rfl | exact .inr rfl))) (gds_c (gd_name (pg_name (i := 4) sc_Plain_init.nd rfl (by first | exact .inl rfl | exact .inr rfl))) (gds_c (gd_name (pg_name (i := 5) sc_Plain_init.nd rfl (by first | exact .inl rfl | exact .inr rfl))) gds_nil))))) (SDs.ps (sds_one (sd_sub (ps_asg (ED.pe (ed_var (pv 4))) (pg_sub (ED.pe (ed_fld Y.at (ed_var (pv 0)))) (ED.pe (ed_var (pv 3))) (PSet.or set_list (set_dict (hu1 hr))))))))))
  (sds_cons (sd_setF Y.at (ed_dnewK pe_dnewK) (ed_var (pv 0)))
  (sds_cons (sd_for (ps_for PassesOwn.never rfl (Dn.ID.pi (id_seq (ed_ix hr (ed_var (pv 1)) ed_int (fun _ _ => rfl)))) (GD.pg (gd_t rfl (gds_c (gd_name (pg_name (i := 3) sc_Plain_init.nd rfl (by first | exact .inl rfl | exact .inr rfl))) (gds_c (gd_name (pg_name (i := 6) sc_Plain_init.nd rfl (by first | exact .inl rfl | exact .inr rfl))) (gds_c (gd_name (pg_name (i := 5) sc_Plain_init.nd rfl (by first | exact .inl rfl | exact .inr rfl))) gds_nil))))) (SDs.ps (sds_one (sd_sub (ps_asg (ED.pe (ed_mulM (ed_lst (ad_cons ed_int ad_nil)) (ed_var (pv 6)))) (pg_sub (ED.pe (ed_fld Y.at (ed_var (pv 0)))) (ED.pe (ed_var (pv 3))) (PSet.or set_list (set_dict (hu1 hr))))))))))
  (sds_cons (sd_setF Y.at (ed_lstM ad_nil) (ed_var (pv 0)))
  (sds_cons (sd_setF Y.at ed_int (ed_var (pv 0)))
  (sds_cons (sd_setF Y.at ed_int (ed_var (pv 0)))
  (sds_one (sd_setF Y.at ed_non (ed_var (pv 0))))))))))))))))
theorem ok_Plain_init (Y : Fx K mg) : MkC P w K mg base "Plain" 3 ["self", "program", "letters"] [] F_Plain_init := by
  obtain ⟨fd, FD⟩ := Y.c.def_ 60 (d := d_Plain_init) rfl
  exact MkC.of FD (Y.glo 48) (Y.c.fact 50) rfl (ok_Plain_init_fn FD Y) fun _ _ _ _ _ _ us hl => match us, hl with | [_, _, _], _ => rfl
theorem sc_Plain_worth : FnScope ["self", "atom"] ["self", "atom"] (defScope s_Plain_worth) := ⟨rfl, rfl, rfl, by decide +kernel, rfl, by decide +kernel, by decide +kernel⟩
theorem ok_Plain_worth_fn {f : Addr} {fd : FuncData} (FD : FunD K d_Plain_worth.name d_Plain_worth.qual d_Plain_worth.params d_Plain_worth.body d_Plain_worth.scope (He.DefD.dvs K d_Plain_worth) (He.DefD.kws K d_Plain_worth) f fd) (Y : Fx K mg) : FnOk P w K mg base CX0 1 f fd ["self", "atom"] (spS K 2 F_Plain_worth) := by
  refine fn_ok FD sc_Plain_worth fun cdv A outer s H E hr => ?_
  exact (sds_cons (sd_if (td_val (e_isi (T7 := .str) Y.tb Y.tb.str (by decide) (by rfl) (by rfl) boot_str (ed_var (pv 1)))) (sds_one (sd_ret (ed_get2 (ed_fld Y.at (ed_var (pv 0))) (ed_var (pv 1)) ed_int (fun ho he hf => pe_dget2 (hu1 hr) ho he hf ⟨by rfl, by rfl, by rfl, by rfl⟩)))) sds_nil)
  (sds_one (sd_ret (ed_var (pv 1)))))
theorem ok_Plain_worth (Y : Fx K mg) : MtC P w K mg base "Plain" "worth" 1 ["self", "atom"] [] F_Plain_worth := by
  obtain ⟨fd, FD⟩ := Y.c.def_ 61 (d := d_Plain_worth) rfl
  exact MtC.of FD (Y.c.fact 49) (Y.c.fact 98) rfl (ok_Plain_worth_fn FD Y) fun _ _ _ _ _ _ us hl => match us, hl with | [_, _], _ => rfl
theorem sc_Plain_ended : FnScope ["self"] ["self"] (defScope s_Plain_ended) := ⟨rfl, rfl, rfl, by decide +kernel, rfl, by decide +kernel, by decide +kernel⟩
theorem ok_Plain_ended_fn {f : Addr} {fd : FuncData} (FD : FunD K d_Plain_ended.name d_Plain_ended.qual d_Plain_ended.params d_Plain_ended.body d_Plain_ended.scope (He.DefD.dvs K d_Plain_ended) (He.DefD.kws K d_Plain_ended) f fd) (Y : Fx K mg) : FnOk P w K mg base CX0 1 f fd ["self"] (spS K 1 F_Plain_ended) := by
  refine fn_ok FD sc_Plain_ended fun cdv A outer s H E hr => ?_
  exact (sds_one (sd_ret (ed_isnot (ed_fld Y.at (ed_var (pv 0))) ed_non)))
theorem ok_Plain_ended (Y : Fx K mg) : MtC P w K mg base "Plain" "ended" 1 ["self"] [] F_Plain_ended := by
  obtain ⟨fd, FD⟩ := Y.c.def_ 62 (d := d_Plain_ended) rfl
  exact MtC.of FD (Y.c.fact 49) (Y.c.fact 100) rfl (ok_Plain_ended_fn FD Y) fun _ _ _ _ _ _ us hl => match us, hl with | [_], _ => rfl
theorem sc_Plain_put_out : FnScope ["self", "row", "some"] ["self", "row"] (defScope s_Plain_put_out) := ⟨rfl, rfl, rfl, by decide +kernel, rfl, by decide +kernel, by decide +kernel⟩
theorem ok_Plain_put_out_fn {f : Addr} {fd : FuncData} (FD : FunD K d_Plain_put_out.name d_Plain_put_out.qual d_Plain_put_out.params d_Plain_put_out.body d_Plain_put_out.scope (He.DefD.dvs K d_Plain_put_out) (He.DefD.kws K d_Plain_put_out) f fd) (Y : Fx K mg) : FnOk P w K mg base CX0 2 f fd ["self", "row"] (spS K 2 F_Plain_put_out) := by
  refine fn_ok FD sc_Plain_put_out fun cdv A outer s H E hr => ?_
  exact (sds_one (sd_if (td_eq hr (ed_ix hr (ed_var (pv 1)) ed_int (fun _ _ => rfl)) ed_str) (sds_one (sd_sub (ps_asg (ED.pe (ed_meth (ok_Plain_worth Y) rfl hr (by decide) dd0 (ed_var (pv 0)) (ad_cons (ed_ix hr (ed_var (pv 1)) ed_int (fun _ _ => rfl)) ad_nil))) (pg_sub (ED.pe (ed_fld Y.at (ed_var (pv 0)))) (ED.pe (ed_ix hr (ed_var (pv 1)) ed_int (fun _ _ => rfl))) (PSet.or set_list (set_dict (hu1 hr))))))) (sds_one (sd_if (td_eq hr (ed_ix hr (ed_var (pv 1)) ed_int (fun _ _ => rfl)) ed_str) (sds_cons (sd_set (ps_set (i := 2) sc_Plain_put_out.nd rfl (by first | exact .inl rfl | exact .inr rfl) (ED.pe (ed_ix hr (ed_fld Y.at (ed_var (pv 0))) (ed_ix hr (ed_var (pv 1)) ed_int (fun _ _ => rfl)) (fun _ _ => rfl)))))
  (sds_one (sd_sub (ps_asg (ED.pe (ed_meth (ok_Plain_worth Y) rfl hr (by decide) dd0 (ed_var (pv 0)) (ad_cons (ed_ix hr (ed_var (pv 1)) ed_int (fun _ _ => rfl)) ad_nil))) (pg_sub (ED.pe (ed_var (pv 2))) (ED.pe (ed_mod (ed_meth (ok_Plain_worth Y) rfl hr (by decide) dd0 (ed_var (pv 0)) (ad_cons (ed_ix hr (ed_var (pv 1)) ed_int (fun _ _ => rfl)) ad_nil)) (ed_prim (fun ha => pe_callB (x := "len") call_lenAll (by rfl) Y.tb.len boot_len ha) ok_len (ad_cons (ed_var (pv 2)) ad_nil)))) (PSet.or set_list (set_dict (hu1 hr)))))))) (sds_one (sd_expr (ed_mt ok_append (ed_fld Y.at (ed_var (pv 0))) (ad_cons (ed_meth (ok_Plain_worth Y) rfl hr (by decide) dd0 (ed_var (pv 0)) (ad_cons (ed_ix hr (ed_var (pv 1)) ed_int (fun _ _ => rfl)) ad_nil)) ad_nil) (fun ho ha => pe_bm PySem.F.plainAttrs_list PySem.F.slot_list_append PySem.F.type_list_append mt_append ho ha))))))))
theorem ok_Plain_put_out (Y : Fx K mg) : MtC P w K mg base "Plain" "put_out" 2 ["self", "row"] [] F_Plain_put_out := by
  obtain ⟨fd, FD⟩ := Y.c.def_ 64 (d := d_Plain_put_out) rfl
  exact MtC.of FD (Y.c.fact 49) (Y.c.fact 109) rfl (ok_Plain_put_out_fn FD Y) fun _ _ _ _ _ _ us hl => match us, hl with | [_, _], _ => rfl
theorem sc_Plain_brought : FnScope ["self", "row", "some"] ["self", "row"] (defScope s_Plain_brought) := ⟨rfl, rfl, rfl, by decide +kernel, rfl, by decide +kernel, by decide +kernel⟩
theorem ok_Plain_brought_fn {f : Addr} {fd : FuncData} (FD : FunD K d_Plain_brought.name d_Plain_brought.qual d_Plain_brought.params d_Plain_brought.body d_Plain_brought.scope (He.DefD.dvs K d_Plain_brought) (He.DefD.kws K d_Plain_brought) f fd) (Y : Fx K mg) : FnOk P w K mg base CX0 2 f fd ["self", "row"] (spS K 2 F_Plain_brought) := by
  refine fn_ok FD sc_Plain_brought fun cdv A outer s H E hr => ?_
  exact (sds_cons (sd_if (td_eq hr (ed_ix hr (ed_var (pv 1)) ed_int (fun _ _ => rfl)) ed_str) (sds_one (sd_ret (ed_meth (ok_Plain_worth Y) rfl hr (by decide) dd0 (ed_var (pv 0)) (ad_cons (ed_ix hr (ed_var (pv 1)) ed_int (fun _ _ => rfl)) ad_nil)))) sds_nil)
  (sds_cons (sd_if (td_eq hr (ed_ix hr (ed_var (pv 1)) ed_int (fun _ _ => rfl)) ed_str) (sds_one (sd_ret (ed_callP (ok_value Y) rfl hr (by decide) (by rfl) dd0 (ad_cons (ed_ix hr (ed_var (pv 1)) ed_int (fun _ _ => rfl)) (ad_cons (ed_meth (ok_Plain_worth Y) rfl hr (by decide) dd0 (ed_var (pv 0)) (ad_cons (ed_ix hr (ed_var (pv 1)) ed_int (fun _ _ => rfl)) ad_nil)) (ad_cons (ed_meth (ok_Plain_worth Y) rfl hr (by decide) dd0 (ed_var (pv 0)) (ad_cons (ed_ix hr (ed_var (pv 1)) ed_int (fun _ _ => rfl)) ad_nil)) ad_nil)))))) sds_nil)
  (sds_cons (sd_if (td_eq hr (ed_ix hr (ed_var (pv 1)) ed_int (fun _ _ => rfl)) ed_str) (sds_one (sd_ret (ed_ix hr (ed_fld Y.at (ed_var (pv 0))) (ed_ix hr (ed_var (pv 1)) ed_int (fun _ _ => rfl)) (fun _ _ => rfl)))) sds_nil)
  (sds_cons (sd_if (td_eq hr (ed_ix hr (ed_var (pv 1)) ed_int (fun _ _ => rfl)) ed_str) (sds_cons (sd_set (ps_set (i := 2) sc_Plain_brought.nd rfl (by first | exact .inl rfl | exact .inr rfl) (ED.pe (ed_ix hr (ed_fld Y.at (ed_var (pv 0))) (ed_ix hr (ed_var (pv 1)) ed_int (fun _ _ => rfl)) (fun _ _ => rfl)))))
  (sds_one (sd_ret (ed_ix hr (ed_var (pv 2)) (ed_mod (ed_meth (ok_Plain_worth Y) rfl hr (by decide) dd0 (ed_var (pv 0)) (ad_cons (ed_ix hr (ed_var (pv 1)) ed_int (fun _ _ => rfl)) ad_nil)) (ed_prim (fun ha => pe_callB (x := "len") call_lenAll (by rfl) Y.tb.len boot_len ha) ok_len (ad_cons (ed_var (pv 2)) ad_nil))) (fun _ _ => rfl))))) sds_nil)
  (sds_cons (sd_augF Y.at in_add ok_rAdd ed_int (ed_var (pv 0)))
  (sds_cons (sd_if (td_gt (ed_fld Y.at (ed_var (pv 0))) (ed_prim (fun ha => pe_callB (x := "len") call_lenAll (by rfl) Y.tb.len boot_len ha) ok_len (ad_cons (ed_fld Y.at (ed_var (pv 0))) ad_nil))) (sds_one (sd_ret ed_int)) sds_nil)
  (sds_one (sd_ret (ed_ix hr (ed_fld Y.at (ed_var (pv 0))) (ed_sub (ed_fld Y.at (ed_var (pv 0))) ed_int) (fun _ _ => rfl))))))))))
theorem ok_Plain_brought (Y : Fx K mg) : MtC P w K mg base "Plain" "brought" 2 ["self", "row"] [] F_Plain_brought := by
  obtain ⟨fd, FD⟩ := Y.c.def_ 65 (d := d_Plain_brought) rfl
  exact MtC.of FD (Y.c.fact 49) (Y.c.fact 110) rfl (ok_Plain_brought_fn FD Y) fun _ _ _ _ _ _ us hl => match us, hl with | [_, _], _ => rfl
theorem sc_Plain_step : FnScope ["self", "row", "way"] ["self"] (defScope s_Plain_step) := ⟨rfl, rfl, rfl, by decide +kernel, rfl, by decide +kernel, by decide +kernel⟩
theorem ok_Plain_step_fn {f : Addr} {fd : FuncData} (FD : FunD K d_Plain_step.name d_Plain_step.qual d_Plain_step.params d_Plain_step.body d_Plain_step.scope (He.DefD.dvs K d_Plain_step) (He.DefD.kws K d_Plain_step) f fd) (Y : Fx K mg) : FnOk P w K mg base CX0 3 f fd ["self"] (spS K 1 F_Plain_step) := by
  refine fn_ok FD sc_Plain_step fun cdv A outer s H E hr => ?_
  exact (sds_cons (sd_if (td_val (ed_meth0 (ok_Plain_ended Y) rfl hr (by decide) dd0 (ed_var (pv 0)))) (sds_one sd_retN) sds_nil)
  (sds_cons (sd_set (ps_set (i := 1) sc_Plain_step.nd rfl (by first | exact .inl rfl | exact .inr rfl) (ED.pe (ed_ix hr (ed_fld Y.at (ed_var (pv 0))) (ed_fld Y.at (ed_var (pv 0))) (fun _ _ => rfl)))))
  (sds_cons (sd_augF Y.at in_add ok_rAdd ed_int (ed_var (pv 0)))
  (sds_cons (sd_if (td_eq hr (ed_ix hr (ed_var (pv 1)) ed_int (fun _ _ => rfl)) ed_str) (sds_cons (sd_setF Y.at (ed_meth (ok_Plain_worth Y) rfl hr (by decide) dd0 (ed_var (pv 0)) (ad_cons (ed_ix hr (ed_var (pv 1)) ed_int (fun _ _ => rfl)) ad_nil)) (ed_var (pv 0)))
  (sds_one sd_retN)) sds_nil)
  (sds_cons (sd_set (ps_set (i := 2) sc_Plain_step.nd rfl (by first | exact .inl rfl | exact .inr rfl) (ED.pe ed_int)))
  (sds_cons (sd_if (td_eq hr (ed_ix hr (ed_var (pv 1)) ed_int (fun _ _ => rfl)) ed_str) (sds_one (sd_set (ps_set (i := 2) sc_Plain_step.nd rfl (by first | exact .inl rfl | exact .inr rfl) (ED.pe (ed_prim (fun ha => pe_callTy (x := "int") call_intAll (by rfl) Y.tb.int boot_int ha) ok_int (ad_cons (ed_eq hr (ed_meth (ok_Plain_worth Y) rfl hr (by decide) dd0 (ed_var (pv 0)) (ad_cons (ed_ix hr (ed_var (pv 1)) ed_int (fun _ _ => rfl)) ad_nil)) ed_int) ad_nil)))))) (sds_one (sd_if (td_in hr (ed_ix hr (ed_var (pv 1)) ed_int (fun _ _ => rfl)) (ed_tup (ad_cons ed_str (ad_cons ed_str (ad_cons ed_str ad_nil)))) rfl) (sds_one (sd_expr (ed_meth (ok_Plain_put_out Y) rfl hr (by decide) dd0 (ed_var (pv 0)) (ad_cons (ed_var (pv 1)) ad_nil)))) (sds_one (sd_if (td_ne hr (ed_ix hr (ed_var (pv 1)) ed_int (fun _ _ => rfl)) ed_str) (sds_one (sd_sub (ps_asg (ED.pe (ed_meth (ok_Plain_brought Y) rfl hr (by decide) dd0 (ed_var (pv 0)) (ad_cons (ed_var (pv 1)) ad_nil))) (pg_sub (ED.pe (ed_fld Y.at (ed_var (pv 0)))) (ED.pe (ed_ix hr (ed_var (pv 1)) ed_int (fun _ _ => rfl))) (PSet.or set_list (set_dict (hu1 hr))))))) sds_nil)))))
  (sds_one (sd_setF Y.at (ed_ix hr (ed_ix hr (ed_fld Y.at (ed_var (pv 0))) (ed_fld Y.at (ed_var (pv 0))) (fun _ _ => rfl)) (ed_var (pv 2)) (fun _ _ => rfl)) (ed_var (pv 0))))))))))
theorem ok_Plain_step (Y : Fx K mg) : MtC P w K mg base "Plain" "step" 3 ["self"] [] F_Plain_step := by
  obtain ⟨fd, FD⟩ := Y.c.def_ 63 (d := d_Plain_step) rfl
  exact MtC.of FD (Y.c.fact 49) (Y.c.fact 108) rfl (ok_Plain_step_fn FD Y) fun _ _ _ _ _ _ us hl => match us, hl with | [_], _ => rfl
theorem sc_law_cell_at : FnScope ["_law_script", "_law_k"] ["_law_script", "_law_k"] (defScope s_law_cell_at) := ⟨rfl, rfl, rfl, by decide +kernel, rfl, by decide +kernel, by decide +kernel⟩
theorem ok_law_cell_at_fn {f : Addr} {fd : FuncData} (FD : FunD K d_law_cell_at.name d_law_cell_at.qual d_law_cell_at.params d_law_cell_at.body d_law_cell_at.scope (He.DefD.dvs K d_law_cell_at) (He.DefD.kws K d_law_cell_at) f fd) (Y : Fx K mg) : FnOk P w K mg base CX0 1 f fd ["_law_script", "_law_k"] (spS K 2 F_law_cell_at) := by
  refine fn_ok FD sc_law_cell_at fun cdv A outer s H E hr => ?_
  exact (sds_cons (sd_if (td_lt (ed_var (pv 1)) (ed_prim (fun ha => pe_callB (x := "len") call_lenAll (by rfl) Y.tb.len boot_len ha) ok_len (ad_cons (ed_var (pv 0)) ad_nil))) (sds_one (sd_ret (ed_ix hr (ed_var (pv 0)) (ed_var (pv 1)) (fun _ _ => rfl)))) sds_nil)
  (sds_one (sd_ret ed_int)))
theorem ok_law_cell_at (Y : Fx K mg) : FnC P w K mg base "_law_cell_at" 1 ["_law_script", "_law_k"] [] F_law_cell_at := by
  obtain ⟨fd, FD⟩ := Y.c.def_ 66 (d := d_law_cell_at) rfl
  exact FnC.of FD (Y.glo 6) (ok_law_cell_at_fn FD Y) fun _ _ _ _ _ _ us hl => match us, hl with | [_, _], _ => rfl
theorem sc_law_stream : FnScope ["_law_cell", "_law_many", "_law_found", "_law_number", "_law_k"] ["_law_cell", "_law_many"] (defScope s_law_stream) := ⟨rfl, rfl, rfl, by decide +kernel, rfl, by decide +kernel, by decide +kernel⟩
theorem ok_law_stream_fn {f : Addr} {fd : FuncData} (FD : FunD K d_law_stream.name d_law_stream.qual d_law_stream.params d_law_stream.body d_law_stream.scope (He.DefD.dvs K d_law_stream) (He.DefD.kws K d_law_stream) f fd) (Y : Fx K mg) : FnOk P w K mg base CX0 1 f fd ["_law_cell", "_law_many"] (spS K 2 F_law_stream) := by
  refine fn_ok FD sc_law_stream fun cdv A outer s H E hr => ?_
  exact (sds_cons (sd_set (ps_set (i := 2) sc_law_stream.nd rfl (by first | exact .inl rfl | exact .inr rfl) (ED.pe (ed_lstM ad_nil))))
  (sds_cons (sd_set (ps_set (i := 3) sc_law_stream.nd rfl (by first | exact .inl rfl | exact .inr rfl) (ED.pe (ed_add (ed_mod (ed_var (pv 0)) ed_int) ed_int))))
  (sds_cons (sd_for (ps_for PassesOwn.never rfl (Dn.ID.pi (id_range1 (ad_cons (ed_add (ed_var (pv 1)) ed_int) ad_nil) (fun ha => pi_range1 (by rfl) Y.tb.range ha))) (GD.pg (gd_name (pg_name (i := 4) sc_law_stream.nd rfl (by first | exact .inl rfl | exact .inr rfl)))) (SDs.ps (sds_cons (sd_set (ps_set (i := 3) sc_law_stream.nd rfl (by first | exact .inl rfl | exact .inr rfl) (ED.pe (ed_mod (ed_add (ed_add (ed_mul (ed_var (pv 3)) (ed_var (pv 3))) (ed_mul ed_int (ed_var (pv 3)))) (ed_var (pv 4))) ed_int))))
  (sds_one (sd_expr (ed_mt ok_append (ed_var (pv 2)) (ad_cons (ed_var (pv 3)) ad_nil) (fun ho ha => pe_bm PySem.F.plainAttrs_list PySem.F.slot_list_append PySem.F.type_list_append mt_append ho ha))))))))
  (sds_one (sd_ret (ed_sl (ed_var (pv 2)) (od_some ed_int) od_none))))))
theorem ok_law_stream (Y : Fx K mg) : FnC P w K mg base "_law_stream" 1 ["_law_cell", "_law_many"] [] F_law_stream := by
  obtain ⟨fd, FD⟩ := Y.c.def_ 67 (d := d_law_stream) rfl
  exact FnC.of FD (Y.glo 7) (ok_law_stream_fn FD Y) fun _ _ _ _ _ _ us hl => match us, hl with | [_, _], _ => rfl
theorem sc_law_names : FnScope ["_law_cell", "_law_many", "_law_letters", "_law_size", "_law_at", "_law_common", "_law_k"] ["_law_cell", "_law_many"] (defScope s_law_names) := ⟨rfl, rfl, rfl, by decide +kernel, rfl, by decide +kernel, by decide +kernel⟩
theorem ok_law_names_fn {f : Addr} {fd : FuncData} (FD : FunD K d_law_names.name d_law_names.qual d_law_names.params d_law_names.body d_law_names.scope (He.DefD.dvs K d_law_names) (He.DefD.kws K d_law_names) f fd) (Y : Fx K mg) : FnOk P w K mg base CX0 1 f fd ["_law_cell", "_law_many"] (spS K 2 F_law_names) := by
  refine fn_ok FD sc_law_names fun cdv A outer s H E hr => ?_
  exact (sds_cons (sd_set (ps_set (i := 2) sc_law_names.nd rfl (by first | exact .inl rfl | exact .inr rfl) (ED.pe ed_str)))
  (sds_cons (sd_set (ps_set (i := 3) sc_law_names.nd rfl (by first | exact .inl rfl | exact .inr rfl) (ED.pe (ed_mod (ed_var (pv 0)) ed_int))))
  (sds_cons (sd_set (ps_set (i := 4) sc_law_names.nd rfl (by first | exact .inl rfl | exact .inr rfl) (ED.pe (ed_mod (ed_div (ed_var (pv 0)) ed_int) (ed_add (ed_var (pv 3)) ed_int)))))
  (sds_cons (sd_set (ps_set (i := 5) sc_law_names.nd rfl (by first | exact .inl rfl | exact .inr rfl) (ED.pe (ed_m1 ok_join ed_str (ed_lc (pe_lc (own := [("_law_k", 6)]) rfl sc_law_names.nd (Dn.ID.pi (id_range1 (ad_cons (ed_var (pv 3)) ad_nil) (fun ha => pi_range1 (by rfl) Y.tb.range ha))) (blkOk_by (by rfl)) (fun _ _ _ _ _ => (pg_name (i := 6) sc_law_names.nd rfl (by first | exact .inl rfl | exact .inr rfl))) (fun _ _ _ _ _ => pts_nil) (fun _ _ _ _ _ => (ED.pe (ed_ix hr (ed_var (pv 2)) (ed_mod (ed_add (ed_div (ed_var (pv 0)) ed_int) (ed_mul (ed_mul ed_int (ed_var (pv 6))) (ed_mod (ed_var (pv 0)) ed_int))) ed_int) (fun _ _ => rfl))))) (gw_name (by decide)) yes_of) (fun ho hb => pe_join ho hb)))))
  (sds_one (sd_ret (ed_lc (pe_lc (own := [("_law_k", 6)]) rfl sc_law_names.nd (Dn.ID.pi (id_range1 (ad_cons (ed_var (pv 1)) ad_nil) (fun ha => pi_range1 (by rfl) Y.tb.range ha))) (blkOk_by (by rfl)) (fun _ _ _ _ _ => (pg_name (i := 6) sc_law_names.nd rfl (by first | exact .inl rfl | exact .inr rfl))) (fun _ _ _ _ _ => pts_nil) (fun _ _ _ _ _ => (ED.pe (ed_add (ed_add (ed_sl (ed_var (pv 5)) od_none (od_some (ed_var (pv 4)))) (ed_ix hr (ed_var (pv 2)) (ed_mod (ed_add (ed_div (ed_var (pv 0)) ed_int) (ed_mul ed_int (ed_var (pv 6)))) ed_int) (fun _ _ => rfl))) (ed_sl (ed_var (pv 5)) (od_some (ed_var (pv 4))) od_none))))) (gw_name (by decide)) yes_of)))))))
theorem ok_law_names (Y : Fx K mg) : FnC P w K mg base "_law_names" 1 ["_law_cell", "_law_many"] [] F_law_names := by
  obtain ⟨fd, FD⟩ := Y.c.def_ 68 (d := d_law_names) rfl
  exact FnC.of FD (Y.glo 8) (ok_law_names_fn FD Y) fun _ _ _ _ _ _ us hl => match us, hl with | [_, _], _ => rfl
theorem sc_law_value_by : FnScope ["_law_number"] ["_law_number"] (defScope s_law_value_by) := ⟨rfl, rfl, rfl, by decide +kernel, rfl, by decide +kernel, by decide +kernel⟩
theorem ok_law_value_by_fn {f : Addr} {fd : FuncData} (FD : FunD K d_law_value_by.name d_law_value_by.qual d_law_value_by.params d_law_value_by.body d_law_value_by.scope (He.DefD.dvs K d_law_value_by) (He.DefD.kws K d_law_value_by) f fd) (Y : Fx K mg) : FnOk P w K mg base CX0 1 f fd ["_law_number"] (spS K 1 F_law_value_by) := by
  refine fn_ok FD sc_law_value_by fun cdv A outer s H E hr => ?_
  exact (sds_cons (sd_if (td_eq hr (ed_mod (ed_var (pv 0)) ed_int) ed_int) (sds_one (sd_ret (ed_mod (ed_div (ed_var (pv 0)) ed_int) ed_int))) sds_nil)
  (sds_cons (sd_if (td_eq hr (ed_mod (ed_var (pv 0)) ed_int) ed_int) (sds_one (sd_ret (ed_sub (ed_sub (ed_pow ed_int ed_int) ed_int) (ed_mod (ed_div (ed_var (pv 0)) ed_int) ed_int)))) sds_nil)
  (sds_one (sd_ret (ed_mod (ed_mul (ed_div (ed_var (pv 0)) ed_int) ed_int) (ed_pow ed_int ed_int))))))
theorem ok_law_value_by (Y : Fx K mg) : FnC P w K mg base "_law_value_by" 1 ["_law_number"] [] F_law_value_by := by
  obtain ⟨fd, FD⟩ := Y.c.def_ 69 (d := d_law_value_by) rfl
  exact FnC.of FD (Y.glo 9) (ok_law_value_by_fn FD Y) fun _ _ _ _ _ _ us hl => match us, hl with | [_], _ => rfl
theorem sc_law_atom : FnScope ["_law_number", "_law_names_here"] ["_law_number", "_law_names_here"] (defScope s_law_atom) := ⟨rfl, rfl, rfl, by decide +kernel, rfl, by decide +kernel, by decide +kernel⟩
theorem ok_law_atom_fn {f : Addr} {fd : FuncData} (FD : FunD K d_law_atom.name d_law_atom.qual d_law_atom.params d_law_atom.body d_law_atom.scope (He.DefD.dvs K d_law_atom) (He.DefD.kws K d_law_atom) f fd) (Y : Fx K mg) : FnOk P w K mg base CX0 2 f fd ["_law_number", "_law_names_here"] (spS K 2 F_law_atom) := by
  refine fn_ok FD sc_law_atom fun cdv A outer s H E hr => ?_
  exact (sds_cons (sd_if (td_eq hr (ed_mod (ed_var (pv 0)) ed_int) ed_int) (sds_one (sd_ret (ed_callP (ok_law_value_by Y) rfl hr (by decide) (by rfl) dd0 (ad_cons (ed_div (ed_var (pv 0)) ed_int) ad_nil)))) sds_nil)
  (sds_one (sd_ret (ed_ix hr (ed_var (pv 1)) (ed_mod (ed_div (ed_var (pv 0)) ed_int) (ed_prim (fun ha => pe_callB (x := "len") call_lenAll (by rfl) Y.tb.len boot_len ha) ok_len (ad_cons (ed_var (pv 1)) ad_nil))) (fun _ _ => rfl)))))
theorem ok_law_atom (Y : Fx K mg) : FnC P w K mg base "_law_atom" 2 ["_law_number", "_law_names_here"] [] F_law_atom := by
  obtain ⟨fd, FD⟩ := Y.c.def_ 70 (d := d_law_atom) rfl
  exact FnC.of FD (Y.glo 10) (ok_law_atom_fn FD Y) fun _ _ _ _ _ _ us hl => match us, hl with | [_, _], _ => rfl
theorem sc_law_world : FnScope ["_law_script", "_law_names_here", "_law_xs", "_law_cells", "_law_shelves", "_law_letters", "_law_k", "_law_number"] ["_law_script"] (defScope s_law_world) := ⟨rfl, rfl, rfl, by decide +kernel, rfl, by decide +kernel, by decide +kernel⟩
theorem ok_law_world_fn {f : Addr} {fd : FuncData} (FD : FunD K d_law_world.name d_law_world.qual d_law_world.params d_law_world.body d_law_world.scope (He.DefD.dvs K d_law_world) (He.DefD.kws K d_law_world) f fd) (Y : Fx K mg) : FnOk P w K mg base CX0 2 f fd ["_law_script"] (spS K 1 F_law_world) := by
  refine fn_ok FD sc_law_world fun cdv A outer s H E hr => ?_
  exact (sds_cons (sd_set (ps_set (i := 1) sc_law_world.nd rfl (by first | exact .inl rfl | exact .inr rfl) (ED.pe (ed_callP (ok_law_names Y) rfl hr (by decide) (by rfl) dd0 (ad_cons (ed_callP (ok_law_cell_at Y) rfl hr (by decide) (by rfl) dd0 (ad_cons (ed_var (pv 0)) (ad_cons ed_int ad_nil))) (ad_cons ed_int ad_nil))))))
  (sds_cons (sd_set (ps_set (i := 2) sc_law_world.nd rfl (by first | exact .inl rfl | exact .inr rfl) (ED.pe (ed_callP (ok_law_stream Y) rfl hr (by decide) (by rfl) dd0 (ad_cons (ed_callP (ok_law_cell_at Y) rfl hr (by decide) (by rfl) dd0 (ad_cons (ed_var (pv 0)) (ad_cons ed_int ad_nil))) (ad_cons ed_int ad_nil))))))
  (sds_cons (sd_setLc (i := 3) (ps_setLc (own := [("_law_k", 6)]) rfl sc_law_world.nd rfl rfl rfl (Dn.ID.pi (id_range1 (ad_cons (ed_add ed_int (ed_mod (ed_ix hr (ed_var (pv 2)) ed_int (fun _ _ => rfl)) ed_int)) ad_nil) (fun ha => pi_range1 (by rfl) Y.tb.range ha))) (blkOk_by (by rfl)) (fun _ _ _ _ _ => (pg_name (i := 6) sc_law_world.nd rfl (by first | exact .inl rfl | exact .inr rfl))) (fun _ _ _ _ _ => pts_nil) (fun _ _ _ _ _ => (ED.pe (ed_tup (ad_cons (ed_ix hr (ed_var (pv 1)) (ed_var (pv 6)) (fun _ _ => rfl)) (ad_cons (ed_callP (ok_law_value_by Y) rfl hr (by decide) (by rfl) dd0 (ad_cons (ed_ix hr (ed_var (pv 2)) (ed_var (pv 6)) (fun _ _ => rfl)) ad_nil)) (ad_cons (ed_eq hr (ed_mod (ed_div (ed_ix hr (ed_var (pv 2)) (ed_var (pv 6)) (fun _ _ => rfl)) ed_int) ed_int) ed_int) ad_nil))))))) (gw_name (by decide)) yes_of)
  (sds_cons (sd_setLc (i := 4) (ps_setLc (own := [("_law_k", 6)]) rfl sc_law_world.nd rfl rfl rfl (Dn.ID.pi (id_range1 (ad_cons (ed_add ed_int (ed_mod (ed_ix hr (ed_var (pv 2)) ed_int (fun _ _ => rfl)) ed_int)) ad_nil) (fun ha => pi_range1 (by rfl) Y.tb.range ha))) (blkOk_by (by rfl)) (fun _ _ _ _ _ => (pg_name (i := 6) sc_law_world.nd rfl (by first | exact .inl rfl | exact .inr rfl))) (fun _ _ _ _ _ => pts_nil) (fun _ _ _ _ _ => (ED.pe (ed_tup (ad_cons (ed_ix hr (ed_var (pv 1)) (ed_add ed_int (ed_var (pv 6))) (fun _ _ => rfl)) (ad_cons (ed_add ed_int (ed_mod (ed_ix hr (ed_var (pv 2)) (ed_add ed_int (ed_var (pv 6))) (fun _ _ => rfl)) ed_int)) (ad_cons (ed_eq hr (ed_mod (ed_div (ed_ix hr (ed_var (pv 2)) (ed_add ed_int (ed_var (pv 6))) (fun _ _ => rfl)) ed_int) ed_int) ed_int) ad_nil))))))) (gw_name (by decide)) yes_of)
  (sds_cons (sd_setLc (i := 5) (ps_setLc (own := [("_law_number", 7)]) rfl sc_law_world.nd rfl rfl rfl (Dn.ID.pi (id_seq (ed_callP (ok_law_stream Y) rfl hr (by decide) (by rfl) dd0 (ad_cons (ed_callP (ok_law_cell_at Y) rfl hr (by decide) (by rfl) dd0 (ad_cons (ed_var (pv 0)) (ad_cons ed_int ad_nil))) (ad_cons (ed_mod (ed_ix hr (ed_var (pv 2)) ed_int (fun _ _ => rfl)) ed_int) ad_nil))))) (blkOk_by (by rfl)) (fun _ _ _ _ _ => (pg_name (i := 7) sc_law_world.nd rfl (by first | exact .inl rfl | exact .inr rfl))) (fun _ _ _ _ _ => pts_nil) (fun _ _ _ _ _ => (ED.pe (ed_callP (ok_law_value_by Y) rfl hr (by decide) (by rfl) dd0 (ad_cons (ed_var (pv 7)) ad_nil))))) (gw_name (by decide)) yes_of)
  (sds_one (sd_ret (ed_tup (ad_cons (ed_sl (ed_var (pv 1)) (od_some ed_int) (od_some ed_int)) (ad_cons (ed_var (pv 3)) (ad_cons (ed_var (pv 4)) (ad_cons (ed_var (pv 5)) ad_nil))))))))))))
theorem ok_law_world (Y : Fx K mg) : FnC P w K mg base "_law_world" 2 ["_law_script"] [] F_law_world := by
  obtain ⟨fd, FD⟩ := Y.c.def_ 71 (d := d_law_world) rfl
  exact FnC.of FD (Y.glo 11) (ok_law_world_fn FD Y) fun _ _ _ _ _ _ us hl => match us, hl with | [_], _ => rfl
theorem sc_law_led : FnScope ["_law_xs", "_law_at", "_law_many"] ["_law_xs", "_law_at", "_law_many"] (defScope s_law_led) := ⟨rfl, rfl, rfl, by decide +kernel, rfl, by decide +kernel, by decide +kernel⟩
theorem ok_law_led_fn {f : Addr} {fd : FuncData} (FD : FunD K d_law_led.name d_law_led.qual d_law_led.params d_law_led.body d_law_led.scope (He.DefD.dvs K d_law_led) (He.DefD.kws K d_law_led) f fd) (Y : Fx K mg) : FnOk P w K mg base CX0 1 f fd ["_law_xs", "_law_at", "_law_many"] (spS K 3 F_law_led) := by
  refine fn_ok FD sc_law_led fun cdv A outer s H E hr => ?_
  exact (sds_cons (sd_if (td_eq hr (ed_mod (ed_ix hr (ed_var (pv 0)) ed_int (fun _ _ => rfl)) ed_int) ed_int) (sds_one (sd_ret (ed_mod (ed_ix hr (ed_var (pv 0)) ed_int (fun _ _ => rfl)) (ed_var (pv 2))))) sds_nil)
  (sds_one (sd_ret (ed_add (ed_add (ed_var (pv 1)) ed_int) (ed_mod (ed_ix hr (ed_var (pv 0)) ed_int (fun _ _ => rfl)) (ed_sub (ed_sub (ed_var (pv 2)) ed_int) (ed_var (pv 1))))))))
theorem ok_law_led (Y : Fx K mg) : FnC P w K mg base "_law_led" 1 ["_law_xs", "_law_at", "_law_many"] [] F_law_led := by
  obtain ⟨fd, FD⟩ := Y.c.def_ 72 (d := d_law_led) rfl
  exact FnC.of FD (Y.glo 12) (ok_law_led_fn FD Y) fun _ _ _ _ _ _ us hl => match us, hl with | [_, _, _], _ => rfl
theorem sc_law_row : FnScope ["_law_cell", "_law_at", "_law_many", "_law_world_here", "_law_xs", "_law_x", "_law_name", "_law_shelf", "_law_a", "_law_b", "_law_kind", "_law_boxes", "_law_cells", "_law_shelves", "_law_letters"] ["_law_cell", "_law_at", "_law_many", "_law_world_here"] (defScope s_law_row) := ⟨rfl, rfl, rfl, by decide +kernel, rfl, by decide +kernel, by decide +kernel⟩
theorem ok_law_row_fn {f : Addr} {fd : FuncData} (FD : FunD K d_law_row.name d_law_row.qual d_law_row.params d_law_row.body d_law_row.scope (He.DefD.dvs K d_law_row) (He.DefD.kws K d_law_row) f fd) (Y : Fx K mg) : FnOk P w K mg base CX0 3 f fd ["_law_cell", "_law_at", "_law_many", "_law_world_here"] (spS K 4 F_law_row) := by
  refine fn_ok FD sc_law_row fun cdv A outer s H E hr => ?_
  exact (sds_cons (sd_asg (ps_asg (ED.pe (ed_var (pv 3))) (GD.pg (gd_t rfl (gds_c (gd_name (pg_name (i := 11) sc_law_row.nd rfl (by first | exact .inl rfl | exact .inr rfl))) (gds_c (gd_name (pg_name (i := 12) sc_law_row.nd rfl (by first | exact .inl rfl | exact .inr rfl))) (gds_c (gd_name (pg_name (i := 13) sc_law_row.nd rfl (by first | exact .inl rfl | exact .inr rfl))) (gds_c (gd_name (pg_name (i := 14) sc_law_row.nd rfl (by first | exact .inl rfl | exact .inr rfl))) gds_nil))))))))
  (sds_cons (sd_set (ps_set (i := 4) sc_law_row.nd rfl (by first | exact .inl rfl | exact .inr rfl) (ED.pe (ed_callP (ok_law_stream Y) rfl hr (by decide) (by rfl) dd0 (ad_cons (ed_var (pv 0)) (ad_cons ed_int ad_nil))))))
  (sds_cons (sd_set (ps_set (i := 5) sc_law_row.nd rfl (by first | exact .inl rfl | exact .inr rfl) (ED.pe (ed_ix hr (ed_var (pv 11)) (ed_mod (ed_ix hr (ed_var (pv 4)) ed_int (fun _ _ => rfl)) (ed_prim (fun ha => pe_callB (x := "len") call_lenAll (by rfl) Y.tb.len boot_len ha) ok_len (ad_cons (ed_var (pv 11)) ad_nil))) (fun _ _ => rfl)))))
  (sds_cons (sd_set (ps_set (i := 6) sc_law_row.nd rfl (by first | exact .inl rfl | exact .inr rfl) (ED.pe (ed_ix hr (ed_ix hr (ed_var (pv 12)) (ed_mod (ed_ix hr (ed_var (pv 4)) ed_int (fun _ _ => rfl)) (ed_prim (fun ha => pe_callB (x := "len") call_lenAll (by rfl) Y.tb.len boot_len ha) ok_len (ad_cons (ed_var (pv 12)) ad_nil))) (fun _ _ => rfl)) ed_int (fun _ _ => rfl)))))
  (sds_cons (sd_set (ps_set (i := 7) sc_law_row.nd rfl (by first | exact .inl rfl | exact .inr rfl) (ED.pe (ed_ix hr (ed_ix hr (ed_var (pv 13)) (ed_mod (ed_ix hr (ed_var (pv 4)) ed_int (fun _ _ => rfl)) (ed_prim (fun ha => pe_callB (x := "len") call_lenAll (by rfl) Y.tb.len boot_len ha) ok_len (ad_cons (ed_var (pv 13)) ad_nil))) (fun _ _ => rfl)) ed_int (fun _ _ => rfl)))))
  (sds_cons (sd_set (ps_set (i := 8) sc_law_row.nd rfl (by first | exact .inl rfl | exact .inr rfl) (ED.pe (ed_callP (ok_law_atom Y) rfl hr (by decide) (by rfl) dd0 (ad_cons (ed_ix hr (ed_var (pv 4)) ed_int (fun _ _ => rfl)) (ad_cons (ed_var (pv 11)) ad_nil))))))
  (sds_cons (sd_set (ps_set (i := 9) sc_law_row.nd rfl (by first | exact .inl rfl | exact .inr rfl) (ED.pe (ed_callP (ok_law_atom Y) rfl hr (by decide) (by rfl) dd0 (ad_cons (ed_ix hr (ed_var (pv 4)) ed_int (fun _ _ => rfl)) (ad_cons (ed_var (pv 11)) ad_nil))))))
  (sds_cons (sd_set (ps_set (i := 10) sc_law_row.nd rfl (by first | exact .inl rfl | exact .inr rfl) (ED.pe (ed_mod (ed_ix hr (ed_var (pv 4)) ed_int (fun _ _ => rfl)) ed_int))))
  (sds_cons (sd_if (td_lt (ed_var (pv 10)) ed_int) (sds_one (sd_ret (ed_tup (ad_cons ed_str (ad_cons (ed_var (pv 5)) (ad_cons (ed_ix hr ed_str (ed_mod (ed_ix hr (ed_var (pv 4)) ed_int (fun _ _ => rfl)) ed_int) (fun _ _ => rfl)) (ad_cons (ed_var (pv 8)) (ad_cons (ed_var (pv 9)) ad_nil)))))))) sds_nil)
  (sds_cons (sd_if (td_lt (ed_var (pv 10)) ed_int) (sds_one (sd_ret (ed_ix hr (ed_lst (ad_cons (ed_tup (ad_cons ed_str (ad_cons (ed_var (pv 5)) (ad_cons (ed_var (pv 6)) ad_nil)))) (ad_cons (ed_tup (ad_cons ed_str (ad_cons (ed_var (pv 6)) (ad_cons (ed_var (pv 8)) ad_nil)))) (ad_cons (ed_tup (ad_cons ed_str (ad_cons (ed_var (pv 5)) (ad_cons (ed_var (pv 7)) (ad_cons (ed_var (pv 8)) ad_nil))))) (ad_cons (ed_tup (ad_cons ed_str (ad_cons (ed_var (pv 7)) (ad_cons (ed_var (pv 8)) (ad_cons (ed_var (pv 9)) ad_nil))))) ad_nil))))) (ed_mod (ed_var (pv 10)) ed_int) (fun _ _ => rfl)))) sds_nil)
  (sds_cons (sd_if (td_lt (ed_var (pv 10)) ed_int) (sds_one (sd_ret (ed_ix hr (ed_lst (ad_cons (ed_tup (ad_cons ed_str (ad_cons (ed_var (pv 5)) (ad_cons (ed_var (pv 8)) ad_nil)))) (ad_cons (ed_tup (ad_cons ed_str (ad_cons (ed_var (pv 5)) ad_nil))) (ad_cons (ed_tup (ad_cons ed_str (ad_cons (ed_var (pv 8)) ad_nil))) ad_nil)))) (ed_mod (ed_var (pv 10)) ed_int) (fun _ _ => rfl)))) sds_nil)
  (sds_cons (sd_if (td_lt (ed_var (pv 10)) ed_int) (sds_one (sd_ret (ed_tup (ad_cons ed_str (ad_cons (ed_var (pv 5)) (ad_cons (ed_callP (ok_law_led Y) rfl hr (by decide) (by rfl) dd0 (ad_cons (ed_var (pv 4)) (ad_cons (ed_var (pv 1)) (ad_cons (ed_var (pv 2)) ad_nil)))) ad_nil)))))) sds_nil)
  (sds_one (sd_ret (ed_ix hr (ed_lst (ad_cons (ed_tup (ad_cons ed_str (ad_cons (ed_var (pv 8)) ad_nil))) (ad_cons (ed_tup (ad_cons ed_str (ad_cons (ed_var (pv 9)) ad_nil))) (ad_cons (ed_tup (ad_cons ed_str (ad_cons (ed_callP (ok_law_led Y) rfl hr (by decide) (by rfl) dd0 (ad_cons (ed_var (pv 4)) (ad_cons (ed_var (pv 1)) (ad_cons (ed_var (pv 2)) ad_nil)))) ad_nil))) ad_nil)))) (ed_mod (ed_div (ed_ix hr (ed_var (pv 4)) ed_int (fun _ _ => rfl)) ed_int) ed_int) (fun _ _ => rfl))))))))))))))))
theorem ok_law_row (Y : Fx K mg) : FnC P w K mg base "_law_row" 3 ["_law_cell", "_law_at", "_law_many", "_law_world_here"] [] F_law_row := by
  obtain ⟨fd, FD⟩ := Y.c.def_ 73 (d := d_law_row) rfl
  exact FnC.of FD (Y.glo 13) (ok_law_row_fn FD Y) fun _ _ _ _ _ _ us hl => match us, hl with | [_, _, _, _], _ => rfl
theorem sc_law_program : FnScope ["_law_some_here", "_law_world_here", "_law_last", "_law_rows", "_law_at"] ["_law_some_here", "_law_world_here", "_law_last"] (defScope s_law_program) := ⟨rfl, rfl, rfl, by decide +kernel, rfl, by decide +kernel, by decide +kernel⟩
theorem ok_law_program_fn {f : Addr} {fd : FuncData} (FD : FunD K d_law_program.name d_law_program.qual d_law_program.params d_law_program.body d_law_program.scope (He.DefD.dvs K d_law_program) (He.DefD.kws K d_law_program) f fd) (Y : Fx K mg) : FnOk P w K mg base CX0 4 f fd ["_law_some_here", "_law_world_here", "_law_last"] (spS K 3 F_law_program) := by
  refine fn_ok FD sc_law_program fun cdv A outer s H E hr => ?_
  exact (sds_cons (sd_setLc (i := 3) (ps_setLc (own := [("_law_at", 4)]) rfl sc_law_program.nd rfl rfl rfl (Dn.ID.pi (id_range1 (ad_cons (ed_prim (fun ha => pe_callB (x := "len") call_lenAll (by rfl) Y.tb.len boot_len ha) ok_len (ad_cons (ed_var (pv 0)) ad_nil)) ad_nil) (fun ha => pi_range1 (by rfl) Y.tb.range ha))) (blkOk_by (by rfl)) (fun _ _ _ _ _ => (pg_name (i := 4) sc_law_program.nd rfl (by first | exact .inl rfl | exact .inr rfl))) (fun _ _ _ _ _ => pts_nil) (fun _ _ _ _ _ => (ED.pe (ed_callP (ok_law_row Y) rfl hr (by decide) (by rfl) dd0 (ad_cons (ed_ix hr (ed_var (pv 0)) (ed_var (pv 4)) (fun _ _ => rfl)) (ad_cons (ed_var (pv 4)) (ad_cons (ed_add (ed_prim (fun ha => pe_callB (x := "len") call_lenAll (by rfl) Y.tb.len boot_len ha) ok_len (ad_cons (ed_var (pv 0)) ad_nil)) ed_int) (ad_cons (ed_var (pv 1)) ad_nil)))))))) (gw_name (by decide)) yes_of)
  (sds_one (sd_ret (ed_tup (ad_cons (ed_prim (fun ha => pe_callTy (x := "tuple") call_tupAll (by rfl) Y.tb.tuple boot_tuple ha) ok_tuple (ad_cons (ed_ix hr (ed_var (pv 1)) ed_int (fun _ _ => rfl)) ad_nil)) (ad_cons (ed_prim (fun ha => pe_callTy (x := "tuple") call_tupAll (by rfl) Y.tb.tuple boot_tuple ha) ok_tuple (ad_cons (ed_ix hr (ed_var (pv 1)) ed_int (fun _ _ => rfl)) ad_nil)) (ad_cons (ed_add (ed_prim (fun ha => pe_callTy (x := "tuple") call_tupAll (by rfl) Y.tb.tuple boot_tuple ha) ok_tuple (ad_cons (ed_var (pv 3)) ad_nil)) (ed_tup (ad_cons (ed_tup (ad_cons ed_str (ad_cons (ed_var (pv 2)) ad_nil))) ad_nil))) ad_nil)))))))
theorem ok_law_program (Y : Fx K mg) : FnC P w K mg base "_law_program" 4 ["_law_some_here", "_law_world_here", "_law_last"] [] F_law_program := by
  obtain ⟨fd, FD⟩ := Y.c.def_ 74 (d := d_law_program) rfl
  exact FnC.of FD (Y.glo 14) (ok_law_program_fn FD Y) fun _ _ _ _ _ _ us hl => match us, hl with | [_, _, _], _ => rfl
theorem sc_law_some : FnScope ["_law_number", "_law_names_here", "_law_k"] ["_law_number", "_law_names_here"] (defScope s_law_some) := ⟨rfl, rfl, rfl, by decide +kernel, rfl, by decide +kernel, by decide +kernel⟩
theorem ok_law_some_fn {f : Addr} {fd : FuncData} (FD : FunD K d_law_some.name d_law_some.qual d_law_some.params d_law_some.body d_law_some.scope (He.DefD.dvs K d_law_some) (He.DefD.kws K d_law_some) f fd) (Y : Fx K mg) : FnOk P w K mg base CX0 1 f fd ["_law_number", "_law_names_here"] (spS K 2 F_law_some) := by
  refine fn_ok FD sc_law_some fun cdv A outer s H E hr => ?_
  exact (sds_one (sd_ret (ed_prim (fun ha => pe_callTy (x := "tuple") call_tupAll (by rfl) Y.tb.tuple boot_tuple ha) ok_tuple (ad_cons (ed_prim (fun ha => pe_callB (x := "sorted") (call_sortedAll rfl) (by rfl) Y.tb.sorted boot_sorted ha) ok_sorted (ad_cons (ed_lc (pe_lc (own := [("_law_k", 2)]) rfl sc_law_some.nd (Dn.ID.pi (id_range1 (ad_cons (ed_prim (fun ha => pe_callB (x := "len") call_lenAll (by rfl) Y.tb.len boot_len ha) ok_len (ad_cons (ed_var (pv 1)) ad_nil)) ad_nil) (fun ha => pi_range1 (by rfl) Y.tb.range ha))) (blkOk_by (by rfl)) (fun _ _ _ _ _ => (pg_name (i := 2) sc_law_some.nd rfl (by first | exact .inl rfl | exact .inr rfl))) (fun _ _ _ _ _ => (pts_one (TD.pt (td_eq hr (ed_band (ed_shr (ed_var (pv 0)) (ed_var (pv 2))) ed_int) ed_int)))) (fun _ _ _ _ _ => (ED.pe (ed_ix hr (ed_var (pv 1)) (ed_var (pv 2)) (fun _ _ => rfl))))) (gw_name (by decide)) same_of) ad_nil)) ad_nil))))
theorem ok_law_some (Y : Fx K mg) : FnC P w K mg base "_law_some" 1 ["_law_number", "_law_names_here"] [] F_law_some := by
  obtain ⟨fd, FD⟩ := Y.c.def_ 75 (d := d_law_some) rfl
  exact FnC.of FD (Y.glo 15) (ok_law_some_fn FD Y) fun _ _ _ _ _ _ us hl => match us, hl with | [_, _], _ => rfl
theorem sc_law_cutting : FnScope ["_law_program_here", "_law_cell", "_law_names_here", "_law_rows", "_law_xs", "_law_step", "_law_keeps", "_law_at"] ["_law_program_here", "_law_cell", "_law_names_here"] (defScope s_law_cutting) := ⟨rfl, rfl, rfl, by decide +kernel, rfl, by decide +kernel, by decide +kernel⟩
theorem ok_law_cutting_fn {f : Addr} {fd : FuncData} (FD : FunD K d_law_cutting.name d_law_cutting.qual d_law_cutting.params d_law_cutting.body d_law_cutting.scope (He.DefD.dvs K d_law_cutting) (He.DefD.kws K d_law_cutting) f fd) (Y : Fx K mg) : FnOk P w K mg base CX0 2 f fd ["_law_program_here", "_law_cell", "_law_names_here"] (spS K 3 F_law_cutting) := by
  refine fn_ok FD sc_law_cutting fun cdv A outer s H E hr => ?_
  exact (sds_cons (sd_set (ps_set (i := 3) sc_law_cutting.nd rfl (by first | exact .inl rfl | exact .inr rfl) (ED.pe (ed_ix hr (ed_var (pv 0)) ed_int (fun _ _ => rfl)))))
  (sds_cons (sd_set (ps_set (i := 4) sc_law_cutting.nd rfl (by first | exact .inl rfl | exact .inr rfl) (ED.pe (ed_callP (ok_law_stream Y) rfl hr (by decide) (by rfl) dd0 (ad_cons (ed_var (pv 1)) (ad_cons (ed_add (ed_prim (fun ha => pe_callB (x := "len") call_lenAll (by rfl) Y.tb.len boot_len ha) ok_len (ad_cons (ed_var (pv 3)) ad_nil)) ed_int) ad_nil))))))
  (sds_cons (sd_set (ps_set (i := 5) sc_law_cutting.nd rfl (by first | exact .inl rfl | exact .inr rfl) (ED.pe (ed_ix hr (ed_lst (ad_cons ed_int (ad_cons ed_int (ad_cons ed_int ad_nil)))) (ed_mod (ed_ix hr (ed_var (pv 4)) ed_int (fun _ _ => rfl)) ed_int) (fun _ _ => rfl)))))
  (sds_cons (sd_set (ps_set (i := 6) sc_law_cutting.nd rfl (by first | exact .inl rfl | exact .inr rfl) (ED.pe (ed_lstM ad_nil))))
  (sds_cons (sd_for (ps_for PassesOwn.never rfl (Dn.ID.pi (id_range1 (ad_cons (ed_prim (fun ha => pe_callB (x := "len") call_lenAll (by rfl) Y.tb.len boot_len ha) ok_len (ad_cons (ed_var (pv 3)) ad_nil)) ad_nil) (fun ha => pi_range1 (by rfl) Y.tb.range ha))) (GD.pg (gd_name (pg_name (i := 7) sc_law_cutting.nd rfl (by first | exact .inl rfl | exact .inr rfl)))) (SDs.ps (sds_one (sd_if (TDW.td (tw_or (td_eq hr (ed_ix hr (ed_ix hr (ed_var (pv 3)) (ed_var (pv 7)) (fun _ _ => rfl)) ed_int (fun _ _ => rfl)) ed_str) (tw_or1 (td_eq hr (ed_mod (ed_ix hr (ed_var (pv 4)) (ed_add (ed_var (pv 7)) ed_int) (fun _ _ => rfl)) (ed_var (pv 5))) ed_int)))) (sds_one (sd_expr (ed_mt ok_append (ed_var (pv 6)) (ad_cons (ed_tup (ad_cons (ed_var (pv 7)) (ad_cons (ed_callP (ok_law_some Y) rfl hr (by decide) (by rfl) dd0 (ad_cons (ed_div (ed_ix hr (ed_var (pv 4)) (ed_add (ed_var (pv 7)) ed_int) (fun _ _ => rfl)) ed_int) (ad_cons (ed_var (pv 2)) ad_nil))) ad_nil))) ad_nil) (fun ho ha => pe_bm PySem.F.plainAttrs_list PySem.F.slot_list_append PySem.F.type_list_append mt_append ho ha)))) sds_nil)))))
  (sds_one (sd_ret (ed_tup (ad_cons (ed_callP (ok_law_some Y) rfl hr (by decide) (by rfl) dd0 (ad_cons (ed_ix hr (ed_var (pv 4)) (ed_neg ed_int) (fun _ _ => rfl)) (ad_cons (ed_var (pv 2)) ad_nil))) (ad_cons (ed_prim (fun ha => pe_callTy (x := "tuple") call_tupAll (by rfl) Y.tb.tuple boot_tuple ha) ok_tuple (ad_cons (ed_var (pv 6)) ad_nil)) ad_nil))))))))))
theorem ok_law_cutting (Y : Fx K mg) : FnC P w K mg base "_law_cutting" 2 ["_law_program_here", "_law_cell", "_law_names_here"] [] F_law_cutting := by
  obtain ⟨fd, FD⟩ := Y.c.def_ 76 (d := d_law_cutting) rfl
  exact FnC.of FD (Y.glo 16) (ok_law_cutting_fn FD Y) fun _ _ _ _ _ _ us hl => match us, hl with | [_, _, _], _ => rfl
theorem sc_law_failings : FnScope ["_law_cells", "_law_found", "_law_cell", "_law_xs", "_law_many"] ["_law_cells"] (defScope s_law_failings) := ⟨rfl, rfl, rfl, by decide +kernel, rfl, by decide +kernel, by decide +kernel⟩
theorem ok_law_failings_fn {f : Addr} {fd : FuncData} (FD : FunD K d_law_failings.name d_law_failings.qual d_law_failings.params d_law_failings.body d_law_failings.scope (He.DefD.dvs K d_law_failings) (He.DefD.kws K d_law_failings) f fd) (Y : Fx K mg) : FnOk P w K mg base CX0 2 f fd ["_law_cells"] (spS K 1 F_law_failings) := by
  refine fn_ok FD sc_law_failings fun cdv A outer s H E hr => ?_
  exact (sds_cons (sd_set (ps_set (i := 1) sc_law_failings.nd rfl (by first | exact .inl rfl | exact .inr rfl) (ED.pe (ed_lstM ad_nil))))
  (sds_cons (sd_for (ps_for PassesOwn.never rfl (Dn.ID.pi (id_seq (ed_var (pv 0)))) (GD.pg (gd_name (pg_name (i := 2) sc_law_failings.nd rfl (by first | exact .inl rfl | exact .inr rfl)))) (SDs.ps (sds_cons (sd_set (ps_set (i := 3) sc_law_failings.nd rfl (by first | exact .inl rfl | exact .inr rfl) (ED.pe (ed_callP (ok_law_stream Y) rfl hr (by decide) (by rfl) dd0 (ad_cons (ed_var (pv 2)) (ad_cons ed_int ad_nil))))))
  (sds_cons (sd_set (ps_set (i := 4) sc_law_failings.nd rfl (by first | exact .inl rfl | exact .inr rfl) (ED.pe (ed_mod (ed_ix hr (ed_var (pv 3)) ed_int (fun _ _ => rfl)) ed_int))))
  (sds_cons (sd_if (td_eq hr (ed_mod (ed_ix hr (ed_var (pv 3)) ed_int (fun _ _ => rfl)) ed_int) ed_int) (sds_one (sd_set (ps_set (i := 4) sc_law_failings.nd rfl (by first | exact .inl rfl | exact .inr rfl) (ED.pe (ed_mod (ed_ix hr (ed_var (pv 3)) ed_int (fun _ _ => rfl)) ed_int))))) sds_nil)
  (sds_one (sd_expr (ed_mt ok_append (ed_var (pv 1)) (ad_cons (ed_tup (ad_cons (ed_var (pv 4)) (ad_cons (ed_callP (ok_law_value_by Y) rfl hr (by decide) (by rfl) dd0 (ad_cons (ed_ix hr (ed_var (pv 3)) ed_int (fun _ _ => rfl)) ad_nil)) ad_nil))) ad_nil) (fun ho ha => pe_bm PySem.F.plainAttrs_list PySem.F.slot_list_append PySem.F.type_list_append mt_append ho ha))))))))))
  (sds_one (sd_ret (ed_var (pv 1))))))
theorem ok_law_failings (Y : Fx K mg) : FnC P w K mg base "_law_failings" 2 ["_law_cells"] [] F_law_failings := by
  obtain ⟨fd, FD⟩ := Y.c.def_ 77 (d := d_law_failings) rfl
  exact FnC.of FD (Y.glo 17) (ok_law_failings_fn FD Y) fun _ _ _ _ _ _ us hl => match us, hl with | [_], _ => rfl
theorem sc_law_by_hand : FnScope ["_law_house", "_law_failings_here", "_law_most", "_law_done", "_law_left", "_law_k", "_law_many", "_law_dust"] ["_law_house", "_law_failings_here", "_law_most"] (defScope s_law_by_hand) := ⟨rfl, rfl, rfl, by decide +kernel, rfl, by decide +kernel, by decide +kernel⟩
theorem ok_law_by_hand_fn {f : Addr} {fd : FuncData} (FD : FunD K d_law_by_hand.name d_law_by_hand.qual d_law_by_hand.params d_law_by_hand.body d_law_by_hand.scope (He.DefD.dvs K d_law_by_hand) (He.DefD.kws K d_law_by_hand) f fd) (Y : Fx K mg) : FnOk P w K mg base CX0 7 f fd ["_law_house", "_law_failings_here", "_law_most"] (spS K 3 F_law_by_hand) := by
  refine fn_ok FD sc_law_by_hand fun cdv A outer s H E hr => ?_
  exact (sds_cons (sd_set (ps_set (i := 3) sc_law_by_hand.nd rfl (by first | exact .inl rfl | exact .inr rfl) (ED.pe ed_int)))
  (sds_cons (sd_set (ps_set (i := 4) sc_law_by_hand.nd rfl (by first | exact .inl rfl | exact .inr rfl) (ED.pe (ed_var (pv 2)))))
  (sds_cons (sd_for (ps_for PassesOwn.never rfl (Dn.ID.pi (id_seq (ed_var (pv 1)))) (GD.pg (gd_t rfl (gds_c (gd_name (pg_name (i := 6) sc_law_by_hand.nd rfl (by first | exact .inl rfl | exact .inr rfl))) (gds_c (gd_name (pg_name (i := 7) sc_law_by_hand.nd rfl (by first | exact .inl rfl | exact .inr rfl))) gds_nil)))) (SDs.ps (sds_cons (sd_for (ps_for PassesOwn.never rfl (Dn.ID.pi (id_range1 (ad_cons (ed_prim (fun ha => pe_callB (x := "min") (call_minAll rfl) (by rfl) Y.tb.min boot_min ha) ok_min (ad_cons (ed_var (pv 6)) (ad_cons (ed_var (pv 4)) ad_nil))) ad_nil) (fun ha => pi_range1 (by rfl) Y.tb.range ha))) (GD.pg (gd_name (pg_name (i := 5) sc_law_by_hand.nd rfl (by first | exact .inl rfl | exact .inr rfl)))) (SDs.ps (sds_cons (sd_set (ps_set (i := 3) sc_law_by_hand.nd rfl (by first | exact .inl rfl | exact .inr rfl) (ED.pe (ed_add (ed_var (pv 3)) (ed_prim (fun ha => pe_callTy (x := "int") call_intAll (by rfl) Y.tb.int boot_int ha) ok_int (ad_cons (ed_not (ed_meth0 (ok_House_rests Y) rfl hr (by decide) dd0 (ed_var (pv 0)))) ad_nil))))))
  (sds_one (sd_expr (ed_meth0 (ok_House_step Y) rfl hr (by decide) dd0 (ed_var (pv 0)))))))))
  (sds_cons (sd_if (td_gt (ed_var (pv 6)) (ed_var (pv 4))) (sds_one (sd_ret (ed_var (pv 3)))) sds_nil)
  (sds_cons (sd_set (ps_set (i := 4) sc_law_by_hand.nd rfl (by first | exact .inl rfl | exact .inr rfl) (ED.pe (ed_sub (ed_var (pv 4)) (ed_var (pv 6))))))
  (sds_one (sd_expr (ed_meth (ok_House_fail Y) rfl hr (by decide) dd0 (ed_var (pv 0)) (ad_cons (ed_var (pv 7)) ad_nil))))))))))
  (sds_cons (sd_for (ps_for PassesOwn.never rfl (Dn.ID.pi (id_range1 (ad_cons (ed_var (pv 4)) ad_nil) (fun ha => pi_range1 (by rfl) Y.tb.range ha))) (GD.pg (gd_name (pg_name (i := 5) sc_law_by_hand.nd rfl (by first | exact .inl rfl | exact .inr rfl)))) (SDs.ps (sds_cons (sd_set (ps_set (i := 3) sc_law_by_hand.nd rfl (by first | exact .inl rfl | exact .inr rfl) (ED.pe (ed_add (ed_var (pv 3)) (ed_prim (fun ha => pe_callTy (x := "int") call_intAll (by rfl) Y.tb.int boot_int ha) ok_int (ad_cons (ed_not (ed_meth0 (ok_House_rests Y) rfl hr (by decide) dd0 (ed_var (pv 0)))) ad_nil))))))
  (sds_one (sd_expr (ed_meth0 (ok_House_step Y) rfl hr (by decide) dd0 (ed_var (pv 0)))))))))
  (sds_one (sd_ret (ed_var (pv 3))))))))
theorem ok_law_by_hand (Y : Fx K mg) : FnC P w K mg base "_law_by_hand" 7 ["_law_house", "_law_failings_here", "_law_most"] [] F_law_by_hand := by
  obtain ⟨fd, FD⟩ := Y.c.def_ 78 (d := d_law_by_hand) rfl
  exact FnC.of FD (Y.glo 18) (ok_law_by_hand_fn FD Y) fun _ _ _ _ _ _ us hl => match us, hl with | [_, _, _], _ => rfl
theorem sc_law_same : FnScope ["_law_house", "_law_other", "_law_program_here", "_law_names_here", "_law_which", "_law_name", "_law_start", "_law_twin", "_law_size"] ["_law_house", "_law_other", "_law_program_here", "_law_names_here"] (defScope s_law_same) := ⟨rfl, rfl, rfl, by decide +kernel, rfl, by decide +kernel, by decide +kernel⟩
theorem ok_law_same_fn {f : Addr} {fd : FuncData} (FD : FunD K d_law_same.name d_law_same.qual d_law_same.params d_law_same.body d_law_same.scope (He.DefD.dvs K d_law_same) (He.DefD.kws K d_law_same) f fd) (Y : Fx K mg) : FnOk P w K mg base CX0 4 f fd ["_law_house", "_law_other", "_law_program_here", "_law_names_here"] (spS K 4 F_law_same) := by
  refine fn_ok FD sc_law_same fun cdv A outer s H E hr => ?_
  exact (sds_cons (sd_for (ps_for PassesOwn.never rfl (Dn.ID.pi (id_seq (ed_tup (ad_cons ed_int (ad_cons ed_int ad_nil))))) (GD.pg (gd_name (pg_name (i := 4) sc_law_same.nd rfl (by first | exact .inl rfl | exact .inr rfl)))) (SDs.ps (sds_one (sd_if (td_ne hr (ed_meth (ok_House_page Y) rfl hr (by decide) dd0 (ed_var (pv 0)) (ad_cons (ed_var (pv 4)) ad_nil)) (ed_meth (ok_House_page Y) rfl hr (by decide) dd0 (ed_var (pv 1)) (ad_cons (ed_var (pv 4)) ad_nil))) (sds_one (sd_ret ed_bl)) sds_nil)))))
  (sds_cons (sd_if (TDW.td (tw_or (td_ne hr (ed_meth0 (ok_House_face Y) rfl hr (by decide) dd0 (ed_var (pv 0))) (ed_meth0 (ok_House_face Y) rfl hr (by decide) dd0 (ed_var (pv 1)))) (tw_or (td_ne hr (ed_meth0 (ok_House_letters Y) rfl hr (by decide) dd0 (ed_var (pv 0))) (ed_meth0 (ok_House_letters Y) rfl hr (by decide) dd0 (ed_var (pv 1)))) (tw_or1 (td_ne hr (ed_meth0 (ok_House_answer Y) rfl hr (by decide) dd0 (ed_var (pv 0))) (ed_meth0 (ok_House_answer Y) rfl hr (by decide) dd0 (ed_var (pv 1)))))))) (sds_one (sd_ret ed_bl)) sds_nil)
  (sds_cons (sd_for (ps_for PassesOwn.never rfl (Dn.ID.pi (id_seq (ed_ix hr (ed_var (pv 2)) ed_int (fun _ _ => rfl)))) (GD.pg (gd_t rfl (gds_c (gd_name (pg_name (i := 5) sc_law_same.nd rfl (by first | exact .inl rfl | exact .inr rfl))) (gds_c (gd_name (pg_name (i := 6) sc_law_same.nd rfl (by first | exact .inl rfl | exact .inr rfl))) (gds_c (gd_name (pg_name (i := 7) sc_law_same.nd rfl (by first | exact .inl rfl | exact .inr rfl))) gds_nil))))) (SDs.ps (sds_one (sd_if (td_ne hr (ed_meth (ok_House_cell Y) rfl hr (by decide) dd0 (ed_var (pv 0)) (ad_cons (ed_var (pv 5)) ad_nil)) (ed_meth (ok_House_cell Y) rfl hr (by decide) dd0 (ed_var (pv 1)) (ad_cons (ed_var (pv 5)) ad_nil))) (sds_one (sd_ret ed_bl)) sds_nil)))))
  (sds_cons (sd_for (ps_for PassesOwn.never rfl (Dn.ID.pi (id_seq (ed_ix hr (ed_var (pv 2)) ed_int (fun _ _ => rfl)))) (GD.pg (gd_t rfl (gds_c (gd_name (pg_name (i := 5) sc_law_same.nd rfl (by first | exact .inl rfl | exact .inr rfl))) (gds_c (gd_name (pg_name (i := 8) sc_law_same.nd rfl (by first | exact .inl rfl | exact .inr rfl))) (gds_c (gd_name (pg_name (i := 7) sc_law_same.nd rfl (by first | exact .inl rfl | exact .inr rfl))) gds_nil))))) (SDs.ps (sds_one (sd_if (td_ne hr (ed_meth (ok_House_shelf Y) rfl hr (by decide) dd0 (ed_var (pv 0)) (ad_cons (ed_var (pv 5)) ad_nil)) (ed_meth (ok_House_shelf Y) rfl hr (by decide) dd0 (ed_var (pv 1)) (ad_cons (ed_var (pv 5)) ad_nil))) (sds_one (sd_ret ed_bl)) sds_nil)))))
  (sds_cons (sd_if (TDW.td (tw_or (td_ne hr (ed_meth0 (ok_House_stands Y) rfl hr (by decide) dd0 (ed_var (pv 0))) (ed_meth0 (ok_House_stands Y) rfl hr (by decide) dd0 (ed_var (pv 1)))) (tw_or (td_ne hr (ed_meth0 (ok_House_count Y) rfl hr (by decide) dd0 (ed_var (pv 0))) (ed_meth0 (ok_House_count Y) rfl hr (by decide) dd0 (ed_var (pv 1)))) (tw_or1 (td_ne hr (ed_meth0 (ok_House_torn Y) rfl hr (by decide) dd0 (ed_var (pv 0))) (ed_meth0 (ok_House_torn Y) rfl hr (by decide) dd0 (ed_var (pv 1)))))))) (sds_one (sd_ret ed_bl)) sds_nil)
  (sds_one (sd_ret (ed_eq hr (ed_lc (pe_lc (own := [("_law_name", 5)]) rfl sc_law_same.nd (Dn.ID.pi (id_seq (ed_var (pv 3)))) (blkOk_by (by rfl)) (fun _ _ _ _ _ => (pg_name (i := 5) sc_law_same.nd rfl (by first | exact .inl rfl | exact .inr rfl))) (fun _ _ _ _ _ => pts_nil) (fun _ _ _ _ _ => (ED.pe (ed_meth (ok_House_box Y) rfl hr (by decide) dd0 (ed_var (pv 0)) (ad_cons (ed_var (pv 5)) ad_nil))))) (gw_name (by decide)) yes_of) (ed_lc (pe_lc (own := [("_law_name", 5)]) rfl sc_law_same.nd (Dn.ID.pi (id_seq (ed_var (pv 3)))) (blkOk_by (by rfl)) (fun _ _ _ _ _ => (pg_name (i := 5) sc_law_same.nd rfl (by first | exact .inl rfl | exact .inr rfl))) (fun _ _ _ _ _ => pts_nil) (fun _ _ _ _ _ => (ED.pe (ed_meth (ok_House_box Y) rfl hr (by decide) dd0 (ed_var (pv 1)) (ad_cons (ed_var (pv 5)) ad_nil))))) (gw_name (by decide)) yes_of)))))))))
theorem ok_law_same (Y : Fx K mg) : FnC P w K mg base "_law_same" 4 ["_law_house", "_law_other", "_law_program_here", "_law_names_here"] [] F_law_same := by
  obtain ⟨fd, FD⟩ := Y.c.def_ 79 (d := d_law_same) rfl
  exact FnC.of FD (Y.glo 19) (ok_law_same_fn FD Y) fun _ _ _ _ _ _ us hl => match us, hl with | [_, _, _, _], _ => rfl
theorem sc_law_whole : FnScope ["_law_found", "_law_due"] ["_law_found", "_law_due"] (defScope s_law_whole) := ⟨rfl, rfl, rfl, by decide +kernel, rfl, by decide +kernel, by decide +kernel⟩
theorem ok_law_whole_fn {f : Addr} {fd : FuncData} (FD : FunD K d_law_whole.name d_law_whole.qual d_law_whole.params d_law_whole.body d_law_whole.scope (He.DefD.dvs K d_law_whole) (He.DefD.kws K d_law_whole) f fd) (Y : Fx K mg) : FnOk P w K mg base CX0 1 f fd ["_law_found", "_law_due"] (spS K 2 F_law_whole) := by
  refine fn_ok FD sc_law_whole fun cdv A outer s H E hr => ?_
  exact (sds_one (sd_ret (ed_and (e_isi (T7 := .int) Y.tb Y.tb.int (by decide) (by rfl) (by rfl) boot_int (ed_var (pv 0))) (ed_and (ed_not (e_isi (T7 := .bool) Y.tb Y.tb.bool (by decide) (by rfl) (by rfl) boot_bool (ed_var (pv 0)))) (ed_one (ed_eq hr (ed_var (pv 0)) (ed_var (pv 1))))))))
theorem ok_law_whole (Y : Fx K mg) : FnC P w K mg base "_law_whole" 1 ["_law_found", "_law_due"] [] F_law_whole := by
  obtain ⟨fd, FD⟩ := Y.c.def_ 80 (d := d_law_whole) rfl
  exact FnC.of FD (Y.glo 20) (ok_law_whole_fn FD Y) fun _ _ _ _ _ _ us hl => match us, hl with | [_, _], _ => rfl
theorem sc_law_ends : FnScope ["_law_program_here", "_law_letters", "_law_run", "_law_k"] ["_law_program_here", "_law_letters"] (defScope s_law_ends) := ⟨rfl, rfl, rfl, by decide +kernel, rfl, by decide +kernel, by decide +kernel⟩
theorem ok_law_ends_fn {f : Addr} {fd : FuncData} (FD : FunD K d_law_ends.name d_law_ends.qual d_law_ends.params d_law_ends.body d_law_ends.scope (He.DefD.dvs K d_law_ends) (He.DefD.kws K d_law_ends) f fd) (Y : Fx K mg) : FnOk P w K mg base CX0 5 f fd ["_law_program_here", "_law_letters"] (spS K 2 F_law_ends) := by
  refine fn_ok FD sc_law_ends fun cdv A outer s H E hr => ?_
  exact (sds_cons (sd_set (ps_set (i := 2) sc_law_ends.nd rfl (by first | exact .inl rfl | exact .inr rfl) (ED.pe (ed_make (ok_Plain_init Y) rfl hr (by decide) (by rfl) dd0 (ad_cons (ed_var (pv 0)) (ad_cons (ed_var (pv 1)) ad_nil))))))
  (sds_cons (sd_for (ps_for PassesOwn.never rfl (Dn.ID.pi (id_range1 (ad_cons ed_int ad_nil) (fun ha => pi_range1 (by rfl) Y.tb.range ha))) (GD.pg (gd_name (pg_name (i := 3) sc_law_ends.nd rfl (by first | exact .inl rfl | exact .inr rfl)))) (SDs.ps (sds_one (sd_expr (ed_meth0 (ok_Plain_step Y) rfl hr (by decide) dd0 (ed_var (pv 2))))))))
  (sds_one (sd_ret (ed_meth0 (ok_Plain_ended Y) rfl hr (by decide) dd0 (ed_var (pv 2)))))))
theorem ok_law_ends (Y : Fx K mg) : FnC P w K mg base "_law_ends" 5 ["_law_program_here", "_law_letters"] [] F_law_ends := by
  obtain ⟨fd, FD⟩ := Y.c.def_ 81 (d := d_law_ends) rfl
  exact FnC.of FD (Y.glo 21) (ok_law_ends_fn FD Y) fun _ _ _ _ _ _ us hl => match us, hl with | [_, _], _ => rfl
theorem sc_law : FnScope ["_law_script", "_law_world_here", "_law_names_here", "_law_program_here", "_law_code", "_law_failings_here", "_law_xs", "_law_most", "_law_handed", "_law_house", "_law_other", "_law_found", "_law_many", "_law_dust"] ["_law_script"] (defScope s_law) := ⟨rfl, rfl, rfl, by decide +kernel, rfl, by decide +kernel, by decide +kernel⟩
theorem ok_law_fn {f : Addr} {fd : FuncData} (FD : FunD K d_law.name d_law.qual d_law.params d_law.body d_law.scope (He.DefD.dvs K d_law) (He.DefD.kws K d_law) f fd) (Y : Fx K mg) : FnOk P w K mg base CX0 9 f fd ["_law_script"] (spS K 1 F_law) := by
  refine fn_ok FD sc_law fun cdv A outer s H E hr => ?_
  exact (sds_cons (sd_set (ps_set (i := 1) sc_law.nd rfl (by first | exact .inl rfl | exact .inr rfl) (ED.pe (ed_callP (ok_law_world Y) rfl hr (by decide) (by rfl) dd0 (ad_cons (ed_var (pv 0)) ad_nil)))))
  (sds_cons (sd_set (ps_set (i := 2) sc_law.nd rfl (by first | exact .inl rfl | exact .inr rfl) (ED.pe (ed_callP (ok_law_names Y) rfl hr (by decide) (by rfl) dd0 (ad_cons (ed_callP (ok_law_cell_at Y) rfl hr (by decide) (by rfl) dd0 (ad_cons (ed_var (pv 0)) (ad_cons ed_int ad_nil))) (ad_cons ed_int ad_nil))))))
  (sds_cons (sd_set (ps_set (i := 3) sc_law.nd rfl (by first | exact .inl rfl | exact .inr rfl) (ED.pe (ed_callP (ok_law_program Y) rfl hr (by decide) (by rfl) dd0 (ad_cons (ed_sl (ed_var (pv 0)) (od_some ed_int) (od_some ed_int)) (ad_cons (ed_var (pv 1)) (ad_cons (ed_callP (ok_law_atom Y) rfl hr (by decide) (by rfl) dd0 (ad_cons (ed_mod (ed_callP (ok_law_cell_at Y) rfl hr (by decide) (by rfl) dd0 (ad_cons (ed_var (pv 0)) (ad_cons ed_int ad_nil))) ed_int) (ad_cons (ed_ix hr (ed_var (pv 1)) ed_int (fun _ _ => rfl)) ad_nil))) ad_nil)))))))
  (sds_cons (sd_set (ps_set (i := 4) sc_law.nd rfl (by first | exact .inl rfl | exact .inr rfl) (ED.pe (ed_callP (ok_law_cutting Y) rfl hr (by decide) (by rfl) dd0 (ad_cons (ed_var (pv 3)) (ad_cons (ed_callP (ok_law_cell_at Y) rfl hr (by decide) (by rfl) dd0 (ad_cons (ed_var (pv 0)) (ad_cons ed_int ad_nil))) (ad_cons (ed_sl (ed_var (pv 2)) (od_some ed_int) (od_some ed_int)) ad_nil)))))))
  (sds_cons (sd_set (ps_set (i := 5) sc_law.nd rfl (by first | exact .inl rfl | exact .inr rfl) (ED.pe (ed_callP (ok_law_failings Y) rfl hr (by decide) (by rfl) dd0 (ad_cons (ed_sl (ed_var (pv 0)) (od_some ed_int) (od_some ed_int)) ad_nil)))))
  (sds_cons (sd_set (ps_set (i := 6) sc_law.nd rfl (by first | exact .inl rfl | exact .inr rfl) (ED.pe (ed_callP (ok_law_stream Y) rfl hr (by decide) (by rfl) dd0 (ad_cons (ed_callP (ok_law_cell_at Y) rfl hr (by decide) (by rfl) dd0 (ad_cons (ed_var (pv 0)) (ad_cons ed_int ad_nil))) (ad_cons ed_int ad_nil))))))
  (sds_cons (sd_set (ps_set (i := 7) sc_law.nd rfl (by first | exact .inl rfl | exact .inr rfl) (ED.pe (ed_mod (ed_ix hr (ed_var (pv 6)) ed_int (fun _ _ => rfl)) ed_int))))
  (sds_cons (sd_if (td_eq hr (ed_mod (ed_ix hr (ed_var (pv 6)) ed_int (fun _ _ => rfl)) ed_int) ed_int) (sds_one (sd_set (ps_set (i := 7) sc_law.nd rfl (by first | exact .inl rfl | exact .inr rfl) (ED.pe (ed_prim (fun ha => pe_callB (x := "sum") (cr_sum rfl) (by rfl) Y.tb.sum boot_sum ha) ok_sum (ad_cons (ed_lc (pe_lc (own := [("_law_many", 12), ("_law_dust", 13)]) rfl sc_law.nd (Dn.ID.pi (id_seq (ed_sl (ed_var (pv 5)) od_none (od_some (ed_mod (ed_ix hr (ed_var (pv 6)) ed_int (fun _ _ => rfl)) ed_int))))) (blkOk_by (by rfl)) (fun _ _ _ _ _ => (pg_tup rfl (pgs_cons (pg_name (i := 12) sc_law.nd rfl (by first | exact .inl rfl | exact .inr rfl)) (pgs_cons (pg_name (i := 13) sc_law.nd rfl (by first | exact .inl rfl | exact .inr rfl)) pgs_nil)))) (fun _ _ _ _ _ => pts_nil) (fun _ _ _ _ _ => (ED.pe (ed_var (pv 12))))) (gw_tup (gws_cons (gw_name (by decide)) (gws_cons (gw_name (by decide)) gws_nil))) yes_of) ad_nil)))))) sds_nil)
  (sds_cons (sd_set (ps_set (i := 8) sc_law.nd rfl (by first | exact .inl rfl | exact .inr rfl) (ED.pe (ed_prim (fun ha => pe_callTy (x := "list") (call_listAll rfl) (by rfl) Y.tb.list boot_list ha) ok_list (ad_cons (ed_var (pv 5)) ad_nil)))))
  (sds_cons (sd_set (ps_set (i := 9) sc_law.nd rfl (by first | exact .inl rfl | exact .inr rfl) (ED.pe (ed_make (ok_House_init Y) rfl hr (by decide) (by rfl) dd0 (ad_cons (ed_var (pv 3)) (ad_cons (ed_var (pv 4)) (ad_cons (ed_ix hr (ed_var (pv 1)) ed_int (fun _ _ => rfl)) ad_nil)))))))
  (sds_cons (sd_set (ps_set (i := 10) sc_law.nd rfl (by first | exact .inl rfl | exact .inr rfl) (ED.pe (ed_make (ok_House_init Y) rfl hr (by decide) (by rfl) dd0 (ad_cons (ed_var (pv 3)) (ad_cons (ed_var (pv 4)) (ad_cons (ed_ix hr (ed_var (pv 1)) ed_int (fun _ _ => rfl)) ad_nil)))))))
  (sds_cons (sd_set (ps_set (i := 11) sc_law.nd rfl (by first | exact .inl rfl | exact .inr rfl) (ED.pe (ed_callS (ok_drive Y) rfl hr (by decide) (by rfl) dd0 (ad_cons (ed_var (pv 9)) (ad_cons (ed_var (pv 8)) (ad_cons (ed_var (pv 7)) ad_nil)))))))
  (sds_cons (sd_if (TDW.td (tw_or (td_not (td_val (ed_callP (ok_law_whole Y) rfl hr (by decide) (by rfl) dd0 (ad_cons (ed_var (pv 11)) (ad_cons (ed_callS (ok_law_by_hand Y) rfl hr (by decide) (by rfl) dd0 (ad_cons (ed_var (pv 10)) (ad_cons (ed_var (pv 5)) (ad_cons (ed_var (pv 7)) ad_nil)))) ad_nil))))) (tw_or1 (td_not (td_val (ed_callS (ok_law_same Y) rfl hr (by decide) (by rfl) dd0 (ad_cons (ed_var (pv 9)) (ad_cons (ed_var (pv 10)) (ad_cons (ed_var (pv 3)) (ad_cons (ed_var (pv 2)) ad_nil)))))))))) (sds_one (sd_ret ed_bl)) sds_nil)
  (sds_cons (sd_if (td_not (td_val (ed_callP (ok_law_ends Y) rfl hr (by decide) (by rfl) dd0 (ad_cons (ed_var (pv 3)) (ad_cons (ed_ix hr (ed_var (pv 1)) ed_int (fun _ _ => rfl)) ad_nil))))) (sds_one (sd_ret (ed_eq hr (ed_var (pv 8)) (ed_var (pv 5))))) sds_nil)
  (sds_cons (sd_set (ps_set (i := 9) sc_law.nd rfl (by first | exact .inl rfl | exact .inr rfl) (ED.pe (ed_make (ok_House_init Y) rfl hr (by decide) (by rfl) dd0 (ad_cons (ed_var (pv 3)) (ad_cons (ed_var (pv 4)) (ad_cons (ed_ix hr (ed_var (pv 1)) ed_int (fun _ _ => rfl)) ad_nil)))))))
  (sds_cons (sd_set (ps_set (i := 10) sc_law.nd rfl (by first | exact .inl rfl | exact .inr rfl) (ED.pe (ed_make (ok_House_init Y) rfl hr (by decide) (by rfl) dd0 (ad_cons (ed_var (pv 3)) (ad_cons (ed_var (pv 4)) (ad_cons (ed_ix hr (ed_var (pv 1)) ed_int (fun _ _ => rfl)) ad_nil)))))))
  (sds_cons (sd_set (ps_set (i := 11) sc_law.nd rfl (by first | exact .inl rfl | exact .inr rfl) (ED.pe (ed_callS (ok_drive_d1 Y) rfl hr (by decide) (by rfl) (fun F => dvD_rel (K := K) (F := F) (vs := [.int 1000]) (by decide)) (ad_cons (ed_var (pv 9)) (ad_cons (ed_sl (ed_var (pv 8)) od_none (od_some ed_int)) ad_nil))))))
  (sds_cons (sd_if (td_not (td_val (ed_callP (ok_law_whole Y) rfl hr (by decide) (by rfl) dd0 (ad_cons (ed_var (pv 11)) (ad_cons (ed_callS (ok_law_by_hand Y) rfl hr (by decide) (by rfl) dd0 (ad_cons (ed_var (pv 10)) (ad_cons (ed_sl (ed_var (pv 5)) od_none (od_some ed_int)) (ad_cons ed_int ad_nil)))) ad_nil))))) (sds_one (sd_ret ed_bl)) sds_nil)
  (sds_one (sd_ret (ed_and (ed_callS (ok_law_same Y) rfl hr (by decide) (by rfl) dd0 (ad_cons (ed_var (pv 9)) (ad_cons (ed_var (pv 10)) (ad_cons (ed_var (pv 3)) (ad_cons (ed_var (pv 2)) ad_nil))))) (ed_one (ed_eq hr (ed_var (pv 8)) (ed_var (pv 5)))))))))))))))))))))))))
end
end Lk76

namespace Lk76
open PySem PySem.Spec PyProof.Rows L2 Dn
/-! ### a plain run in the store -/
section
variable {S S0 : Sto} {L : PLoc} {rows : List PRow} {coming : List Int} {st : PSt} {ρ : List (Option DV)}
theorem fl {f : Str} {d : DV} {g : DE} (A : PlAt S L rows coming st) (hg : g ρ S0 = some (.loc L.o, S)) (hT : AT.contains (("Plain" : Str), f) = true) (hl : (plF rows L st).lookup f = some d) : dFld AT f g ρ S0 = some (d, S) := fld_at hg A.o hT hl
theorem f_rows (A : PlAt S L rows coming st) : dFld AT "rows" (dVar 0) (some (.loc L.o) :: ρ) S = some (.tup (rows.map PRow.d), S) := fl A rfl rfl rfl
theorem f_leads (A : PlAt S L rows coming st) : dFld AT "leads" (dVar 0) (some (.loc L.o) :: ρ) S = some (.loc L.l, S) := fl A rfl rfl rfl
theorem f_coming (A : PlAt S L rows coming st) : dFld AT "coming" (dVar 0) (some (.loc L.o) :: ρ) S = some (.loc L.c, S) := fl A rfl rfl rfl
theorem f_at (A : PlAt S L rows coming st) : dFld AT "at" (dVar 0) (some (.loc L.o) :: ρ) S = some (.int st.at_, S) := fl A rfl rfl rfl
theorem f_held (A : PlAt S L rows coming st) : dFld AT "held" (dVar 0) (some (.loc L.o) :: ρ) S = some (.loc L.h, S) := fl A rfl rfl rfl
theorem f_cells (A : PlAt S L rows coming st) : dFld AT "cells" (dVar 0) (some (.loc L.o) :: ρ) S = some (.loc L.ce, S) := fl A rfl rfl rfl
theorem f_places (A : PlAt S L rows coming st) : dFld AT "places" (dVar 0) (some (.loc L.o) :: ρ) S = some (.loc L.p, S) := fl A rfl rfl rfl
theorem f_gone (A : PlAt S L rows coming st) : dFld AT "gone" (dVar 0) (some (.loc L.o) :: ρ) S = some (.loc L.g, S) := fl A rfl rfl rfl
theorem f_hears (A : PlAt S L rows coming st) : dFld AT "hears" (dVar 0) (some (.loc L.o) :: ρ) S = some (.int st.hears, S) := fl A rfl rfl rfl
theorem f_result (A : PlAt S L rows coming st) : dFld AT "result" (dVar 0) (some (.loc L.o) :: ρ) S = some (optI st.res, S) := fl A rfl rfl rfl
theorem set_at {e : DE} {n : Nat} (A : PlAt S L rows coming st) (he : e (some (.loc L.o) :: ρ) S = some (.int n, S)) : ∃ S1, dSetF AT "at" e (dVar 0) (some (.loc L.o) :: ρ) S = some (.nx (some (.loc L.o) :: ρ) S1) ∧ PlAt S1 L rows coming { st with at_ := n } ∧ Fr L S S1 :=
  ⟨_, setF_at he rfl A.o rfl (show (11 : Nat) < 1000 by decide), A.setO n st.done st.hears st.res, Fr.set (by simp [PLoc.fp])⟩
theorem set_res {e : DE} {n : Int} (A : PlAt S L rows coming st) (he : e (some (.loc L.o) :: ρ) S = some (.int n, S)) : ∃ S1, dSetF AT "result" e (dVar 0) (some (.loc L.o) :: ρ) S = some (.nx (some (.loc L.o) :: ρ) S1) ∧ PlAt S1 L rows coming { st with res := some n } ∧ Fr L S S1 :=
  ⟨_, setF_at he rfl A.o rfl (show (11 : Nat) < 1000 by decide), A.setO st.at_ st.done st.hears (some n), Fr.set (by simp [PLoc.fp])⟩
theorem pn_aug_done (A : PlAt S L rows coming st) : ∃ S1, dAugF AT "done" pAddI (dC (.int 1)) (dVar 0) (some (.loc L.o) :: ρ) S = some (.nx (some (.loc L.o) :: ρ) S1) ∧ PlAt S1 L rows coming { st with done := st.done + 1 } ∧ Fr L S S1 :=
  ⟨_, augF_at (x := .int st.done) rfl A.o rfl rfl rfl rfl A.o (show (11 : Nat) < 1000 by decide), A.setO st.at_ (st.done + 1) st.hears st.res, Fr.set (by simp [PLoc.fp])⟩
theorem pn_aug_hears (A : PlAt S L rows coming st) : ∃ S1, dAugF AT "hears" pAddI (dC (.int 1)) (dVar 0) (some (.loc L.o) :: ρ) S = some (.nx (some (.loc L.o) :: ρ) S1) ∧ PlAt S1 L rows coming { st with hears := st.hears + 1 } ∧ Fr L S S1 :=
  ⟨_, augF_at (x := .int st.hears) rfl A.o rfl rfl rfl rfl A.o (show (11 : Nat) < 1000 by decide), A.setO st.at_ st.done (st.hears + 1) st.res, Fr.set (by simp [PLoc.fp])⟩
theorem pn_held_get (A : PlAt S L rows coming st) {e : DE} {x : Str} {ρ : List (Option DV)} (he : e (some (.loc L.o) :: ρ) S = some (.str x, S)) : dGet2 (dFld AT "held" (dVar 0)) e (dC (.int 0)) (some (.loc L.o) :: ρ) S = some (.int (st.worth (.x x)), S) := by
  rw [get2_at (f_held A) (isD_dik A.h) he rfl (getD_dik A.h), lkD_map]
  show _ = some (DV.int ((lkG st.hk st.hv (Sum.inr x : Key)).getD 0), S)
  cases lkG st.hk st.hv (Sum.inr x : Key) <;> rfl
theorem pn_worth_ok (A : PlAt S L rows coming st) (a : Atm) : F_Plain_worth [.loc L.o, a.d] S = some (.int (st.worth a), S) := by
  cases a with
  | n i =>
    unfold F_Plain_worth b_Plain_worth runF
    simp [Atm.d, isT, PSt.worth]
  | x s =>
    have h := pn_held_get A (e := dVar 1) (ρ := [some (.str s)]) (x := s) rfl
    unfold F_Plain_worth b_Plain_worth runF
    simp [Atm.d, isT, h]
theorem pn_worth_m (A : PlAt S L rows coming st) {e : DE} {a : Atm} (he : e (some (.loc L.o) :: ρ) S = some (a.d, S)) : dMeth "Plain" "worth" F_Plain_worth [] (dVar 0) (aCons e aNil) (some (.loc L.o) :: ρ) S = some (.int (st.worth a), S) := by
  rw [meth_at (S := S) (n := L.o) (xs := [a.d]) (S2 := S) rfl A.o rfl (by simp [he])]
  exact pn_worth_ok A a
theorem ended_ok (A : PlAt S L rows coming st) : F_Plain_ended [.loc L.o] S = some (.bl st.res.isSome, S) := by
  unfold F_Plain_ended b_Plain_ended runF
  have h := f_result (ρ := []) A
  cases e : st.res <;> simp [h, e, optI]
theorem ended_m (A : PlAt S L rows coming st) : dMeth "Plain" "ended" F_Plain_ended [] (dVar 0) aNil (some (.loc L.o) :: ρ) S = some (.bl st.res.isSome, S) := by
  rw [meth_at (S := S) (n := L.o) (xs := []) (S2 := S) rfl A.o rfl rfl]
  exact ended_ok A
theorem value_eq {s : Str} {a b : Int} (ha : In40 a) (hb : In40 b) : pureOf F_value [.str s, .int a, .int b] = some (.int (valS s a b)) := by
  refine pureOf_of (S' := []) ?_ rfl
  obtain ⟨b0, b1⟩ := hb
  have pm : ∀ {S : Sto} {z : Int}, pMod (.int z) (.int 1099511627776) S = some (.int (z % 1099511627776), S) := v_modI (by decide)
  have pl : ∀ {S : Sto}, pMul (.int a) (.int b) S = some (.int (a * b), S) := v_mulI (by omega)
  unfold F_value b_value runF valS
  by_cases q1 : s = "+"
  · subst q1
    simp [pm]
  by_cases q2 : s = "-"
  · subst q2
    simp [pm]
  by_cases q3 : s = "*"
  · subst q3
    simp [pm, pl]
  by_cases q4 : s = "<"
  · subst q4
    simp
  by_cases q5 : s = "="
  · subst q5
    simp
  by_cases q6 : s = "&"
  · subst q6
    simp
  by_cases q7 : s = "|"
  · subst q7
    simp
  simp [q1, q2, q3, q4, q5, q6, q7]
end
end Lk76

namespace Lk76
open PySem PySem.Spec PyProof.Rows L2 Dn
section
variable {S S0 : Sto} {L : PLoc} {rows : List PRow} {coming : List Int} {st : PSt} {ρ : List (Option DV)}
theorem len_loc {n : Nat} {ds : List DV} (h : S[n]? = some (.lst ds)) : pLen [.loc n] S = some (.int ds.length, S) := by
  show (match asL S (.loc n) with | some ds => some (DV.int ds.length, S) | none => _) = _
  rw [asL_loc h]
theorem place_ix {n : Nat} {l : List Int} (h : S[n]? = some (.lst (l.map .int))) (hl : l ≠ []) (v : Int) : pIx (.loc n) (.int (v % (l.length : Int))) S = some (.int (l.getD (placeN l v) 0), S) := by
  have hlt := placeN_lt hl v
  have h0 := Int.emod_nonneg v (b := (l.length : Int)) (by have := List.length_pos_iff.mpr hl; omega)
  refine ix_loc h (atD_int h0 ?_)
  show (l.map DV.int)[placeN l v]? = _
  rw [List.getElem?_map, List.getElem?_eq_getElem hlt, List.getD_eq_getElem?_getD, List.getElem?_eq_getElem hlt] <;> rfl
theorem place_n {l : List Int} (hl : l ≠ []) (v : Int) : ixN (l.map DV.int).length (v % (l.length : Int)) = some (placeN l v) := by
  have hlt := placeN_lt hl v
  have h1 : 0 < l.length := List.length_pos_iff.mpr hl
  rw [List.length_map]
  exact ixN_int (Int.emod_nonneg _ (by omega)) (Int.emod_lt_of_pos _ (by omega))
theorem br_copy (A : PlAt S L rows coming st) (x : Str) (a : Atm) : F_Plain_brought [.loc L.o, (PRow.copy x a).d] S = some (.int (st.worth a), S) := by
  have h := pn_worth_m A (a := a) (ρ := [some (PRow.copy x a).d, none]) (e := dBin pIx (dVar 1) (dC (.int 2))) (by simp [PRow.d])
  simp only [PRow.d] at h
  unfold F_Plain_brought b_Plain_brought runF
  simp [PRow.d, h]
theorem br_op (A : PlAt S L rows coming st) (O : st.Ok) (x s : Str) (a b : Atm) (ha : a.Ok) (hb : b.Ok) : F_Plain_brought [.loc L.o, (PRow.op x s a b).d] S = some (.int (valS s (st.worth a) (st.worth b)), S) := by
  have h := pn_worth_m A (a := a) (ρ := [some (PRow.op x s a b).d, none]) (e := dBin pIx (dVar 1) (dC (.int 3))) (by simp [PRow.d])
  have h2 := pn_worth_m A (a := b) (ρ := [some (PRow.op x s a b).d, none]) (e := dBin pIx (dVar 1) (dC (.int 4))) (by simp [PRow.d])
  simp only [PRow.d] at h h2
  have hv := value_eq (s := s) (O.worth ha) (O.worth hb)
  unfold F_Plain_brought b_Plain_brought runF
  simp [PRow.d, h, h2, cpL_plain, hv]
theorem br_load (A : PlAt S L rows coming st) (O : st.Ok) (x c : Str) (hc : hasK st.ck (.inr c) = true) : F_Plain_brought [.loc L.o, (PRow.load x c).d] S = some (.int (st.cell c), S) := by
  have h := f_cells (ρ := [some (PRow.load x c).d, none]) A
  simp only [PRow.d] at h
  have h2 : pIx (.loc L.ce) (.str c) S = some (.int (st.cell c), S) := ix_dik A.ce (by rw [lkD_map, (O.cell hc).1] <;> rfl)
  unfold F_Plain_brought b_Plain_brought runF
  simp [PRow.d, h, h2]
theorem br_take (A : PlAt S L rows coming st) (O : st.Ok) (x s : Str) (a : Atm) (hs : hasK st.sk (.inr s) = true) (ha : a.Ok) : F_Plain_brought [.loc L.o, (PRow.take x s a).d] S = some (.int ((st.shelf s).getD (placeN (st.shelf s) (st.worth a)) 0), S) := by
  obtain ⟨e, ne, _, _⟩ := O.shelf hs
  obtain ⟨n, _, n1, n2, _⟩ := A.shelf e
  have h := f_places (ρ := [some (PRow.take x s a).d, none]) A
  have h2 : pIx (.loc L.p) (.str s) S = some (.loc n, S) := ix_dik A.p n1
  have h3 := pn_worth_m A (a := a) (ρ := [some (PRow.take x s a).d, some (.loc n)]) (e := dBin pIx (dVar 1) (dC (.int 3))) (by simp [PRow.d])
  simp only [PRow.d] at h h3
  have h4 := len_loc n2
  rw [List.length_map] at h4
  have h5 : ∀ {S : Sto}, pMod (.int (st.worth a)) (.int ((st.shelf s).length : Int)) S = some (.int (st.worth a % ((st.shelf s).length : Int)), S) := v_modI (by have := List.length_pos_iff.mpr ne; omega)
  have h6 := place_ix n2 ne (st.worth a)
  unfold F_Plain_brought b_Plain_brought runF
  simp [PRow.d, h, h2, h3, h4, h5, h6]
theorem br_hear (A : PlAt S L rows coming st) (x : Str) : ∃ S1, F_Plain_brought [.loc L.o, (PRow.hear x).d] S = some (.int (coming.getD st.hears 0), S1) ∧ PlAt S1 L rows coming { st with hears := st.hears + 1 } ∧ Fr L S S1 := by
  obtain ⟨S1, e1, A1, f1⟩ := pn_aug_hears (ρ := [some (PRow.hear x).d, none]) A
  have h1 := f_hears (ρ := [some (PRow.hear x).d, none]) A1
  have h2 := f_coming (ρ := [some (PRow.hear x).d, none]) A1
  have h3 := len_loc A1.c
  rw [List.length_map] at h3
  simp only [PRow.d] at e1 h1 h2
  refine ⟨S1, ?_, A1, f1⟩
  unfold F_Plain_brought b_Plain_brought runF
  by_cases q : st.hears < coming.length
  · have h4 : pIx (.loc L.c) (.int (st.hears : Int)) S1 = some (.int (coming.getD st.hears 0), S1) := by
      refine ix_loc A1.c (atD_nat ?_)
      rw [List.getElem?_map, List.getElem?_eq_getElem q, List.getD_eq_getElem?_getD, List.getElem?_eq_getElem q] <;> rfl
    have q2 : ¬ ((coming.length : Int) < (st.hears : Int) + 1) := by omega
    simp [PRow.d, e1, h1, h2, h3, q2, h4]
  · have q2 : ((coming.length : Int) < (st.hears : Int) + 1) := by omega
    have q3 : coming.getD st.hears 0 = 0 := by
      rw [List.getD_eq_getElem?_getD, List.getElem?_eq_none (by omega)] <;> rfl
    simp only [q3]
    simp [PRow.d, e1, h1, h2, h3, q2]
theorem po_say (A : PlAt S L rows coming st) (a : Atm) (hz : st.gone.length < 1000000) : ∃ S1, F_Plain_put_out [.loc L.o, (PRow.say a).d] S = some (.non, S1) ∧ PlAt S1 L rows coming { st with gone := st.gone ++ [st.worth a] } ∧ Fr L S S1 := by
  have h := f_gone (ρ := [some (PRow.say a).d, none]) A
  have h3 := pn_worth_m A (a := a) (ρ := [some (PRow.say a).d, none]) (e := dBin pIx (dVar 1) (dC (.int 1))) (by simp [PRow.d])
  simp only [PRow.d] at h h3
  have h4 := asL_loc A.g
  have h5 : pAppend (.loc L.g) [.int (st.worth a)] S = _ := app_loc A.g (by rw [List.length_map]; omega)
  have A1 := A.setG (st.gone ++ [st.worth a])
  rw [List.map_append] at A1
  refine ⟨_, ?_, A1, Fr.set (by simp [PLoc.fp])⟩
  unfold F_Plain_put_out b_Plain_put_out runF
  simp [PRow.d, h, h3, h4, h5]
theorem po_store (A : PlAt S L rows coming st) (c : Str) (a : Atm) (hc : hasK st.ck (.inr c) = true) (hz : st.ck.length < 1000000) : ∃ S1, F_Plain_put_out [.loc L.o, (PRow.store c a).d] S = some (.non, S1) ∧ PlAt S1 L rows coming { st with cv := rpG (.inr c) (st.worth a) st.ck st.cv } ∧ Fr L S S1 := by
  have h := f_cells (ρ := [some (PRow.store c a).d, none]) A
  have h3 := pn_worth_m A (a := a) (ρ := [some (PRow.store c a).d, none]) (e := dBin pIx (dVar 1) (dC (.int 2))) (by simp [PRow.d])
  have h5 : setI (.loc L.ce) (.str c) (.int (st.worth a)) S = _ := setI_dik A.ce (by omega)
  rw [putKs_has hc, putVs_map, putG_has hc] at h5
  refine ⟨_, ?_, A.setC (rpG (.inr c) (st.worth a) st.ck st.cv), Fr.set (by simp [PLoc.fp])⟩
  have h6 := sub_at (g := dBin pIx (dVar 1) (dC (.int 1))) h3 h (by simp [PRow.d] <;> rfl) h5
  simp only [PRow.d] at h6
  unfold F_Plain_put_out b_Plain_put_out runF
  simp [PRow.d, h6]
theorem po_lay (A : PlAt S L rows coming st) (O : st.Ok) (s : Str) (a b : Atm) (hs : hasK st.sk (.inr s) = true) : ∃ S1, F_Plain_put_out [.loc L.o, (PRow.lay s a b).d] S = some (.non, S1) ∧ PlAt S1 L rows coming { st with sv := rpG (.inr s) ((st.shelf s).set (placeN (st.shelf s) (st.worth a)) (st.worth b)) st.sk st.sv } ∧ Fr L S S1 := by
  obtain ⟨e, ne, _, _⟩ := O.shelf hs
  obtain ⟨n, nf, n1, n2, n3⟩ := A.shelf e
  have h := f_places (ρ := [some (PRow.lay s a b).d, none]) A
  have h2 : pIx (.loc L.p) (.str s) S = some (.loc n, S) := ix_dik A.p n1
  have h3 := pn_worth_m A (a := a) (ρ := [some (PRow.lay s a b).d, some (.loc n)]) (e := dBin pIx (dVar 1) (dC (.int 2))) (by simp [PRow.d])
  have h3b := pn_worth_m A (a := b) (ρ := [some (PRow.lay s a b).d, some (.loc n)]) (e := dBin pIx (dVar 1) (dC (.int 3))) (by simp [PRow.d])
  have h4 := len_loc n2
  rw [List.length_map] at h4
  have h5 : ∀ {S : Sto}, pMod (.int (st.worth a)) (.int ((st.shelf s).length : Int)) S = some (.int (st.worth a % ((st.shelf s).length : Int)), S) := v_modI (by have := List.length_pos_iff.mpr ne; omega)
  have h6 : setI (.loc n) (.int (st.worth a % ((st.shelf s).length : Int))) (.int (st.worth b)) S = _ := setI_lst n2 (place_n ne _)
  rw [← List.map_set] at h6
  refine ⟨_, ?_, n3 ((st.shelf s).set (placeN (st.shelf s) (st.worth a)) (st.worth b)), Fr.set nf⟩
  simp only [PRow.d] at h h3 h3b
  have h7 := sub_at (o := dVar 2) (g := dBin pMod (dMeth "Plain" "worth" F_Plain_worth [] (dVar 0) (aCons (dBin pIx (dVar 1) (dC (.int 2))) aNil)) (dPrim pLen (aCons (dVar 2) aNil))) h3b rfl (by simp [h3, h4, h5] <;> rfl) h6
  unfold F_Plain_put_out b_Plain_put_out runF
  simp [PRow.d, h, h2, h7]
end
end Lk76

namespace Lk76
open PySem PySem.Spec PyProof.Rows L2 Dn
section
variable {S S0 S1 S2 : Sto} {L : PLoc} {rows : List PRow} {coming : List Int} {st : PSt} {ρ : List (Option DV)}
theorem row_at (A : PlAt S L rows coming st) {r : PRow} (h : rows[st.at_]? = some r) : dBin pIx (dFld AT "rows" (dVar 0)) (dFld AT "at" (dVar 0)) (some (.loc L.o) :: ρ) S = some (r.d, S) := by
  have h1 := f_rows (ρ := ρ) A
  have h2 := f_at (ρ := ρ) A
  have h3 : ∀ {S : Sto}, pIx (.tup (rows.map PRow.d)) (.int (st.at_ : Int)) S = some (r.d, S) := fun {S} => ix_tup (atD_nat (by rw [List.getElem?_map, h] <;> rfl))
  simp [h1, h2, h3]
theorem lead_at (A : PlAt S L rows coming st) {r : PRow} (h : rows[st.at_]? = some r) {w n : Nat} (hw : (r.led st.at_)[w]? = some n) (hi : (w = 0 ∧ ρ = [some r.d, some (.int 0)]) ∨ (w = 1 ∧ ρ = [some r.d, some (.int 1)])) :
    dBin pIx (dBin pIx (dFld AT "leads" (dVar 0)) (dFld AT "at" (dVar 0))) (dVar 2) (some (.loc L.o) :: ρ) S = some (.int n, S) := by
  have h1 := f_leads (ρ := ρ) A
  have h2 := f_at (ρ := ρ) A
  have h3 : pIx (.loc L.l) (.int (st.at_ : Int)) S = some (ledD st.at_ r, S) := ix_loc A.l (atD_nat (by
    unfold leadsD
    rw [List.getElem?_mapIdx, h] <;> rfl))
  have h4 : pIx (ledD st.at_ r) (.int (w : Nat)) S = some (.int n, S) := ix_tup (atD_nat (by rw [List.getElem?_map, hw] <;> rfl))
  rcases hi with ⟨rfl, rfl⟩ | ⟨rfl, rfl⟩
  · have h4 : pIx (ledD st.at_ r) (.int 0) S = some (.int n, S) := h4
    simp [h1, h2, h3, h4]
  · have h4 : pIx (ledD st.at_ r) (.int 1) S = some (.int n, S) := h4
    simp [h1, h2, h3, h4]
theorem meth1 (A : PlAt S L rows coming st) {m : Str} {F : PL} (hm : (plF rows L st).lookup m = none) {x : DV} : dMeth "Plain" m F [] (dVar 0) (aCons (dVar 1) aNil) (some (.loc L.o) :: some x :: ρ) S = F [.loc L.o, x] S :=
  meth_at (S := S) (n := L.o) (xs := [x]) (S2 := S) rfl A.o hm rfl
/-- from the last statement on -/
theorem goes (A : PlAt S L rows coming st) {r : PRow} (h : rows[st.at_]? = some r) {w n : Nat} (hw : (r.led st.at_)[w]? = some n) (hi : (w = 0 ∧ ρ = [some r.d, some (.int 0)]) ∨ (w = 1 ∧ ρ = [some r.d, some (.int 1)])) :
    ∃ S1, dSetF AT "at" (dBin pIx (dBin pIx (dFld AT "leads" (dVar 0)) (dFld AT "at" (dVar 0))) (dVar 2)) (dVar 0) (some (.loc L.o) :: ρ) S = some (.nx (some (.loc L.o) :: ρ) S1) ∧ PlAt S1 L rows coming { st with at_ := n } ∧ Fr L S S1 := set_at A (lead_at A h hw hi)
theorem put_held (A : PlAt S L rows coming st) {e i : DE} {x : Str} {v : Int} (he : e (some (.loc L.o) :: ρ) S0 = some (.int v, S)) (hi : i (some (.loc L.o) :: ρ) S = some (.str x, S)) (hz : st.hk.length < 1000000) :
    ∃ S1, dSub e (dFld AT "held" (dVar 0)) i (some (.loc L.o) :: ρ) S0 = some (.nx (some (.loc L.o) :: ρ) S1) ∧ PlAt S1 L rows coming (st.out x v) ∧ Fr L S S1 := by
  have h5 : setI (.loc L.h) (.str x) (.int v) S = _ := setI_dik A.h (by omega)
  rw [putVs_map] at h5
  exact ⟨_, sub_at he (f_held A) hi h5, A.setH (putKs st.hk (.inr x)) (putG st.hk st.hv (.inr x) v), Fr.set (by simp [PLoc.fp])⟩
def stepC : DS := dSetF AT "at" (dBin pIx (dBin pIx (dFld AT "leads" (dVar 0)) (dFld AT "at" (dVar 0))) (dVar 2)) (dVar 0)
def stepB : DS := dIfS (dBin (pEq false) (dBin pIx (dVar 1) (dC (.int 0))) (dC (.str "if"))) (dSet 2 (dPrim pInt (aCons (dBin (pEq false) (dMeth "Plain" "worth" F_Plain_worth [] (dVar 0) (aCons (dBin pIx (dVar 1) (dC (.int 1))) aNil)) (dC (.int 0))) aNil))) (dIfS (dBin (pIn false) (dBin pIx (dVar 1) (dC (.int 0))) (dPrim pTup (aCons (dC (.str "store")) (aCons (dC (.str "lay")) (aCons (dC (.str "say")) aNil))))) (dExpr (dMeth "Plain" "put_out" F_Plain_put_out [] (dVar 0) (aCons (dVar 1) aNil))) (dIfS (dBin (pEq true) (dBin pIx (dVar 1) (dC (.int 0))) (dC (.str "go"))) (dSub (dMeth "Plain" "brought" F_Plain_brought [] (dVar 0) (aCons (dVar 1) aNil)) (dFld AT "held" (dVar 0)) (dBin pIx (dVar 1) (dC (.int 1)))) dNext))
def stepE : DS := dIfS (dBin (pEq false) (dBin pIx (dVar 1) (dC (.int 0))) (dC (.str "end"))) (dSeq (dSetF AT "result" (dMeth "Plain" "worth" F_Plain_worth [] (dVar 0) (aCons (dBin pIx (dVar 1) (dC (.int 1))) aNil)) (dVar 0)) dRetN) dNext
theorem step_shape : b_Plain_step = dSeq (dIfS (dMeth "Plain" "ended" F_Plain_ended [] (dVar 0) aNil) dRetN dNext) (dSeq (dSet 1 (dBin pIx (dFld AT "rows" (dVar 0)) (dFld AT "at" (dVar 0)))) (dSeq (dAugF AT "done" pAddI (dC (.int 1)) (dVar 0)) (dSeq stepE (dSeq (dSet 2 (dC (.int 0))) (dSeq stepB stepC))))) := rfl
/-- the row does its deed: the middle part -/
def Mid (S1 : Sto) (L : PLoc) (rows : List PRow) (coming : List Int) (st : PSt) (r : PRow) : Prop :=
  stepE [some (.loc L.o), some r.d, none] S1 = some (.nx [some (.loc L.o), some r.d, none] S1) ∧ ∃ S2 w, stepB [some (.loc L.o), some r.d, some (.int 0)] S1 = some (.nx [some (.loc L.o), some r.d, some (.int (w : Nat))] S2) ∧
    PlAt S2 L rows coming (st.does coming r) ∧ Fr L S1 S2 ∧ (w = 0 ∨ w = 1) ∧ (r.led st.at_)[w]? = some (st.next r)
theorem fin_step (A : PlAt S L rows coming st) {r : PRow} (hr : rows[st.at_]? = some r) (hres : st.res = none) (hm : ∀ S1, PlAt S1 L rows coming { st with done := st.done + 1 } → Mid S1 L rows coming { st with done := st.done + 1 } r)
    (hd : ({ st with done := st.done + 1 } : PSt).does coming r = { st.does coming r with done := st.done + 1 }) (hn : ({ st with done := st.done + 1 } : PSt).next r = st.next r) (ha : (st.does coming r).at_ = st.at_) :
    ∃ S2, F_Plain_step [.loc L.o] S = some (.non, S2) ∧ PlAt S2 L rows coming (st.step rows coming) ∧ Fr L S S2 := by
  have e0 := ended_m (ρ := [none, none]) A
  rw [hres] at e0
  have e1 := row_at (ρ := [none, none]) A hr
  obtain ⟨S1, e2, A1, f1⟩ := pn_aug_done (ρ := [some r.d, none]) A
  obtain ⟨e3, S2, w, e4, A2, f2, hw, hl⟩ := hm S1 A1
  rw [hn] at hl
  rw [hd] at A2
  have e5 : ∃ S3, stepC [some (.loc L.o), some r.d, some (.int (w : Nat))] S2 = some (.nx [some (.loc L.o), some r.d, some (.int (w : Nat))] S3) ∧ PlAt S3 L rows coming { st.does coming r with done := st.done + 1, at_ := st.next r } ∧ Fr L S2 S3 := by
    refine set_at A2 (lead_at A2 (show rows[(st.does coming r).at_]? = some r by rw [ha]; exact hr) (w := w) (show (r.led (st.does coming r).at_)[w]? = some (st.next r) by rw [ha]; exact hl) ?_)
    rcases hw with rfl | rfl
    · exact .inl ⟨rfl, rfl⟩
    · exact .inr ⟨rfl, rfl⟩
  obtain ⟨S3, e5, A3, f3⟩ := e5
  refine ⟨S3, ?_, ?_, (f1.trans f2).trans f3⟩
  · unfold F_Plain_step runF
    rw [step_shape]
    show (match (dSeq _ _ [some (.loc L.o), none, none] S : Option Out) with | some (.rt d S') => some (d, S') | some (.nx _ S') => some (.non, S') | _ => none) = _
    simp only [v_seq, v_ifS, e0, v_retN, v_next, Option.isSome_none, v_set, e1, List.set_cons_succ, List.set_cons_zero, e2, e3, v_c, e4, e5]
  · unfold PSt.step
    rw [hres, hr]
    exact A3
end
end Lk76

namespace Lk76
open PySem PySem.Spec PyProof.Rows L2 Dn
section
variable {S S0 S1 S2 : Sto} {L : PLoc} {rows : List PRow} {coming : List Int} {st : PSt} {ρ : List (Option DV)}
theorem mid_say (A : PlAt S1 L rows coming st) (a : Atm) (hz : st.gone.length < 1000000) : Mid S1 L rows coming st (.say a) := by
  obtain ⟨S2, e, A2, f⟩ := po_say A a hz
  have m := meth1 (ρ := [some (.int 0)]) (F := F_Plain_put_out) (m := "put_out") (x := (PRow.say a).d) A rfl
  rw [e] at m
  simp only [PRow.d] at m
  refine ⟨?_, S2, 0, ?_, A2, f, .inl rfl, rfl⟩
  · unfold stepE
    simp [PRow.d]
  · unfold stepB
    simp [PRow.d, m]
theorem mid_store (A : PlAt S1 L rows coming st) (c : Str) (a : Atm) (hc : hasK st.ck (.inr c) = true) (hz : st.ck.length < 1000000) : Mid S1 L rows coming st (.store c a) := by
  obtain ⟨S2, e, A2, f⟩ := po_store A c a hc hz
  have m := meth1 (ρ := [some (.int 0)]) (F := F_Plain_put_out) (m := "put_out") (x := (PRow.store c a).d) A rfl
  rw [e] at m
  simp only [PRow.d] at m
  refine ⟨?_, S2, 0, ?_, A2, f, .inl rfl, rfl⟩
  · unfold stepE
    simp [PRow.d]
  · unfold stepB
    simp [PRow.d, m]
theorem mid_lay (A : PlAt S1 L rows coming st) (O : st.Ok) (s : Str) (a b : Atm) (hs : hasK st.sk (.inr s) = true) : Mid S1 L rows coming st (.lay s a b) := by
  obtain ⟨S2, e, A2, f⟩ := po_lay A O s a b hs
  have m := meth1 (ρ := [some (.int 0)]) (F := F_Plain_put_out) (m := "put_out") (x := (PRow.lay s a b).d) A rfl
  rw [e] at m
  simp only [PRow.d] at m
  refine ⟨?_, S2, 0, ?_, A2, f, .inl rfl, rfl⟩
  · unfold stepE
    simp [PRow.d]
  · unfold stepB
    simp [PRow.d, m]
theorem mid_held {r : PRow} {x : Str} {v : Int} {st2 : PSt} (A : PlAt S1 L rows coming st) (hx : ∃ k tl, r.d = .tup (.str k :: .str x :: tl) ∧ tl.length ≤ 3 ∧ k ≠ "end" ∧ k ≠ "if" ∧ k ≠ "store" ∧ k ≠ "lay" ∧ k ≠ "say" ∧ k ≠ "go")
    (hb : ∃ S2, F_Plain_brought [.loc L.o, r.d] S1 = some (.int v, S2) ∧ PlAt S2 L rows coming st2 ∧ Fr L S1 S2) (hz : st2.hk.length < 1000000) (hs : st2.out x v = st.does coming r) (hl : (r.led st.at_)[0]? = some (st.next r)) : Mid S1 L rows coming st r := by
  obtain ⟨k, tl, hd, ht, k1, k2, k3, k4, k5, k6⟩ := hx
  obtain ⟨S2, e, A2, f⟩ := hb
  have m := meth1 (ρ := [some (.int 0)]) (F := F_Plain_brought) (m := "brought") (x := r.d) A rfl
  rw [e] at m
  have i0 : ∀ {S : Sto}, pIx r.d (.int 0) S = some (.str k, S) := fun {S} => by
    rw [hd]
    match tl, ht with
    | [], _ => rfl
    | [a], _ => rfl
    | [a, b], _ => rfl
    | [a, b, c], _ => rfl
  have i1 : ∀ {S : Sto}, pIx r.d (.int 1) S = some (.str x, S) := fun {S} => by
    rw [hd]
    match tl, ht with
    | [], _ => rfl
    | [a], _ => rfl
    | [a, b], _ => rfl
    | [a, b, c], _ => rfl
  obtain ⟨S3, e3, A3, f3⟩ := put_held (i := dBin pIx (dVar 1) (dC (.int 1))) (x := x) (ρ := [some r.d, some (.int 0)]) A2 m (by simp [i1]) hz
  rw [hs] at A3
  refine ⟨?_, S3, 0, ?_, A3, f.trans f3, .inl rfl, hl⟩
  · unfold stepE
    simp [i0, k1]
  · unfold stepB
    simp [i0, k2, Ne.symm k3, Ne.symm k4, Ne.symm k5, k6, e3]
theorem mid_if (A : PlAt S1 L rows coming st) (a : Atm) (n : Nat) : Mid S1 L rows coming st (.ifr a n) := by
  have h := pn_worth_m A (a := a) (ρ := [some (PRow.ifr a n).d, some (.int 0)]) (e := dBin pIx (dVar 1) (dC (.int 1))) (by simp [PRow.d])
  simp only [PRow.d] at h
  refine ⟨?_, S1, if st.worth a = 0 then 1 else 0, ?_, A, Fr.refl, ?_, ?_⟩
  · unfold stepE
    simp [PRow.d]
  · unfold stepB
    by_cases q : st.worth a = 0
    · simp [PRow.d, h, q]
    · simp [PRow.d, h, q]
  · by_cases q : st.worth a = 0
    · exact .inr (if_pos q)
    · exact .inl (if_neg q)
  · unfold PSt.next
    by_cases q : st.worth a = 0
    · rw [if_pos q]
      simp [q, PRow.led]
    · rw [if_neg q]
      simp [q, PRow.led]
theorem mid_go (A : PlAt S1 L rows coming st) (n : Nat) : Mid S1 L rows coming st (.go n) := by
  refine ⟨?_, S1, 0, ?_, A, Fr.refl, .inl rfl, rfl⟩
  · unfold stepE
    simp [PRow.d]
  · unfold stepB
    simp [PRow.d]
theorem step_end (A : PlAt S L rows coming st) {a : Atm} (hr : rows[st.at_]? = some (.endr a)) (hres : st.res = none) :
    ∃ S2, F_Plain_step [.loc L.o] S = some (.non, S2) ∧ PlAt S2 L rows coming (st.step rows coming) ∧ Fr L S S2 := by
  have e0 := ended_m (ρ := [none, none]) A
  rw [hres] at e0
  have e1 := row_at (ρ := [none, none]) A hr
  obtain ⟨S1, e2, A1, f1⟩ := pn_aug_done (ρ := [some (PRow.endr a).d, none]) A
  obtain ⟨S2, e3, A2, f2⟩ := set_res A1 (pn_worth_m A1 (a := a) (ρ := [some (PRow.endr a).d, none]) (e := dBin pIx (dVar 1) (dC (.int 1))) (by simp [PRow.d]))
  simp only [PRow.d] at e1 e2 e3
  refine ⟨S2, ?_, ?_, f1.trans f2⟩
  · unfold F_Plain_step runF
    rw [step_shape]
    show (match (dSeq _ _ [some (.loc L.o), none, none] S : Option Out) with | some (.rt d S') => some (d, S') | some (.nx _ S') => some (.non, S') | _ => none) = _
    simp only [v_seq, v_ifS, e0, v_retN, v_next, Option.isSome_none, v_set, e1, List.set_cons_succ, List.set_cons_zero, e2]
    unfold stepE
    simp [e3]
  · unfold PSt.step
    rw [hres, hr]
    exact A2
theorem step_done (A : PlAt S L rows coming st) {v : Int} (hres : st.res = some v) : F_Plain_step [.loc L.o] S = some (.non, S) := by
  have e0 := ended_m (ρ := [none, none]) A
  rw [hres] at e0
  unfold F_Plain_step runF
  rw [step_shape]
  show (match (dSeq _ _ [some (.loc L.o), none, none] S : Option Out) with | some (.rt d S') => some (d, S') | some (.nx _ S') => some (.non, S') | _ => none) = _
  simp only [v_seq, v_ifS, e0, v_retN, v_next, Option.isSome_some]
theorem pn_step_ok (A : PlAt S L rows coming st) (O : st.Ok) (hrows : ∀ r ∈ rows, r.Ok st.ck st.sk) (hd : st.done < 100000) (hck : st.ck.length < 1000) (hat : st.res = none → st.at_ < rows.length) :
    ∃ S2, F_Plain_step [.loc L.o] S = some (.non, S2) ∧ PlAt S2 L rows coming (st.step rows coming) ∧ Fr L S S2 := by
  cases hres : st.res with
  | some v =>
    refine ⟨S, step_done A hres, ?_, Fr.refl⟩
    unfold PSt.step
    rw [hres]
    exact A
  | none =>
    have hr : rows[st.at_]? = some (rows[st.at_]'(hat hres)) := List.getElem?_eq_getElem _
    generalize rows[st.at_]'(hat hres) = r at hr
    have hok := hrows r (List.mem_of_getElem? hr)
    have h1 := O.hd
    have h2 := O.gd
    have O1 : PSt.Ok { st with done := st.done + 1 } := ⟨O.hl, O.hr, O.cl, O.cr, O.sl, O.sr, Nat.le_succ_of_le O.hd, Nat.le_succ_of_le O.gd⟩
    cases r with
    | say a => exact fin_step A hr hres (fun S1 A1 => mid_say A1 a (by show st.gone.length < _; omega)) rfl rfl rfl
    | copy x a => exact fin_step A hr hres (fun S1 A1 => mid_held A1 ⟨"copy", [a.d], rfl, by simp, by decide, by decide, by decide, by decide, by decide, by decide⟩ ⟨S1, br_copy A1 x a, A1, Fr.refl⟩ (by show st.hk.length < _; omega) rfl rfl) rfl rfl rfl
    | op x s a b => exact fin_step A hr hres (fun S1 A1 => mid_held A1 ⟨"op", [.str s, a.d, b.d], rfl, by simp, by decide, by decide, by decide, by decide, by decide, by decide⟩ ⟨S1, br_op A1 O1 x s a b hok.2.1 hok.2.2, A1, Fr.refl⟩ (by show st.hk.length < _; omega) rfl rfl) rfl rfl rfl
    | load x c => exact fin_step A hr hres (fun S1 A1 => mid_held A1 ⟨"load", [.str c], rfl, by simp, by decide, by decide, by decide, by decide, by decide, by decide⟩ ⟨S1, br_load A1 O1 x c hok, A1, Fr.refl⟩ (by show st.hk.length < _; omega) rfl rfl) rfl rfl rfl
    | store c a => exact fin_step A hr hres (fun S1 A1 => mid_store A1 c a hok.1 (by show st.ck.length < _; omega)) rfl rfl rfl
    | take x s a => exact fin_step A hr hres (fun S1 A1 => mid_held A1 ⟨"take", [.str s, a.d], rfl, by simp, by decide, by decide, by decide, by decide, by decide, by decide⟩ ⟨S1, br_take A1 O1 x s a hok.1 hok.2, A1, Fr.refl⟩ (by show st.hk.length < _; omega) rfl rfl) rfl rfl rfl
    | lay s a b => exact fin_step A hr hres (fun S1 A1 => mid_lay A1 O1 s a b hok.1) rfl rfl rfl
    | hear x => exact fin_step A hr hres (fun S1 A1 => mid_held A1 ⟨"hear", [], rfl, by simp, by decide, by decide, by decide, by decide, by decide, by decide⟩ (br_hear A1 x) (by show st.hk.length < _; omega) rfl rfl) rfl rfl rfl
    | ifr a n => exact fin_step A hr hres (fun S1 A1 => mid_if A1 a n) rfl rfl rfl
    | go n => exact fin_step A hr hres (fun S1 A1 => mid_go A1 n) rfl rfl rfl
    | endr a => exact step_end A hr hres
end
end Lk76

namespace Lk76
open PySem PySem.Spec PyProof.Rows L2 Dn
theorem ways_of_eq (i : Nat) (r : PRow) : pureOf F_ways_of [r.d, .int i] = some (ledD i r) := by
  refine pureOf_of (S' := []) ?_ (by cases r <;> simp [ledD, PRow.led])
  unfold F_ways_of b_ways_of runF
  cases r <;> simp [PRow.d, ledD, PRow.led]
theorem ways_loop {x y : Option DV} : ∀ (rows : List PRow) (k : Nat), lcL (gTupD 2 (gsCons (gSet 1) (gsCons (gSet 2) gsNil))) (dC (.bl true)) (dPrim (cP (pureOf F_ways_of) []) (aCons (dVar 2) (aCons (dVar 1) aNil))) [x, none, none] (enD k (rows.map PRow.d)) [] = some (rows.mapIdx fun i r => ledD (k + i) r, [])
  | [], k => rfl
  | r :: rows, k => by
    have ih := ways_loop (x := x) (y := y) rows (k + 1)
    have hg : gTupD 2 (gsCons (gSet 1) (gsCons (gSet 2) gsNil)) (.tup [.int (k : Nat), r.d]) [x, none, none] [] = some ([x, some (.int (k : Nat)), some r.d], []) := rfl
    rw [List.map_cons]
    show lcL _ _ _ _ (DV.tup [.int (k : Nat), r.d] :: enD (k + 1) (rows.map PRow.d)) [] = _
    unfold lcL
    simp only [hg, v_c]
    have h1 : dPrim (cP (pureOf F_ways_of) []) (aCons (dVar 2) (aCons (dVar 1) aNil)) [x, some (.int (k : Nat)), some r.d] [] = some (ledD k r, []) := by
      simp [cpL_plain, PRow.plain_d, ways_of_eq]
    simp only [h1, ih]
    rw [List.mapIdx_cons]
    have e : (fun i r => ledD (k + 1 + i) r) = fun i r => ledD (k + (i + 1)) r := by
      funext i r
      rw [show k + 1 + i = k + (i + 1) by omega]
    rw [e]
    rfl
theorem leads_plain (rows : List PRow) : plainL (leadsD rows) = true := plainL_iff.mpr fun d h => by
  unfold leadsD at h
  obtain ⟨i, hi, rfl⟩ := List.mem_mapIdx.mp h
  unfold ledD
  exact plainL_iff.mpr fun d h => by
    obtain ⟨n, _, rfl⟩ := List.mem_map.mp h
    rfl
theorem ways_eq {c s : DV} (hc : plain c = true) (hs : plain s = true) (rows : List PRow) (hn : rows.length ≤ 1000) : freshOf F_ways [.tup [c, s, .tup (rows.map PRow.d)]] = some (leadsD rows) := by
  refine freshOf_loc (n := 0) (S' := [.lst (leadsD rows)]) ?_ rfl (leads_plain rows)
  have e := ways_loop (x := some (.tup [c, s, .tup (rows.map PRow.d)])) (y := none) rows 0
  have hi : iEnum2 (aCons (dBin pIx (dVar 0) (dC (.int 2))) aNil) [some (.tup [c, s, .tup (rows.map PRow.d)]), none, none] [] = some (enD 0 (rows.map PRow.d), []) := rfl
  have hz : (rows.mapIdx fun i r => ledD (0 + i) r).length ≤ sizeLine := size_ok (by rw [List.length_mapIdx]; omega)
  have h := dLcM_of (vs := [1, 2]) hi (by rw [show (dwipe [some (DV.tup [c, s, .tup (rows.map PRow.d)]), none, none] [1, 2]) = [some (DV.tup [c, s, .tup (rows.map PRow.d)]), none, none] from rfl]; exact e) hz
  have e2 : (rows.mapIdx fun i r => ledD (0 + i) r) = leadsD rows := by
    unfold leadsD
    congr
    funext i r
    rw [Nat.zero_add]
  rw [e2] at h
  unfold F_ways b_ways runF
  show (match (dRet _ [some (DV.tup [c, s, .tup (rows.map PRow.d)]), none, none] [] : Option Out) with | some (.rt d S') => some (d, S') | some (.nx _ S') => some (.non, S') | _ => none) = _
  rw [v_ret, h]
  rfl
/-! ### made -/
def cellD (c : Str × Int × Bool) : DV := .tup [.str c.1, .int c.2.1, .bl c.2.2]
abbrev cellG : DG := gTupD 3 (gsCons (gSet 3) (gsCons (gSet 4) (gsCons (gSet 5) gsNil)))
abbrev cellB : DS := dSub (dVar 4) (dFld AT "cells" (dVar 0)) (dVar 3)
theorem hasK_snoc {ks : List Key} {a b : Key} : hasK (ks ++ [a]) b = (hasK ks b || decide (a = b)) := by
  unfold hasK
  simp
theorem loop_cells {o n : Nat} {p l x6 : Option DV} {fs : List (Str × DV)} (hl : fs.lookup ("cells" : Str) = some (DV.loc n)) (hon : o ≠ n) : ∀ (cs : List (Str × Int × Bool)) (S : Sto) (ks : List Key) (vs : List Int) (x3 x4 x5 : Option DV), (∀ c ∈ cs, hasK ks (.inr c.1) = false) → (cs.map (·.1)).Nodup → ks.length + cs.length < 1000 →
    S[o]? = some (.ins "Plain" fs) → S[n]? = some (.dik ks (vs.map .int)) →
    ∃ y3 y4 y5, forL cellG cellB (cs.map cellD) [some (.loc o), p, l, x3, x4, x5, x6] S = some (.nx [some (.loc o), p, l, y3, y4, y5, x6] (S.set n (.dik (ks ++ cs.map fun c => .inr c.1) ((vs ++ cs.map fun c => c.2.1).map .int))))
  | [], S, ks, vs, x3, x4, x5, _, _, _, _, hn => ⟨x3, x4, x5, by
    have e : S.set n (.dik ks (vs.map .int)) = S := by
      obtain ⟨h1, h2⟩ := List.getElem?_eq_some_iff.mp hn
      rw [← h2, List.set_getElem_self]
    simp [e, forL]⟩
  | (nm, v, t) :: cs, S, ks, vs, x3, x4, x5, hk, hnd, hz, ho, hn => by
    have hk0 : hasK ks (Sum.inr nm : Key) = false := hk _ List.mem_cons_self
    rw [List.map_cons, List.nodup_cons] at hnd
    rw [List.length_cons] at hz
    have hg : cellG (cellD (nm, v, t)) [some (.loc o), p, l, x3, x4, x5, x6] S = some ([some (.loc o), p, l, some (.str nm), some (.int v), some (.bl t), x6], S) := rfl
    have hs : setI (.loc n) (.str nm) (.int v) S = _ := setI_dik hn (by omega)
    unfold putKs putVs at hs
    rw [hk0] at hs
    have hb : cellB [some (.loc o), p, l, some (.str nm), some (.int v), some (.bl t), x6] S = _ := sub_at rfl (fld_at rfl ho rfl hl) rfl hs
    have hn2 : (S.set n (.dik (ks ++ [.inr nm]) ((vs ++ [v]).map .int)))[n]? = some (.dik (ks ++ [.inr nm]) ((vs ++ [v]).map .int)) := List.getElem?_set_self (get_lt hn)
    obtain ⟨y3, y4, y5, e⟩ := loop_cells hl hon cs (S.set n (.dik (ks ++ [.inr nm]) ((vs ++ [v]).map .int))) (ks ++ [.inr nm]) (vs ++ [v]) (some (.str nm)) (some (.int v)) (some (.bl t)) (fun c hc => by
      rw [hasK_snoc, hk c (List.mem_cons_of_mem _ hc), decide_eq_false fun q => hnd.1 (List.mem_map.mpr ⟨c, hc, (Sum.inr.inj q).symm⟩)] <;> rfl) hnd.2 (by simp; omega) (by rw [List.getElem?_set_ne (Ne.symm hon)]; exact ho) hn2
    refine ⟨y3, y4, y5, ?_⟩
    rw [List.map_cons]
    unfold forL
    simp only [hg, hb]
    rw [List.map_append, List.map_cons, List.map_nil] at e
    show forL cellG cellB (cs.map cellD) _ _ = _
    rw [show (if false = true then ks else ks ++ [Sum.inr nm]) = ks ++ [Sum.inr nm] from rfl, show (if false = true then rpG (Sum.inr nm) (DV.int v) ks (vs.map .int) else vs.map .int ++ [DV.int v]) = vs.map .int ++ [DV.int v] from rfl, e]
    rw [List.set_set]
    simp
def shelfD (c : Str × Nat × Bool) : DV := .tup [.str c.1, .int c.2.1, .bl c.2.2]
abbrev shelfG : DG := gTupD 3 (gsCons (gSet 3) (gsCons (gSet 6) (gsCons (gSet 5) gsNil)))
abbrev shelfB : DS := dSub (dBin pMulM (dPrim pLst (aCons (dC (.int 0)) aNil)) (dVar 6)) (dFld AT "places" (dVar 0)) (dVar 3)
def noughts (k : Nat) : List Int := List.replicate k 0
theorem mulM0 {S : Sto} {k : Nat} (hk : k ≤ 1000) : pMulM (.lst .own [.int 0]) (.int k) S = some (.loc S.length, S ++ [.lst ((noughts k).map .int)]) := by
  have e : repD [DV.int 0] k = (noughts k).map .int := by
    unfold repD noughts
    induction k with
    | zero => rfl
    | succ k ih =>
      rw [List.replicate_succ, List.flatten_cons, ih (by omega), List.replicate_succ, List.map_cons] <;> rfl
  show (if (k : Int).natAbs < 9223372036854775808 ∧ [DV.int 0].length * (k : Int).toNat ≤ sizeLine then some (DV.loc S.length, S ++ [Cell.lst (repD [DV.int 0] (k : Int).toNat)]) else none) = _
  rw [if_pos ⟨by omega, by rw [size_eq]; simp; omega⟩, Int.toNat_natCast, e]
theorem loop_shelves {o n : Nat} {p l x4 : Option DV} {fs : List (Str × DV)} (hl : fs.lookup ("places" : Str) = some (DV.loc n)) (hon : o ≠ n) : ∀ (cs : List (Str × Nat × Bool)) (S : Sto) (ks : List Key) (ss : List Nat) (x3 x5 x6 : Option DV), (∀ c ∈ cs, hasK ks (.inr c.1) = false) → (cs.map (·.1)).Nodup → ks.length + cs.length < 1000 → (∀ c ∈ cs, c.2.1 ≤ 1000) →
    S[o]? = some (.ins "Plain" fs) → S[n]? = some (.dik ks (ss.map .loc)) →
    ∃ y3 y5 y6, forL shelfG shelfB (cs.map shelfD) [some (.loc o), p, l, x3, x4, x5, x6] S = some (.nx [some (.loc o), p, l, y3, x4, y5, y6] (S.set n (.dik (ks ++ cs.map fun c => .inr c.1) ((ss ++ List.range' S.length cs.length).map .loc)) ++ cs.map fun c => .lst ((noughts c.2.1).map .int)))
  | [], S, ks, ss, x3, x5, x6, _, _, _, _, _, hn => ⟨x3, x5, x6, by
    have e : S.set n (.dik ks (ss.map .loc)) = S := by
      obtain ⟨h1, h2⟩ := List.getElem?_eq_some_iff.mp hn
      rw [← h2, List.set_getElem_self]
    simp [e, forL]⟩
  | (nm, v, t) :: cs, S, ks, ss, x3, x5, x6, hk, hnd, hz, hv, ho, hn => by
    have hk0 : hasK ks (Sum.inr nm : Key) = false := hk _ List.mem_cons_self
    rw [List.map_cons, List.nodup_cons] at hnd
    rw [List.length_cons] at hz
    have hg : shelfG (shelfD (nm, v, t)) [some (.loc o), p, l, x3, x4, x5, x6] S = some ([some (.loc o), p, l, some (.str nm), x4, some (.bl t), some (.int v)], S) := rfl
    have lt := get_lt hn
    have lt2 := get_lt ho
    have hn1 : (S ++ [Cell.lst ((noughts v).map .int)])[n]? = some (.dik ks (ss.map .loc)) := by
      rw [List.getElem?_append_left lt]
      exact hn
    have ho1 : (S ++ [Cell.lst ((noughts v).map .int)])[o]? = some (.ins "Plain" fs) := by
      rw [List.getElem?_append_left lt2]
      exact ho
    have hs : setI (.loc n) (.str nm) (.loc S.length) (S ++ [Cell.lst ((noughts v).map .int)]) = _ := setI_dik hn1 (by omega)
    unfold putKs putVs at hs
    rw [hk0] at hs
    have hm : dBin pMulM (dPrim pLst (aCons (dC (.int 0)) aNil)) (dVar 6) [some (.loc o), p, l, some (.str nm), x4, some (.bl t), some (.int v)] S = some (.loc S.length, S ++ [Cell.lst ((noughts v).map .int)]) := by
      have := mulM0 (S := S) (hv _ List.mem_cons_self)
      simp [this]
    have hb : shelfB [some (.loc o), p, l, some (.str nm), x4, some (.bl t), some (.int v)] S = _ := sub_at hm (fld_at rfl ho1 rfl hl) rfl hs
    have e1 : (S ++ [Cell.lst ((noughts v).map .int)]).set n (.dik (ks ++ [.inr nm]) ((ss ++ [S.length]).map .loc)) = S.set n (.dik (ks ++ [.inr nm]) ((ss ++ [S.length]).map .loc)) ++ [Cell.lst ((noughts v).map .int)] := List.set_append_left _ _ lt
    have hn2 : (S.set n (.dik (ks ++ [.inr nm]) ((ss ++ [S.length]).map .loc)) ++ [Cell.lst ((noughts v).map .int)])[n]? = some (.dik (ks ++ [.inr nm]) ((ss ++ [S.length]).map .loc)) := by
      rw [List.getElem?_append_left (by rw [List.length_set]; exact lt)]
      exact List.getElem?_set_self lt
    obtain ⟨y3, y5, y6, e⟩ := loop_shelves (x4 := x4) (p := p) (l := l) hl hon cs _ (ks ++ [.inr nm]) (ss ++ [S.length]) (some (.str nm)) (some (.bl t)) (some (.int v)) (fun c hc => by
      rw [hasK_snoc, hk c (List.mem_cons_of_mem _ hc), decide_eq_false fun q => hnd.1 (List.mem_map.mpr ⟨c, hc, (Sum.inr.inj q).symm⟩)] <;> rfl) hnd.2 (by simp; omega) (fun c hc => hv c (List.mem_cons_of_mem _ hc)) (by rw [← e1, List.getElem?_set_ne (Ne.symm hon)]; exact ho1) hn2
    refine ⟨y3, y5, y6, ?_⟩
    rw [List.map_cons]
    unfold forL
    simp only [hg, hb]
    show forL shelfG shelfB (cs.map shelfD) _ _ = _
    rw [show (if false = true then ks else ks ++ [Sum.inr nm]) = ks ++ [Sum.inr nm] from rfl, show (if false = true then rpG (Sum.inr nm) (DV.loc S.length) ks (ss.map .loc) else ss.map .loc ++ [DV.loc S.length]) = (ss ++ [S.length]).map .loc by rw [List.map_append] <;> rfl, e1, e]
    rw [List.set_append_left _ _ (by rw [List.length_set]; exact lt), List.set_set, List.append_assoc]
    simp [List.range'_succ]
end Lk76

namespace Lk76
open PySem PySem.Spec PyProof.Rows L2 Dn
theorem set_off {S T : Sto} {k : Nat} {x : Cell} : (S ++ T).set (S.length + k) x = S ++ T.set k x := by
  rw [List.set_append_right _ _ (Nat.le_add_right _ _), Nat.add_sub_cancel_left]
theorem get_off {S T : Sto} {k : Nat} : (S ++ T)[S.length + k]? = T[k]? := by
  rw [List.getElem?_append_right (Nat.le_add_right _ _), Nat.add_sub_cancel_left]
theorem ini {f : Str} {e : DE} {ρ : List (Option DV)} {S T T' : Sto} {fs : List (Str × DV)} {y : DV} (hT : AT.contains (("Plain" : Str), f) = true) (he : e (some (.loc S.length) :: ρ) (S ++ (.ins "Plain" fs :: T)) = some (y, S ++ (.ins "Plain" fs :: T'))) (hz : fs.length < 1000) :
    dSetF AT f e (dVar 0) (some (.loc S.length) :: ρ) (S ++ (.ins "Plain" fs :: T)) = some (.nx (some (.loc S.length) :: ρ) (S ++ (.ins "Plain" (putFD f y fs) :: T'))) := by
  rw [setF_at he rfl (get_off (k := 0)) hT hz]
  rw [show S.length = S.length + 0 from rfl, set_off] <;> rfl
def st0 (cells : List (Str × Int × Bool)) (shelves : List (Str × Nat × Bool)) : PSt where
  at_ := 0
  done := 0
  hears := 0
  res := none
  hk := []
  hv := []
  ck := cells.map fun c => .inr c.1
  cv := cells.map fun c => c.2.1
  sk := shelves.map fun c => .inr c.1
  sv := shelves.map fun c => noughts c.2.1
  gone := []
def L0 (b k : Nat) : PLoc where
  o := b
  l := b + 1
  c := b + 2
  h := b + 3
  ce := b + 4
  p := b + 5
  g := b + 6 + k
  ss := List.range' (b + 6) k
theorem L0_fp (b k i : Nat) (h : i ∈ (L0 b k).fp) : b ≤ i ∧ i ≤ b + 6 + k := by
  simp only [PLoc.fp, L0, List.mem_cons, List.mem_range'_1] at h
  omega
theorem L0_nd (b k : Nat) : (L0 b k).fp.Nodup := by
  have h := List.nodup_range' (s := b + 6) (n := k) (step := 1)
  simp only [PLoc.fp, L0, List.nodup_cons, List.mem_cons, List.mem_range'_1, not_or, h, and_true]
  omega
abbrev progD (cells : List (Str × Int × Bool)) (shelves : List (Str × Nat × Bool)) (rows : List PRow) : DV := .tup [.tup (cells.map cellD), .tup (shelves.map shelfD), .tup (rows.map PRow.d)]
theorem pn_init_ok (S : Sto) (cells : List (Str × Int × Bool)) (shelves : List (Str × Nat × Bool)) (rows : List PRow) (coming : List Int) (letters : DV) (hL : ∀ T, itemsD (S ++ T) letters = some (coming.map .int))
    (hc : (cells.map (·.1)).Nodup) (hs : (shelves.map (·.1)).Nodup) (hcl : cells.length < 500) (hsl : shelves.length < 500) (hsz : ∀ c ∈ shelves, c.2.1 ≤ 1000) (hr : rows.length ≤ 1000) :
    ∃ T, F_Plain_init [.loc S.length, progD cells shelves rows, letters] (S ++ [.ins "Plain" []]) = some (.non, S ++ T) ∧ T.length = 7 + shelves.length ∧ PlAt (S ++ T) (L0 S.length shelves.length) rows coming (st0 cells shelves) := by
  let R : DV := .tup (rows.map PRow.d)
  let ρ : List (Option DV) := [some (progD cells shelves rows), some letters, none, none, none, none]
  have pc : plain (.tup (cells.map cellD)) = true := plainL_iff.mpr fun d h => by
    obtain ⟨c, _, rfl⟩ := List.mem_map.mp h
    rfl
  have ps : plain (.tup (shelves.map shelfD)) = true := plainL_iff.mpr fun d h => by
    obtain ⟨c, _, rfl⟩ := List.mem_map.mp h
    rfl
  have pr : plainL (rows.map PRow.d) = true := plainL_iff.mpr fun d h => by
    obtain ⟨c, _, rfl⟩ := List.mem_map.mp h
    exact PRow.plain_d
  have pp : plainL [progD cells shelves rows] = true := by
    simp only [plainL_cons, plainL_nil, plain_tup, Bool.and_true]
    rw [show plainL (cells.map cellD) = true from pc, show plainL (shelves.map shelfD) = true from ps, pr] <;> rfl
  have wq := ways_eq pc ps rows hr
  have e1 : dSetF AT "rows" (dBin pIx (dVar 1) (dC (.int 2))) (dVar 0) (some (.loc S.length) :: ρ) (S ++ [.ins "Plain" []]) = some (.nx (some (.loc S.length) :: ρ) (S ++ [.ins "Plain" [("rows", R)]])) := ini rfl rfl (by decide)
  have e2 : dSetF AT "leads" (dPrim (cM (freshOf F_ways) []) (aCons (dVar 1) aNil)) (dVar 0) (some (.loc S.length) :: ρ) (S ++ [.ins "Plain" [("rows", R)]]) = some (.nx (some (.loc S.length) :: ρ) (S ++ [.ins "Plain" [("rows", R), ("leads", .loc (S.length + 1))], .lst (leadsD rows)])) := ini rfl (by
    have h0 : dVar 1 (some (.loc S.length) :: ρ) (S ++ [.ins "Plain" [("rows", R)]]) = some (progD cells shelves rows, S ++ [.ins "Plain" [("rows", R)]]) := rfl
    simp only [v_prim, v_cons, v_nil, h0, cM_eq, cpL_plain pp, wq]
    simp) (show (1 : Nat) < 1000 by decide)
  have e3 : dSetF AT "coming" (dPrim pListM (aCons (dVar 2) aNil)) (dVar 0) (some (.loc S.length) :: ρ) (S ++ [.ins "Plain" [("rows", R), ("leads", .loc (S.length + 1))], .lst (leadsD rows)]) = some (.nx (some (.loc S.length) :: ρ) (S ++ [.ins "Plain" [("rows", R), ("leads", .loc (S.length + 1)), ("coming", .loc (S.length + 2))], .lst (leadsD rows), .lst (coming.map .int)])) := ini rfl (by
    have h0 : dVar 2 (some (.loc S.length) :: ρ) (S ++ [.ins "Plain" [("rows", R), ("leads", .loc (S.length + 1))], .lst (leadsD rows)]) = some (letters, S ++ [.ins "Plain" [("rows", R), ("leads", .loc (S.length + 1))], .lst (leadsD rows)]) := rfl
    simp only [v_prim, v_cons, v_nil, h0, pListM, hL]
    simp) (show (2 : Nat) < 1000 by decide)
  have e4 : dSetF AT "at" (dC (.int 0)) (dVar 0) (some (.loc S.length) :: ρ) (S ++ [.ins "Plain" [("rows", R), ("leads", .loc (S.length + 1)), ("coming", .loc (S.length + 2))], .lst (leadsD rows), .lst (coming.map .int)]) = some (.nx (some (.loc S.length) :: ρ) (S ++ [.ins "Plain" [("rows", R), ("leads", .loc (S.length + 1)), ("coming", .loc (S.length + 2)), ("at", .int 0)], .lst (leadsD rows), .lst (coming.map .int)])) := ini rfl rfl (show (3 : Nat) < 1000 by decide)
  have e5 : dSetF AT "held" (fun _ S => some (.loc S.length, S ++ [.dik [] []])) (dVar 0) (some (.loc S.length) :: ρ) (S ++ [.ins "Plain" [("rows", R), ("leads", .loc (S.length + 1)), ("coming", .loc (S.length + 2)), ("at", .int 0)], .lst (leadsD rows), .lst (coming.map .int)]) = some (.nx (some (.loc S.length) :: ρ) (S ++ [.ins "Plain" [("rows", R), ("leads", .loc (S.length + 1)), ("coming", .loc (S.length + 2)), ("at", .int 0), ("held", .loc (S.length + 3))], .lst (leadsD rows), .lst (coming.map .int), .dik [] []])) := ini rfl (by simp) (show (4 : Nat) < 1000 by decide)
  have e6 : dSetF AT "cells" (fun _ S => some (.loc S.length, S ++ [.dik [] []])) (dVar 0) (some (.loc S.length) :: ρ) (S ++ [.ins "Plain" [("rows", R), ("leads", .loc (S.length + 1)), ("coming", .loc (S.length + 2)), ("at", .int 0), ("held", .loc (S.length + 3))], .lst (leadsD rows), .lst (coming.map .int), .dik [] []]) = some (.nx (some (.loc S.length) :: ρ) (S ++ [.ins "Plain" [("rows", R), ("leads", .loc (S.length + 1)), ("coming", .loc (S.length + 2)), ("at", .int 0), ("held", .loc (S.length + 3)), ("cells", .loc (S.length + 4))], .lst (leadsD rows), .lst (coming.map .int), .dik [] [], .dik [] []])) := ini rfl (by simp) (show (5 : Nat) < 1000 by decide)
  obtain ⟨y3, y4, y5, e7⟩ := loop_cells (o := S.length) (n := S.length + 4) (p := some (progD cells shelves rows)) (l := some letters) (x6 := none) (fs := [("rows", R), ("leads", .loc (S.length + 1)), ("coming", .loc (S.length + 2)), ("at", .int 0), ("held", .loc (S.length + 3)), ("cells", .loc (S.length + 4))]) rfl (by omega) cells
    (S ++ [.ins "Plain" [("rows", R), ("leads", .loc (S.length + 1)), ("coming", .loc (S.length + 2)), ("at", .int 0), ("held", .loc (S.length + 3)), ("cells", .loc (S.length + 4))], .lst (leadsD rows), .lst (coming.map .int), .dik [] [], .dik [] []]) [] [] none none none (fun _ _ => rfl) hc (by simp; omega) (get_off (k := 0)) get_off
  rw [set_off] at e7
  have e7 : forL cellG cellB (cells.map cellD) (some (.loc S.length) :: ρ) (S ++ [.ins "Plain" [("rows", R), ("leads", .loc (S.length + 1)), ("coming", .loc (S.length + 2)), ("at", .int 0), ("held", .loc (S.length + 3)), ("cells", .loc (S.length + 4))], .lst (leadsD rows), .lst (coming.map .int), .dik [] [], .dik [] []]) = some (.nx [some (.loc S.length), some (progD cells shelves rows), some letters, y3, y4, y5, none] (S ++ [.ins "Plain" [("rows", R), ("leads", .loc (S.length + 1)), ("coming", .loc (S.length + 2)), ("at", .int 0), ("held", .loc (S.length + 3)), ("cells", .loc (S.length + 4))], .lst (leadsD rows), .lst (coming.map .int), .dik [] [], .dik (st0 cells shelves).ck ((st0 cells shelves).cv.map .int)])) := e7
  let ρ1 : List (Option DV) := [some (progD cells shelves rows), some letters, y3, y4, y5, none]
  have e8 : dSetF AT "places" (fun _ S => some (.loc S.length, S ++ [.dik [] []])) (dVar 0) (some (.loc S.length) :: ρ1) (S ++ [.ins "Plain" [("rows", R), ("leads", .loc (S.length + 1)), ("coming", .loc (S.length + 2)), ("at", .int 0), ("held", .loc (S.length + 3)), ("cells", .loc (S.length + 4))], .lst (leadsD rows), .lst (coming.map .int), .dik [] [], .dik (st0 cells shelves).ck ((st0 cells shelves).cv.map .int)]) = some (.nx (some (.loc S.length) :: ρ1) (S ++ [.ins "Plain" [("rows", R), ("leads", .loc (S.length + 1)), ("coming", .loc (S.length + 2)), ("at", .int 0), ("held", .loc (S.length + 3)), ("cells", .loc (S.length + 4)), ("places", .loc (S.length + 5))], .lst (leadsD rows), .lst (coming.map .int), .dik [] [], .dik (st0 cells shelves).ck ((st0 cells shelves).cv.map .int), .dik [] []])) := ini rfl (by simp) (show (6 : Nat) < 1000 by decide)
  obtain ⟨z3, z5, z6, e9⟩ := loop_shelves (o := S.length) (n := S.length + 5) (p := some (progD cells shelves rows)) (l := some letters) (x4 := y4) (fs := [("rows", R), ("leads", .loc (S.length + 1)), ("coming", .loc (S.length + 2)), ("at", .int 0), ("held", .loc (S.length + 3)), ("cells", .loc (S.length + 4)), ("places", .loc (S.length + 5))]) rfl (by omega) shelves
    (S ++ [.ins "Plain" [("rows", R), ("leads", .loc (S.length + 1)), ("coming", .loc (S.length + 2)), ("at", .int 0), ("held", .loc (S.length + 3)), ("cells", .loc (S.length + 4)), ("places", .loc (S.length + 5))], .lst (leadsD rows), .lst (coming.map .int), .dik [] [], .dik (st0 cells shelves).ck ((st0 cells shelves).cv.map .int), .dik [] []]) [] [] y3 y5 none (fun _ _ => rfl) hs (by simp; omega) hsz (get_off (k := 0)) get_off
  rw [set_off, show (S ++ [Cell.ins "Plain" [("rows", R), ("leads", .loc (S.length + 1)), ("coming", .loc (S.length + 2)), ("at", .int 0), ("held", .loc (S.length + 3)), ("cells", .loc (S.length + 4)), ("places", .loc (S.length + 5))], .lst (leadsD rows), .lst (coming.map .int), .dik [] [], .dik (st0 cells shelves).ck ((st0 cells shelves).cv.map .int), .dik [] []]).length = S.length + 6 by simp, List.append_assoc] at e9
  let B : Sto := [.lst (leadsD rows), .lst (coming.map .int), .dik [] [], .dik (st0 cells shelves).ck ((st0 cells shelves).cv.map .int), .dik (st0 cells shelves).sk ((List.range' (S.length + 6) shelves.length).map .loc)] ++ shelves.map fun c => .lst ((noughts c.2.1).map .int)
  have e9 : forL shelfG shelfB (shelves.map shelfD) (some (.loc S.length) :: ρ1) (S ++ [.ins "Plain" [("rows", R), ("leads", .loc (S.length + 1)), ("coming", .loc (S.length + 2)), ("at", .int 0), ("held", .loc (S.length + 3)), ("cells", .loc (S.length + 4)), ("places", .loc (S.length + 5))], .lst (leadsD rows), .lst (coming.map .int), .dik [] [], .dik (st0 cells shelves).ck ((st0 cells shelves).cv.map .int), .dik [] []]) = some (.nx [some (.loc S.length), some (progD cells shelves rows), some letters, z3, y4, z5, z6] (S ++ (.ins "Plain" [("rows", R), ("leads", .loc (S.length + 1)), ("coming", .loc (S.length + 2)), ("at", .int 0), ("held", .loc (S.length + 3)), ("cells", .loc (S.length + 4)), ("places", .loc (S.length + 5))] :: B))) := e9
  have Bl : B.length = 5 + shelves.length := by simp [B]; omega
  let ρ2 : List (Option DV) := [some (progD cells shelves rows), some letters, z3, y4, z5, z6]
  have ea : dSetF AT "gone" (dPrim pLstM aNil) (dVar 0) (some (.loc S.length) :: ρ2) (S ++ (.ins "Plain" [("rows", R), ("leads", .loc (S.length + 1)), ("coming", .loc (S.length + 2)), ("at", .int 0), ("held", .loc (S.length + 3)), ("cells", .loc (S.length + 4)), ("places", .loc (S.length + 5))] :: B)) = some (.nx (some (.loc S.length) :: ρ2) (S ++ (.ins "Plain" [("rows", R), ("leads", .loc (S.length + 1)), ("coming", .loc (S.length + 2)), ("at", .int 0), ("held", .loc (S.length + 3)), ("cells", .loc (S.length + 4)), ("places", .loc (S.length + 5)), ("gone", .loc (S.length + 6 + shelves.length))] :: (B ++ [.lst []])))) := ini rfl (by
    simp [Bl]
    omega) (show (7 : Nat) < 1000 by decide)
  have eb : dSetF AT "hears" (dC (.int 0)) (dVar 0) (some (.loc S.length) :: ρ2) (S ++ (.ins "Plain" [("rows", R), ("leads", .loc (S.length + 1)), ("coming", .loc (S.length + 2)), ("at", .int 0), ("held", .loc (S.length + 3)), ("cells", .loc (S.length + 4)), ("places", .loc (S.length + 5)), ("gone", .loc (S.length + 6 + shelves.length))] :: (B ++ [.lst []]))) = some (.nx (some (.loc S.length) :: ρ2) (S ++ (.ins "Plain" [("rows", R), ("leads", .loc (S.length + 1)), ("coming", .loc (S.length + 2)), ("at", .int 0), ("held", .loc (S.length + 3)), ("cells", .loc (S.length + 4)), ("places", .loc (S.length + 5)), ("gone", .loc (S.length + 6 + shelves.length)), ("hears", .int 0)] :: (B ++ [.lst []])))) := ini rfl rfl (show (8 : Nat) < 1000 by decide)
  have ec : dSetF AT "done" (dC (.int 0)) (dVar 0) (some (.loc S.length) :: ρ2) (S ++ (.ins "Plain" [("rows", R), ("leads", .loc (S.length + 1)), ("coming", .loc (S.length + 2)), ("at", .int 0), ("held", .loc (S.length + 3)), ("cells", .loc (S.length + 4)), ("places", .loc (S.length + 5)), ("gone", .loc (S.length + 6 + shelves.length)), ("hears", .int 0)] :: (B ++ [.lst []]))) = some (.nx (some (.loc S.length) :: ρ2) (S ++ (.ins "Plain" [("rows", R), ("leads", .loc (S.length + 1)), ("coming", .loc (S.length + 2)), ("at", .int 0), ("held", .loc (S.length + 3)), ("cells", .loc (S.length + 4)), ("places", .loc (S.length + 5)), ("gone", .loc (S.length + 6 + shelves.length)), ("hears", .int 0), ("done", .int 0)] :: (B ++ [.lst []])))) := ini rfl rfl (show (9 : Nat) < 1000 by decide)
  have ed : dSetF AT "result" (dC .non) (dVar 0) (some (.loc S.length) :: ρ2) (S ++ (.ins "Plain" [("rows", R), ("leads", .loc (S.length + 1)), ("coming", .loc (S.length + 2)), ("at", .int 0), ("held", .loc (S.length + 3)), ("cells", .loc (S.length + 4)), ("places", .loc (S.length + 5)), ("gone", .loc (S.length + 6 + shelves.length)), ("hears", .int 0), ("done", .int 0)] :: (B ++ [.lst []]))) = some (.nx (some (.loc S.length) :: ρ2) (S ++ (.ins "Plain" (plF rows (L0 S.length shelves.length) (st0 cells shelves)) :: (B ++ [.lst []])))) := ini rfl rfl (show (10 : Nat) < 1000 by decide)
  refine ⟨.ins "Plain" (plF rows (L0 S.length shelves.length) (st0 cells shelves)) :: (B ++ [.lst []]), ?_, by simp [Bl]; omega, ?_⟩
  · unfold F_Plain_init b_Plain_init runF
    show (match (dSeq _ _ (some (.loc S.length) :: ρ) (S ++ [.ins "Plain" []]) : Option Out) with | some (.rt d S') => some (d, S') | some (.nx _ S') => some (.non, S') | _ => none) = _
    rw [v_seq, e1]
    simp only
    rw [v_seq, e2]
    simp only
    rw [v_seq, e3]
    simp only
    rw [v_seq, e4]
    simp only
    rw [v_seq, e5]
    simp only
    rw [v_seq, e6]
    simp only
    rw [v_seq, v_for, show iSeq (dBin pIx (dVar 1) (dC (.int 0))) (some (.loc S.length) :: ρ) (S ++ [.ins "Plain" [("rows", R), ("leads", .loc (S.length + 1)), ("coming", .loc (S.length + 2)), ("at", .int 0), ("held", .loc (S.length + 3)), ("cells", .loc (S.length + 4))], .lst (leadsD rows), .lst (coming.map .int), .dik [] [], .dik [] []]) = some (cells.map cellD, S ++ [.ins "Plain" [("rows", R), ("leads", .loc (S.length + 1)), ("coming", .loc (S.length + 2)), ("at", .int 0), ("held", .loc (S.length + 3)), ("cells", .loc (S.length + 4))], .lst (leadsD rows), .lst (coming.map .int), .dik [] [], .dik [] []]) from rfl]
    simp only
    rw [e7]
    simp only
    rw [v_seq, e8]
    simp only
    rw [v_seq, v_for, show iSeq (dBin pIx (dVar 1) (dC (.int 1))) (some (.loc S.length) :: ρ1) (S ++ [.ins "Plain" [("rows", R), ("leads", .loc (S.length + 1)), ("coming", .loc (S.length + 2)), ("at", .int 0), ("held", .loc (S.length + 3)), ("cells", .loc (S.length + 4)), ("places", .loc (S.length + 5))], .lst (leadsD rows), .lst (coming.map .int), .dik [] [], .dik (st0 cells shelves).ck ((st0 cells shelves).cv.map .int), .dik [] []]) = some (shelves.map shelfD, S ++ [.ins "Plain" [("rows", R), ("leads", .loc (S.length + 1)), ("coming", .loc (S.length + 2)), ("at", .int 0), ("held", .loc (S.length + 3)), ("cells", .loc (S.length + 4)), ("places", .loc (S.length + 5))], .lst (leadsD rows), .lst (coming.map .int), .dik [] [], .dik (st0 cells shelves).ck ((st0 cells shelves).cv.map .int), .dik [] []]) from rfl]
    simp only
    rw [e9]
    simp only
    rw [v_seq, ea]
    simp only
    rw [v_seq, eb]
    simp only
    rw [v_seq, ec]
    simp only
    rw [ed]
  · refine ⟨get_off (k := 0), get_off (k := 1), get_off (k := 2), get_off (k := 3), get_off (k := 4), get_off (k := 5), ?_, fun i l hl => ?_, by simp [L0, st0], ?_, by simp [st0], L0_nd _ _⟩
    · show (S ++ _)[S.length + 6 + shelves.length]? = _
      rw [Nat.add_assoc, get_off, show 6 + shelves.length = (5 + shelves.length) + 1 by omega, List.getElem?_cons_succ, List.getElem?_append_right (by rw [Bl]; exact Nat.le_refl _), Bl, Nat.sub_self] <;> rfl
    · have hl' : (shelves.map fun c => noughts c.2.1)[i]? = some l := hl
      rw [List.getElem?_map] at hl'
      cases hc' : shelves[i]? with
      | none =>
        rw [hc'] at hl'
        cases hl'
      | some c =>
        rw [hc'] at hl'
        cases hl'
        have hlt := (List.getElem?_eq_some_iff.mp hc').1
        refine ⟨S.length + 6 + i, ?_, ?_⟩
        · show (List.range' (S.length + 6) shelves.length)[i]? = _
          rw [List.getElem?_range' hlt, Nat.one_mul]
        · rw [Nat.add_assoc, get_off, show 6 + i = (5 + i) + 1 by omega, List.getElem?_cons_succ, List.getElem?_append_left (by rw [Bl]; omega)]
          show ([_, _, _, _, _] ++ _)[5 + i]? = _
          rw [List.getElem?_append_right (by simp), show 5 + i - [Cell.lst (leadsD rows), .lst (coming.map .int), .dik [] [], .dik (st0 cells shelves).ck ((st0 cells shelves).cv.map .int), .dik (st0 cells shelves).sk ((List.range' (S.length + 6) shelves.length).map .loc)].length = i by simp, List.getElem?_map, hc'] <;> rfl
    · show (shelves.map fun c => (Sum.inr c.1 : Key)).Nodup
      have : (shelves.map fun c => (Sum.inr c.1 : Key)) = (shelves.map (·.1)).map Sum.inr := by simp
      rw [this]
      exact List.Pairwise.map _ (fun a b h q => h (Sum.inr.inj q)) hs
end Lk76

namespace Lk76
open PySem PySem.Spec PyProof.Rows L2 Dn
theorem at_cell {ns : List Int} {k : Nat} : pureOf F_law_cell_at [.lst .ext (ns.map DV.int), .int k] = some (.int (ns.getD k 0)) := by
  refine pureOf_of (S' := []) ?_ rfl
  by_cases h : k < ns.length
  · have h2 : (k : Int) < ns.length := by omega
    have e : (ns.map DV.int)[k]? = some (.int (ns.getD k 0)) := by
      rw [List.getElem?_map, List.getElem?_eq_getElem h, List.getD_eq_getElem?_getD, List.getElem?_eq_getElem h] <;> rfl
    simp [F_law_cell_at, b_law_cell_at, runF, pLen, asL, h2, Dn.ix_seq (atD_nat e)]
  · have h2 : ¬ (k : Int) < ns.length := by omega
    simp [F_law_cell_at, b_law_cell_at, runF, pLen, asL, h2, h]
/-! ### values -/
def vb (n : Int) : Int := if n % 3 = 0 then n / 3 % 4 else if n % 3 = 1 then 2 ^ 40 - 1 - n / 3 % 4 else n / 3 * 1664525 % 2 ^ 40
theorem vb_ok (n : Int) : 0 ≤ vb n ∧ vb n < 2 ^ 40 := by
  unfold vb
  split
  · omega
  · split <;> omega
theorem p40 {S : Sto} : pPow (.int 2) (.int 40) S = some (.int (2 ^ 40), S) := v_powI (b := 40) (by decide) (by decide)
theorem vb_eq (n : Int) : pureOf F_law_value_by [.int n] = some (.int (vb n)) := by
  refine pureOf_of (S' := []) ?_ rfl
  unfold vb
  have m : ∀ {S : Sto}, pMul (.int (n / 3)) (.int 1664525) S = some (.int (n / 3 * 1664525), S) := v_mulI (by decide)
  by_cases q : n % 3 = 0
  · simp [F_law_value_by, b_law_value_by, runF, v_modI, v_divI, q]
  · by_cases q1 : n % 3 = 1
    · simp [F_law_value_by, b_law_value_by, runF, v_modI, v_divI, q1, p40]
    · simp [F_law_value_by, b_law_value_by, runF, v_modI, v_divI, q, q1, p40, m]
/-! ### names -/
def commonL (c : Int) : List Nat := (List.range (c % 6).toNat).map fun (k : Nat) => 97 + ((c / 37 + 11 * (k : Int) * (c % 2)) % 26).toNat
def nmK (c : Int) (k : Nat) : Str := cutS (txt (commonL c)) none (some (c / 6 % (c % 6 + 1))) ++ one1 (97 + ((c / 42 + 5 * (k : Int)) % 26).toNat) ++ cutS (txt (commonL c)) (some (c / 6 % (c % 6 + 1))) none
theorem names_eq (c : Int) (n : Nat) (hn : n ≤ 1000) : pureOf F_law_names [.int c, .int n] = some (.lst .own ((List.range n).map fun k => .str (nmK c k))) := by
  have hp : plain (.lst .own ((List.range n).map fun k => DV.str (nmK c k))) = true := by
    rw [plain_own]
    exact plainL_iff.mpr fun d h => by
      obtain ⟨k, _, rfl⟩ := List.mem_map.mp h
      rfl
  refine pureOf_of (S' := []) ?_ hp
  have cl : (commonL c).length < 6 := by
    unfold commonL
    rw [List.length_map, List.length_range]
    omega
  have h1 : dLc (iRange1 (aCons (dVar 3) aNil)) (gSet 6) (dC (.bl true)) (dBin pIx (dVar 2) (dBin pMod (dBin pAdd (dBin pDiv (dVar 0) (dC (.int 37))) (dBin pMul (dBin pMul (dC (.int 11)) (dVar 6)) (dBin pMod (dVar 0) (dC (.int 2))))) (dC (.int 26)))) [6]
      [some (.int c), some (.int n), some (.str "abcdefghijklmnopqrstuvwxyz"), some (.int (c % 6)), some (.int (c / 6 % (c % 6 + 1))), none, none] [] = some (.lst .own ((commonL c).map fun c => .str (one1 c)), []) := by
    have hr : iRange1 (aCons (dVar 3) aNil) [some (.int c), some (.int n), some (.str "abcdefghijklmnopqrstuvwxyz"), some (.int (c % 6)), some (.int (c / 6 % (c % 6 + 1))), none, none] [] = some (rgD 0 (c % 6).toNat, []) := by
      unfold iRange1
      simp
      omega
    refine (dLc_of hr (lcL_range (h := fun k => .str (one1 (97 + ((c / 37 + 11 * (k : Int) * (c % 2)) % 26).toNat))) fun k hk => ?_) (size_ok ?_)).trans ?_
    · refine ⟨_, rfl, rfl, ?_⟩
      have m1 : ∀ {S : Sto}, pMul (.int 11) (.int (k : Int)) S = some (.int (11 * (k : Int)), S) := v_mulIl (by omega)
      have m2 : ∀ {S : Sto}, pMul (.int (11 * (k : Int))) (.int (c % 2)) S = some (.int (11 * (k : Int) * (c % 2)), S) := v_mulI (by omega)
      simp [m1, m2, v_modI, v_divI]
      rw [abc_ix (by omega) (by omega)] <;> rfl
    · rw [List.length_map, List.length_range]
      omega
    · unfold commonL
      rw [List.map_map] <;> rfl
  have h2 := join_signs h1 (by omega)
  have h3 : dLc (iRange1 (aCons (dVar 1) aNil)) (gSet 6) (dC (.bl true)) (dBin pAdd (dBin pAdd (dSl pSl (dVar 5) oNone (oSome (dVar 4))) (dBin pIx (dVar 2) (dBin pMod (dBin pAdd (dBin pDiv (dVar 0) (dC (.int 42))) (dBin pMul (dC (.int 5)) (dVar 6))) (dC (.int 26))))) (dSl pSl (dVar 5) (oSome (dVar 4)) oNone)) [6]
      [some (.int c), some (.int n), some (.str "abcdefghijklmnopqrstuvwxyz"), some (.int (c % 6)), some (.int (c / 6 % (c % 6 + 1))), some (.str (txt (commonL c))), none] [] = some (.lst .own ((List.range n).map fun k => .str (nmK c k)), []) := by
    have hr : iRange1 (aCons (dVar 1) aNil) [some (.int c), some (.int n), some (.str "abcdefghijklmnopqrstuvwxyz"), some (.int (c % 6)), some (.int (c / 6 % (c % 6 + 1))), some (.str (txt (commonL c))), none] [] = some (rgD 0 n, []) := by
      unfold iRange1
      simp
      omega
    refine dLc_of hr (lcL_range fun k hk => ?_) (size_ok ?_)
    · refine ⟨_, rfl, rfl, ?_⟩
      have m1 : ∀ {S : Sto}, pMul (.int 5) (.int (k : Int)) S = some (.int (5 * (k : Int)), S) := v_mulIl (by omega)
      have l0 := txt_len (commonL c)
      have l1 := cutS_len (txt (commonL c)) none (some (c / 6 % (c % 6 + 1)))
      have l2 := cutS_len (txt (commonL c)) (some (c / 6 % (c % 6 + 1))) none
      have lo : ∀ z, (one1 z).length = 1 := fun z => rfl
      have e1 : ∀ {S : Sto}, pIx (.str "abcdefghijklmnopqrstuvwxyz") (.int ((c / 42 + 5 * (k : Int)) % 26)) S = some (.str (one1 (97 + ((c / 42 + 5 * (k : Int)) % 26).toNat)), S) := fun {S} => abc_ix (by omega) (by omega)
      have z0 : (txt (commonL c)).length ≤ 16777216 := by omega
      simp [m1, v_modI, v_divI, e1, z0]
      rw [if_pos (by rw [lo]; omega)]
      simp
      exact ⟨by rw [app_len, lo]; omega, rfl⟩
    · rw [List.length_map, List.length_range]
      omega
  have pm : ∀ {S : Sto}, pMod (.int (c / 6)) (.int (c % 6 + 1)) S = some (.int (c / 6 % (c % 6 + 1)), S) := v_modI (by omega)
  unfold F_law_names b_law_names runF
  simp [v_modI, v_divI, pm]
  rw [h2]
  simp [h3]
/-! ### numbers by a cell -/
theorem stream_eq (c : Int) (n : Nat) (hn : n ≤ 100000) : ∃ xs : List Int, xs.length = n ∧ (∀ x ∈ xs, 0 ≤ x) ∧ pureOf F_law_stream [.int c, .int n] = some (.lst .own (xs.map .int)) := by
  have hr : iRange1 (aCons (dBin pAdd (dVar 1) (dC (.int 1))) aNil) [some (.int c), some (.int n), some (.loc 0), some (.int (c % 2147483629 + 69621)), none] [.lst []] = some (rgD 0 (n + 1), [.lst []]) := by
    unfold iRange1
    simp
    omega
  obtain ⟨ρ', S', e, xs, y, l, hx, h0, hy, rfl, rfl⟩ := forL_inv (g := gSet 4) (body := (dSeq (dSet 3 (dBin pMod (dBin pAdd (dBin pAdd (dBin pMul (dVar 3) (dVar 3)) (dBin pMul (dC (.int 16807)) (dVar 3))) (dVar 4)) (dC (.int 2147483629)))) (dExpr (dMt pAppend (dVar 2) (aCons (dVar 3) aNil)))))
    (I := fun k ρ S => ∃ (xs : List Int) (y : Int) (l : Option DV), xs.length = k ∧ (∀ x ∈ xs, 0 ≤ x) ∧ (0 ≤ y ∧ y < 2147560000) ∧ ρ = [some (.int c), some (.int n), some (.loc 0), some (.int y), l] ∧ S = [.lst (xs.map .int)]) (ds := rgD 0 (n + 1)) (k := 0)
    (ρ := [some (.int c), some (.int n), some (.loc 0), some (.int (c % 2147483629 + 69621)), none]) (S := [.lst []]) ⟨[], _, none, rfl, by simp, by omega, rfl, rfl⟩ (fun i d ρ S hd hi => by
      obtain ⟨xs, y, l, hx, h0, hy, rfl, rfl⟩ := hi
      obtain ⟨k, hk, rfl⟩ := mem_rgD (List.mem_of_getElem? hd)
      have hlen : i < n + 1 := by
        have := (List.getElem?_eq_some_iff.mp hd).1
        rwa [len_rgD] at this
      have m1 : ∀ {S : Sto}, pMul (.int y) (.int y) S = some (.int (y * y), S) := v_mulI (by omega)
      have m2 : ∀ {S : Sto}, pMul (.int 16807) (.int y) S = some (.int (16807 * y), S) := v_mulI (by omega)
      have hz : (xs.map DV.int).length < 16777216 := by
        rw [List.length_map]
        omega
      have ap : ∀ z : DV, pAppend (.loc 0) [z] [.lst (xs.map DV.int)] = some (.non, [.lst (xs.map DV.int ++ [z])]) := fun z => app_loc rfl hz
      refine ⟨_, _, _, _, rfl, .inl ?_, xs ++ [(y * y + 16807 * y + (0 + (k : Int))) % 2147483629], (y * y + 16807 * y + (0 + (k : Int))) % 2147483629, some (.int (0 + (k : Nat))), by simp [hx], ?_, by omega, rfl, by rw [List.map_append] <;> rfl⟩
      · simp [m1, m2, v_modI, asL, ap]
      · intro x hx
        rcases List.mem_append.mp hx with h | h
        · exact h0 x h
        · rw [List.mem_singleton.mp h]
          omega)
  rw [Nat.zero_add, len_rgD] at hx
  have hd : Dn.cutD (xs.map DV.int) (some 1) none = (xs.drop 1).map DV.int := by
    unfold Dn.cutD
    rw [show HT.sIx (xs.map DV.int).length 0 (some 1) = 1 by
      show min (1 : Int).toNat (xs.map DV.int).length = 1
      rw [List.length_map, hx]
      simp]
    rw [show HT.sIx (xs.map DV.int).length (xs.map DV.int).length none = (xs.map DV.int).length from rfl]
    rw [← List.map_drop, List.take_of_length_le (by simp)]
  refine ⟨xs.drop 1, by simp [hx], fun x h => h0 x (List.mem_of_mem_drop h), pureOf_of (S' := [.lst (xs.map .int)]) ?_ (by rw [plain_own]; exact plainL_ints)⟩
  have ps : pSl (.loc 0) (some 1) none [.lst (xs.map DV.int)] = some (.lst .own ((xs.drop 1).map DV.int), [.lst (xs.map DV.int)]) := by
    rw [← hd]
    rfl
  unfold F_law_stream b_law_stream runF
  simp [v_modI, hr, e, ps]
end Lk76

namespace Lk76
open PySem PySem.Spec PyProof.Rows L2 Dn
/-! ### what a plain run tells -/
section
variable {S S0 S1 S2 : Sto} {L : PLoc} {rows : List PRow} {coming : List Int} {st : PSt} {ρ : List (Option DV)} {o : DE}
theorem tell0 (A : PlAt S L rows coming st) {m : Str} {F : PL} (hm : (plF rows L st).lookup m = none) (ho : o ρ S0 = some (.loc L.o, S)) : dMeth "Plain" m F [] o aNil ρ S0 = F [.loc L.o] S :=
  meth_at (S := S) (n := L.o) (xs := []) (S2 := S) ho A.o hm rfl
theorem t_ended (A : PlAt S L rows coming st) (ho : o ρ S0 = some (.loc L.o, S)) : dMeth "Plain" "ended" F_Plain_ended [] o aNil ρ S0 = some (.bl st.res.isSome, S) := by
  rw [tell0 A rfl ho]
  exact ended_ok A
theorem t_step (A : PlAt S L rows coming st) (O : st.Ok) (hrows : ∀ r ∈ rows, r.Ok st.ck st.sk) (hd : st.done < 100000) (hck : st.ck.length < 1000) (hat : st.res = none → st.at_ < rows.length) (ho : o ρ S0 = some (.loc L.o, S)) :
    ∃ S2, dMeth "Plain" "step" F_Plain_step [] o aNil ρ S0 = some (.non, S2) ∧ PlAt S2 L rows coming (st.step rows coming) ∧ Fr L S S2 := by
  obtain ⟨S2, e, A2, f⟩ := pn_step_ok A O hrows hd hck hat
  exact ⟨S2, (tell0 A rfl ho).trans e, A2, f⟩
end
end Lk76

namespace Lk76
open PySem PySem.Spec PyProof.Rows L2 Dn
/-! ### the house, read -/
section
variable {Z : Hst} {S S0 : Sto} {L : HL} {h : Hs} {ρ : List (Option DV)} {f : Str} {d : DV} {g e o : DE}
theorem fH (A : AtS S (hsC Z L h)) (hg : g ρ S0 = some (.loc L.o, S)) (hl : (hsF Z L h).lookup f = some d := by rfl) (hT : AT.contains (("House" : Str), f) = true := by rfl) : dFld AT f g ρ S0 = some (d, S) := fld_at hg (hs_o A) hT hl
theorem fS (A : AtS S (hsC Z L h)) (hg : g ρ S0 = some (.loc L.st, S)) (hl : (stF L h).lookup f = some d := by rfl) (hT : AT.contains (("Store" : Str), f) = true := by rfl) : dFld AT f g ρ S0 = some (d, S) := fld_at hg (hs_st A) hT hl
theorem fN (A : AtS S (hsC Z L h)) (hg : g ρ S0 = some (.loc L.ha, S)) (hl : (hnF L h).lookup f = some d := by rfl) (hT : AT.contains (("Hand" : Str), f) = true := by rfl) : dFld AT f g ρ S0 = some (d, S) := fld_at hg (hs_ha A) hT hl
/-- a method of the house, its store, its hand -/
theorem mH {m : Str} {F : PL} {fa : DA} {xs : List DV} {S2 : Sto} {r : Option (DV × Sto)} (A : AtS S (hsC Z L h)) (hg : o ρ S0 = some (.loc L.o, S)) (ha : fa ρ S = some (xs, S2)) (hF : F (.loc L.o :: xs) S2 = r) (hl : (hsF Z L h).lookup m = none := by rfl) : dMeth "House" m F [] o fa ρ S0 = r := (meth_at hg (hs_o A) hl ha).trans hF
theorem mS {m : Str} {F : PL} {fa : DA} {xs : List DV} {S2 : Sto} {r : Option (DV × Sto)} (A : AtS S (hsC Z L h)) (hg : o ρ S0 = some (.loc L.st, S)) (ha : fa ρ S = some (xs, S2)) (hF : F (.loc L.st :: xs) S2 = r) (hl : (stF L h).lookup m = none := by rfl) : dMeth "Store" m F [] o fa ρ S0 = r := (meth_at hg (hs_st A) hl ha).trans hF
theorem mN {m : Str} {F : PL} {fa : DA} {xs : List DV} {S2 : Sto} {r : Option (DV × Sto)} (A : AtS S (hsC Z L h)) (hg : o ρ S0 = some (.loc L.ha, S)) (ha : fa ρ S = some (xs, S2)) (hF : F (.loc L.ha :: xs) S2 = r) (hl : (hnF L h).lookup m = none := by rfl) : dMeth "Hand" m F [] o fa ρ S0 = r := (meth_at hg (hs_ha A) hl ha).trans hF
theorem isD_S {α : Type} {f : α → DV} {l : List (Str × α)} {n : Nat} (hS : S[n]? = some (dkS f l)) : isD S (.loc n) = true := isD_dik hS
theorem held_get (A : AtS S (hsC Z L h)) {x : Str} (ho : o ρ S0 = some (.loc L.o, S)) (ho2 : o ρ S = some (.loc L.o, S)) (he : e ρ S = some (.str x, S)) : dGet2 (dFld AT "held" o) e (dFld AT "dust" o) ρ S0 = some (.int (h.worth (.x x)), S) := by
  rw [get2_at (fH A ho) (isD_S (hs_he A)) he (fH A ho2) (getD_S (hs_he A))]
  show _ = some (DV.int ((agt h.held x).getD h.dust), S)
  cases agt h.held x <;> rfl
theorem worth_ok (A : AtS S (hsC Z L h)) (a : Atm) : F_House_worth [.loc L.o, a.d] S = some (.int (h.worth a), S) := by
  cases a with
  | n i => exact run_rt rfl ((seq_nx (ρ' := [some (.loc L.o), some (.int i)]) (S' := S) (ifS_f (S1 := S) rfl)).trans (ret_of rfl))
  | x s => exact run_rt rfl (seq_rt ((ifS_t (S1 := S) rfl).trans (ret_of (held_get (o := dVar 0) A rfl rfl rfl))))
theorem worth_m (A : AtS S (hsC Z L h)) {a : Atm} (ho : o ρ S = some (.loc L.o, S)) (he : e ρ S = some (a.d, S)) : dMeth "House" "worth" F_House_worth [] o (aCons e aNil) ρ S = some (.int (h.worth a), S) := mH A ho (args1 he) (worth_ok A a)
theorem tw_get (A : AtS S (hsC Z L h)) {n : Str} (hn : ahas Z.twL n = true) (ho : o ρ S = some (.loc L.o, S)) (he : e ρ S = some (.str n, S)) : dBin pIx (dFld AT "twins" o) e ρ S = some (.bl (Z.twin n), S) := by
  refine bin_of (fH A ho) he (ix_dikB ?_)
  refine (lkD_al kS_inj).trans ?_
  unfold Hst.twin
  cases q : agt Z.twL n with
  | none =>
    rw [agt_none.mp q] at hn
    cases hn
  | some b => rfl
theorem size_get (A : AtS S (hsC Z L h)) {n : Str} (hn : Z.ShelfOk n) (ho : o ρ S = some (.loc L.o, S)) (he : e ρ S = some (.str n, S)) : dBin pIx (dFld AT "sizes" o) e ρ S = some (.int (Z.size n), S) := by
  refine bin_of (fH A ho) he (ix_dikB ?_)
  refine (lkD_al kS_inj).trans ?_
  rw [hn.sz]
  rfl
theorem place_ok (A : AtS S (hsC Z L h)) {n : Str} (hn : Z.ShelfOk n) (a : Atm) : F_House_place_of [.loc L.o, .str n, a.d] S = some (.int (h.place Z n a : Nat), S) := by
  rw [(place_lt hn).1]
  exact run_rt rfl (ret_of (modI_of (worth_m (o := dVar 0) A rfl rfl) (size_get (o := dVar 0) A hn rfl rfl) hn.z0))
theorem place_m (A : AtS S (hsC Z L h)) {n : Str} (hn : Z.ShelfOk n) {a : Atm} {e2 : DE} (ho : o ρ S = some (.loc L.o, S)) (he : e ρ S = some (.str n, S)) (he2 : e2 ρ S = some (a.d, S)) : dMeth "House" "place_of" F_House_place_of [] o (aCons e (aCons e2 aNil)) ρ S = some (.int (h.place Z n a : Nat), S) := mH A ho (args2 he he2) (place_ok A hn a)
theorem home_ok (A : AtS S (hsC Z L h)) {N : Nat} (O : h.Ok Z N) {p : Pl} (hp : Z.IsP p) : F_Store_get_home [.loc L.st, .str p.1, .int (p.2 : Nat)] S = some (.int (h.homeV p), S) := by
  refine run_rt rfl (ret_of (bin_of (x := .loc L.hm) (y := plD p) (fS A rfl) rfl (ix_of (asL_ndit (hs_hm A)) ?_)))
  rw [getD_P (hs_hm A), O.home hp]
  rfl
theorem seen_ok (A : AtS S (hsC Z L h)) {N : Nat} (O : h.Ok Z N) {p : Pl} (hp : Z.IsP p) (ht : ahas Z.twL p.1 = true) : F_House_seen [.loc L.o, .str p.1, .int (p.2 : Nat)] S = some (.int (h.seen Z p), S) := by
  let ρ : List (Option DV) := [some (.loc L.o), some (.str p.1), some (.int (p.2 : Nat))]
  have tw := tw_get (o := dVar 0) (e := dVar 1) (ρ := ρ) A ht rfl rfl
  have hm : dMeth "Store" "get_home" F_Store_get_home [] (dFld AT "stays" (dVar 0)) (aCons (dVar 1) (aCons (dVar 2) aNil)) ρ S = some (.int (h.homeV p), S) := mS A (fH A rfl) (args2 rfl rfl) (home_ok A O hp)
  have kp : dPrim pTup (aCons (dVar 1) (aCons (dVar 2) aNil)) ρ S = some (plD p, S) := rfl
  have inl : dBin (pIn false) (dPrim pTup (aCons (dVar 1) (aCons (dVar 2) aNil))) (dFld AT "log" (dVar 0)) ρ S = some (.bl (agt h.log p).isSome, S) := by
    refine (bin_of kp (fH A rfl) (in_of (neg := false) (asL_ndit (hs_lo A)) (getD_P (hs_lo A)))).trans ?_
    cases agt h.log p <;> rfl
  have ret : dSeq dNext (dRet (dMeth "Store" "get_home" F_Store_get_home [] (dFld AT "stays" (dVar 0)) (aCons (dVar 1) (aCons (dVar 2) aNil)))) ρ S = some (.rt (.int (h.homeV p)) S) := (seq_nx rfl).trans (ret_of hm)
  unfold Hs.seen
  cases q : Z.twin p.1 with
  | false =>
    rw [q] at tw
    rw [if_neg (by decide)]
    exact run_rt rfl ((seq_nx ((ifS_f (and_f tw)).trans rfl)).trans (ret_of hm))
  | true =>
    rw [q] at tw
    rw [if_pos rfl]
    cases q2 : agt h.log p with
    | none =>
      rw [q2] at inl
      exact run_rt rfl ((seq_nx ((ifS_f (and_t tw inl)).trans rfl)).trans (ret_of hm))
    | some v =>
      rw [q2] at inl
      refine run_rt rfl (seq_rt ((ifS_t (and_t tw inl)).trans (ret_of (bin_of (fH A rfl) kp (ix_of (asL_ndit (hs_lo A)) ?_)))))
      rw [getD_P (hs_lo A), q2]
      rfl
theorem seen_m (A : AtS S (hsC Z L h)) {N : Nat} (O : h.Ok Z N) {p : Pl} (hp : Z.IsP p) (ht : ahas Z.twL p.1 = true) {e2 : DE} (ho : o ρ S = some (.loc L.o, S)) (he : e ρ S = some (.str p.1, S)) (he2 : e2 ρ S = some (.int (p.2 : Nat), S)) : dMeth "House" "seen" F_House_seen [] o (aCons e (aCons e2 aNil)) ρ S = some (.int (h.seen Z p), S) := mH A ho (args2 he he2) (seen_ok A O hp ht)
/-! ### .. and written -/
theorem settle_ok (A : AtS S (hsC Z L h)) (p : Pl) (v : Int) (hz : h.home.length < 16777216) : ∃ S', F_House_settle [.loc L.o, .str p.1, .int (p.2 : Nat), .int v] S = some (.non, S') ∧ HSt Z S L h S' L { h with home := apt h.home p v } := by
  have hp : F_Store_put [.loc L.st, .str p.1, .int (p.2 : Nat), .int v] S = some (.non, S.set L.hm (dkP intD (apt h.home p v))) :=
    run_nx rfl (sub_of (x := .loc L.hm) (k := plD p) (y := .int v) rfl (fS A rfl) rfl (setI_P (f := intD) (v := v) (hs_hm A) hz))
  exact ⟨_, run_nx rfl (expr_of (mS A (fH A rfl) (args3 rfl rfl rfl) hp)), set_hm A _⟩
theorem written_ok (A : AtS S (hsC Z L h)) {p : Pl} (ht : ahas Z.twL p.1 = true) (v : Int) (hz : h.home.length < 16777216) (lz : h.log.length < 16777216) : ∃ S', F_House_written [.loc L.o, .str p.1, .int (p.2 : Nat), .int v] S = some (.non, S') ∧ HSt Z S L h S' L (h.written Z p v) := by
  let ρ : List (Option DV) := [some (.loc L.o), some (.str p.1), some (.int (p.2 : Nat)), some (.int v)]
  have tw := tw_get (o := dVar 0) (e := dVar 1) (ρ := ρ) A ht rfl rfl
  unfold Hs.written
  cases q : Z.twin p.1 with
  | true =>
    rw [q] at tw
    rw [if_pos rfl]
    exact ⟨_, run_nx rfl ((ifS_t tw).trans (sub_of (x := .loc L.lo) (k := plD p) (y := .int v) rfl (fH A rfl) rfl (setI_P (f := intD) (v := v) (hs_lo A) lz))), set_lo A _⟩
  | false =>
    rw [q] at tw
    rw [if_neg (by decide)]
    obtain ⟨S', e1, T⟩ := settle_ok A p v hz
    exact ⟨S', run_nx rfl ((ifS_f tw).trans (expr_of (mH A rfl (args3 rfl rfl rfl) e1))), T⟩
theorem give_ok (A : AtS S (hsC Z L h)) (v : Int) : ∃ S', F_Store_give [.loc L.st, .int v] S = some (.non, S') ∧ HSt Z S L h S' L { h with fin := some v } :=
  ⟨_, run_nx rfl (setF_at (y := .int v) rfl rfl (hs_st A) rfl (show (5 : Nat) < 1000 by decide)), set_st A h.front (some v)⟩
theorem turn_ok (A : AtS S (hsC Z L h)) : ∃ S', F_Store_turn [.loc L.st] S = some (.non, S') ∧ HSt Z S L h S' L { h with front := !h.front } := by
  have e : dBin pSub (dC (.int 1)) (dFld AT "front" (dVar 0)) [some (.loc L.st)] S = some (.int (frN (!h.front) : Nat), S) := by
    refine (subI_of (a := 1) (b := (frN h.front : Nat)) rfl (fS A rfl)).trans ?_
    cases h.front <;> rfl
  exact ⟨_, run_nx rfl (setF_at e rfl (hs_st A) rfl (show (5 : Nat) < 1000 by decide)), set_st A (!h.front) h.fin⟩
theorem take_ok (A : AtS S (hsC Z L h)) (v : Int) (hz : h.bn.length < 16777216) : ∃ S', F_Hand_take [.loc L.ha, .int (h.says : Nat), .int v] S = some (.non, S') ∧ HSt Z S L h S' L { h.say v with says := h.says } := by
  let ρ : List (Option DV) := [some (.loc L.ha), some (.int (h.says : Nat)), some (.int v)]
  have c1 : dBin (pIn true) (dVar 1) (dFld AT "by_number" (dVar 0)) ρ S = some (.bl (!(agt h.bn h.says).isSome), S) := by
    refine (bin_of (x := .int (h.says : Nat)) rfl (fN A rfl) (in_of (neg := true) (asL_ndik (hs_bn A)) (getD_N (hs_bn A)))).trans ?_
    cases agt h.bn h.says <;> rfl
  unfold Hs.say
  cases q : agt h.bn h.says with
  | none =>
    rw [q] at c1
    exact ⟨_, run_nx rfl ((ifS_t c1).trans (sub_of (x := .loc L.bn) (k := .int (h.says : Nat)) (y := .int v) rfl (fN A rfl) rfl (setI_N (f := intD) (v := v) (hs_bn A) hz))), set_bn A _⟩
  | some u =>
    rw [q] at c1
    have c2 : dBin (pEq true) (dBin pIx (dFld AT "by_number" (dVar 0)) (dVar 1)) (dVar 2) ρ S = some (.bl (!decide (u = v)), S) := by
      refine bin_of (x := .int u) (y := .int v) (bin_of (y := .int (h.says : Nat)) (fN A rfl) rfl (ix_of (asL_ndik (hs_bn A)) ?_)) rfl v_neI
      rw [getD_N (hs_bn A), q]
      rfl
    by_cases z : u = v
    · rw [decide_eq_true z] at c2
      refine ⟨S, run_nx rfl ((ifS_f c1).trans ((ifS_f c2).trans rfl)), ?_⟩
      show HSt Z S L h S L { h with rent := h.rent || !decide (u = v) }
      rw [decide_eq_true z]
      rw [Bool.not_true, Bool.or_false]
      exact HSt.refl A
    · rw [decide_eq_false z] at c2
      refine ⟨_, run_nx rfl ((ifS_f c1).trans ((ifS_t c2).trans (setF_at (y := .bl true) rfl rfl (hs_ha A) rfl (show (2 : Nat) < 1000 by decide)))), ?_⟩
      show HSt Z S L h _ L { h with rent := h.rent || !decide (u = v) }
      rw [decide_eq_false z]
      rw [Bool.not_false, Bool.or_true]
      exact set_rent A true
end
end Lk76

namespace Lk76
open PySem PySem.Spec PyProof.Rows L2 Dn
theorem skp {c : DE} {s t : DS} {ρ : Ev} {S S1 : Sto} (h : c ρ S = some (.bl false, S1)) : dSeq (dIfS c s dNext) t ρ S = t ρ S1 := seq_nx ((ifS_f h).trans rfl)
theorem hit {c : DE} {s t : DS} {ρ : Ev} {S S1 S' : Sto} {d : DV} (h : c ρ S = some (.bl true, S1)) (hr : s ρ S1 = some (.rt d S')) : dSeq (dIfS c s dNext) t ρ S = some (.rt d S') := seq_rt ((ifS_t h).trans hr)
theorem hvalue {s : Str} {a b : Int} (ha : In40 a) (hb : In40 b) : pureOf F_value [.str s, .int a, .int b] = some (.int (valS s a b)) := by
  refine pureOf_of (S' := []) ?_ rfl
  obtain ⟨b0, b1⟩ := hb
  have pm : ∀ {S : Sto} {z : Int}, pMod (.int z) (.int 1099511627776) S = some (.int (z % 1099511627776), S) := v_modI (by decide)
  have pl : ∀ {S : Sto}, pMul (.int a) (.int b) S = some (.int (a * b), S) := v_mulI (by omega)
  unfold F_value b_value runF valS
  by_cases q1 : s = "+"
  · subst q1
    simp [pm]
  by_cases q2 : s = "-"
  · subst q2
    simp [pm]
  by_cases q3 : s = "*"
  · subst q3
    simp [pm, pl]
  by_cases q4 : s = "<"
  · subst q4
    simp
  by_cases q5 : s = "="
  · subst q5
    simp
  by_cases q6 : s = "&"
  · subst q6
    simp
  by_cases q7 : s = "|"
  · subst q7
    simp
  simp [q1, q2, q3, q4, q5, q6, q7]
def brV (Z : Hst) (h : Hs) : PRow → Int
  | .copy _ a => h.worth a
  | .op _ s a b => valS s (h.worth a) (h.worth b)
  | .load _ c => h.seen Z (c, 0)
  | .take _ s a => h.seen Z (s, h.place Z s a)
  | .hear _ => Z.coming.getD h.hears 0
  | _ => 0
def brH (h : Hs) : PRow → Nat
  | .hear _ => h.hears + 1
  | _ => h.hears
def setsB : PRow → Option Str
  | .copy x _ => some x
  | .op x _ _ _ => some x
  | .load x _ => some x
  | .take x _ _ => some x
  | .hear x => some x
  | _ => none
section
variable {Z : Hst} {S S0 : Sto} {L : HL} {h : Hs} {ρ : List (Option DV)}
theorem aug_hears (A : AtS S (hsC Z L h)) {ρ : List (Option DV)} : ∃ S1, dAugF AT "hears" pAddI (dC (.int 1)) (dVar 0) (some (.loc L.o) :: ρ) S = some (.nx (some (.loc L.o) :: ρ) S1) ∧ HSt Z S L h S1 L { h with hears := h.hears + 1 } :=
  ⟨_, augF_at (x := .int h.hears) rfl (hs_o A) rfl rfl rfl rfl (hs_o A) (show (15 : Nat) < 1000 by decide), set_hs A h.dust h.done (h.hears + 1) h.says⟩
theorem aug_done (A : AtS S (hsC Z L h)) {ρ : List (Option DV)} : ∃ S1, dAugF AT "done" pAddI (dC (.int 1)) (dVar 0) (some (.loc L.o) :: ρ) S = some (.nx (some (.loc L.o) :: ρ) S1) ∧ HSt Z S L h S1 L { h with done := h.done + 1 } :=
  ⟨_, augF_at (x := .int h.done) rfl (hs_o A) rfl rfl rfl rfl (hs_o A) (show (15 : Nat) < 1000 by decide), set_hs A h.dust (h.done + 1) h.hears h.says⟩
theorem aug_says (A : AtS S (hsC Z L h)) {ρ : List (Option DV)} : ∃ S1, dAugF AT "says" pAddI (dC (.int 1)) (dVar 0) (some (.loc L.o) :: ρ) S = some (.nx (some (.loc L.o) :: ρ) S1) ∧ HSt Z S L h S1 L { h with says := h.says + 1 } :=
  ⟨_, augF_at (x := .int h.says) rfl (hs_o A) rfl rfl rfl rfl (hs_o A) (show (15 : Nat) < 1000 by decide), set_hs A h.dust h.done h.hears (h.says + 1)⟩
theorem len_locI {n : Nat} {l : List Int} (h : S[n]? = some (.lst (l.map .int))) : pLen [.loc n] S = some (.int (l.length : Nat), S) := by
  show (match asL S (.loc n) with | some ds => some (DV.int ds.length, S) | none => _) = _
  rw [asL_loc h]
  simp only [List.length_map]
theorem brought_ok (A : AtS S (hsC Z L h)) {N : Nat} (O : h.Ok Z N) {r : PRow} (hr : Z.RowOk r) {x : Str} (hx : setsB r = some x) : ∃ S', F_House_brought [.loc L.o, r.d] S = some (.int (brV Z h r), S') ∧ HSt Z S L h S' L { h with hears := brH h r } := by
  cases r with
  | copy x a => exact ⟨S, run_rt rfl (hit (S1 := S) (bin_of (bin_of rfl rfl rfl) rfl rfl) (ret_of (worth_m (o := dVar 0) A rfl rfl))), HSt.refl A⟩
  | op x s a b =>
    refine ⟨S, run_rt rfl ((skp (S1 := S) (bin_of (bin_of rfl rfl rfl) rfl rfl)).trans (hit (S1 := S) (bin_of (bin_of rfl rfl rfl) rfl rfl) (ret_of (callPP (args3 (x := .str s) rfl (worth_m (o := dVar 0) (a := a) A rfl rfl) (worth_m (o := dVar 0) (a := b) A rfl rfl)) rfl (hvalue (O.worth hr.2.1) (O.worth hr.2.2)))))), HSt.refl A⟩
  | load x c =>
    exact ⟨S, run_rt rfl ((skp (S1 := S) (bin_of (bin_of rfl rfl rfl) rfl rfl)).trans ((skp (S1 := S) (bin_of (bin_of rfl rfl rfl) rfl rfl)).trans (hit (S1 := S) (bin_of (bin_of rfl rfl rfl) rfl rfl) (ret_of (seen_m (o := dVar 0) (p := (c, 0)) A O hr.pl hr.tw rfl rfl rfl))))), HSt.refl A⟩
  | take x s a =>
    obtain ⟨h1, h2⟩ := hr
    exact ⟨S, run_rt rfl ((skp (S1 := S) (bin_of (bin_of rfl rfl rfl) rfl rfl)).trans ((skp (S1 := S) (bin_of (bin_of rfl rfl rfl) rfl rfl)).trans ((skp (S1 := S) (bin_of (bin_of rfl rfl rfl) rfl rfl)).trans (hit (S1 := S) (bin_of (bin_of rfl rfl rfl) rfl rfl) (ret_of (seen_m (o := dVar 0) (p := (s, h.place Z s a)) A O (h1.pl _ (place_lt h1).2) h1.tw rfl rfl (place_m (o := dVar 0) (a := a) A h1 rfl rfl rfl))))))), HSt.refl A⟩
  | hear x =>
    let ρ : List (Option DV) := [some (PRow.hear x).d]
    obtain ⟨S1, e1, T1⟩ := aug_hears (ρ := ρ) A
    have A1 := T1.1.at_
    have lc : dPrim pLen (aCons (dFld AT "coming" (dVar 0)) aNil) (some (.loc L.o) :: ρ) S1 = some (.int (Z.coming.length : Nat), S1) := prim_of (args1 (fH A1 rfl)) (len_locI (hs_co A1))
    have fh : dFld AT "hears" (dVar 0) (some (.loc L.o) :: ρ) S1 = some (.int ((h.hears + 1 : Nat) : Int), S1) := fH A1 rfl
    have c : dBin pGt (dFld AT "hears" (dVar 0)) (dPrim pLen (aCons (dFld AT "coming" (dVar 0)) aNil)) (some (.loc L.o) :: ρ) S1 = some (.bl (decide (Z.coming.length ≤ h.hears)), S1) := by
      refine (bin_of fh lc Dn.v_gt).trans ?_
      congr 3
      exact decide_eq_decide.mpr (by omega)
    have pre : ∀ {o : Option Out}, dSeq (dIfS (dBin pGt (dFld AT "hears" (dVar 0)) (dPrim pLen (aCons (dFld AT "coming" (dVar 0)) aNil))) (dRet (dC (.int 0))) dNext) (dRet (dBin pIx (dFld AT "coming" (dVar 0)) (dBin pSub (dFld AT "hears" (dVar 0)) (dC (.int 1))))) (some (.loc L.o) :: ρ) S1 = o → b_House_brought (some (.loc L.o) :: ρ) S = o := fun {o} ho =>
      (skp (S1 := S) (bin_of (bin_of rfl rfl rfl) rfl rfl)).trans ((skp (S1 := S) (bin_of (bin_of rfl rfl rfl) rfl rfl)).trans ((skp (S1 := S) (bin_of (bin_of rfl rfl rfl) rfl rfl)).trans ((skp (S1 := S) (bin_of (bin_of rfl rfl rfl) rfl rfl)).trans ((seq_nx e1).trans ho))))
    refine ⟨S1, ?_, T1⟩
    by_cases q : Z.coming.length ≤ h.hears
    · rw [decide_eq_true q] at c
      have e0 : brV Z h (.hear x) = 0 := by
        show Z.coming.getD h.hears 0 = 0
        rw [List.getD_eq_getElem?_getD, List.getElem?_eq_none q]
        rfl
      rw [e0]
      exact run_rt rfl (pre (hit c (ret_of rfl)))
    · rw [decide_eq_false q] at c
      refine run_rt rfl (pre ((skp c).trans (ret_of (bin_of (x := .loc L.co) (y := .int (h.hears : Nat)) (fH A1 rfl) ?_ (ix_loc (hs_co A1) (atD_nat ?_))))))
      · refine (subI_of fh (b := 1) rfl).trans ?_
        congr 3
        omega
      · rw [List.getElem?_map, List.getElem?_eq_getElem (by omega)]
        show some (DV.int _) = some (DV.int (Z.coming.getD h.hears 0))
        rw [List.getD_eq_getElem?_getD, List.getElem?_eq_getElem (by omega)]
        rfl
  | _ => cases hx
theorem row_sets {r : PRow} {x : Str} (hx : setsB r = some x) : h.row Z r = { h.out x (brV Z h r) with hears := brH h r } := by
  cases r with
  | copy y a => cases hx; rfl
  | op y s a b => cases hx; rfl
  | load y c => cases hx; rfl
  | take y s a => cases hx; rfl
  | hear y => cases hx; rfl
  | _ => cases hx
theorem led_get (A : AtS S (hsC Z L h)) {i w t : Nat} {r : PRow} (hr : Z.rows[i]? = some r) (ht : (r.led i)[w]? = some t) {ρ : List (Option DV)} {e1 e2 : DE} (h1 : e1 (some (.loc L.o) :: ρ) S = some (.int (i : Nat), S)) (h2 : e2 (some (.loc L.o) :: ρ) S = some (.int (w : Nat), S)) :
    dBin pIx (dBin pIx (dFld AT "leads" (dVar 0)) e1) e2 (some (.loc L.o) :: ρ) S = some (.int (t : Nat), S) := by
  refine bin_of (x := ledD i r) (bin_of (x := .loc L.le) (fH A rfl) h1 (ix_loc (hs_le A) (atD_nat ?_))) h2 (ix_tup (atD_nat ?_))
  · unfold leadsD
    rw [List.getElem?_mapIdx, hr]
    rfl
  · rw [List.getElem?_map, ht]
    rfl
theorem do_row_ok (A : AtS S (hsC Z L h)) {N : Nat} (O : h.Ok Z N) (hN : N ≤ 1000000) (K : Z.Ok) {i : Nat} {r : PRow} (hr : Z.rows[i]? = some r) :
    ∃ S', F_House_do_row [.loc L.o, .int (i : Nat)] S = some (if isEnd r = true then .non else .int (h.next i r : Nat), S') ∧ HSt Z S L h S' L (Hs.row Z { h with done := h.done + 1 } r) := by
  have ok := K.r r (List.mem_of_getElem? hr)
  let N3 (x2 x3 : Option DV) : List (Option DV) := [some (.int (i : Nat)), x2, x3]
  let ρ (x2 x3 : Option DV) : List (Option DV) := some (.loc L.o) :: N3 x2 x3
  have s2 : dSet 2 (dBin pIx (dBin pIx (dFld AT "program" (dVar 0)) (dC (.int 2))) (dVar 1)) (ρ none none) S = some (.nx (ρ (some r.d) none) S) := by
    refine set_of (bin_of (x := .tup (Z.rows.map PRow.d)) (y := .int (i : Nat)) (bin_of (x := Z.PD) (y := .int 2) (fH A rfl) rfl rfl) rfl (ix_tup (atD_nat ?_)))
    rw [List.getElem?_map, hr]
    rfl
  obtain ⟨S1, e1, T1⟩ := aug_done (ρ := N3 (some r.d) none) A
  have A1 := T1.1.at_
  have O1 := O.num (h.done + 1) h.hears h.says h.fin
  let h1 : Hs := { h with done := h.done + 1 }
  have O1 : h1.Ok Z N := O1
  let ρ3 := ρ (some r.d) (some (.int ((0 : Nat) : Int)))
  have s4 : dSet 3 (dC (.int 0)) (ρ (some r.d) none) S1 = some (.nx ρ3 S1) := rfl
  have w1 : ∀ a : Atm, h1.worth a = h.worth a := fun a => by cases a <;> rfl
  have fin : ∀ {S2 : Sto} {h2 : Hs} {w t : Nat}, AtS S2 (hsC Z L h2) → (r.led i)[w]? = some t → dRet (dBin pIx (dBin pIx (dFld AT "leads" (dVar 0)) (dVar 1)) (dVar 3)) (ρ (some r.d) (some (.int (w : Nat)))) S2 = some (.rt (.int (t : Nat)) S2) := fun {S2 h2 w t} A2 ht => ret_of (led_get (i := i) A2 hr ht rfl rfl)
  have hz : h1.home.length < 16777216 := by
    have h1 : h.home.length = Z.homeK.length := by rw [← O.hk, List.length_map]
    have h2 : Z.homeK.length ≤ 1000 := by
      have := K.hz
      unfold Hst.homeK
      rw [List.length_map]
      exact this
    show h.home.length < _
    omega
  have lz : h1.log.length < 16777216 := Nat.lt_of_le_of_lt O.lz (by omega)
  have bz : h1.bn.length < 16777216 := Nat.lt_of_le_of_lt O.bz (by omega)
  have ez : h1.held.length < 16777216 := Nat.lt_of_le_of_lt O.hz (by omega)
  -- a row that sets a box
  have sets : ∀ x, setsB r = some x → (∀ {S2 : Sto}, dBin pIx (dVar 2) (dC (.int 1)) (ρ (some r.d) (some (.int ((0 : Nat) : Int)))) S2 = some (.str x, S2)) → ∃ S', dSub (dMeth "House" "brought" F_House_brought [] (dVar 0) (aCons (dVar 2) aNil)) (dFld AT "held" (dVar 0)) (dBin pIx (dVar 2) (dC (.int 1))) ρ3 S1 = some (.nx ρ3 S') ∧ HSt Z S1 L h1 S' L (h1.row Z r) := fun x hx hk => by
    obtain ⟨S2, e2, T2⟩ := brought_ok A1 O1 ok hx
    have A2 := T2.1.at_
    refine ⟨_, sub_of (mH A1 rfl (args1 rfl) e2) (fH A2 rfl) hk (setI_S (f := intD) (v := brV Z h1 r) (hs_he A2) ez), ?_⟩
    rw [row_sets hx]
    exact T2.trans (set_he A2 _)
  have out : ∀ {S2 : Sto} {h2 : Hs} {d : DV}, HSt Z S1 L h1 S2 L h2 → b_House_do_row (ρ none none) S = some (.rt d S2) → F_House_do_row [.loc L.o, .int (i : Nat)] S = some (d, S2) ∧ HSt Z S L h S2 L h2 := fun {S2 h2 d} T e => ⟨run_rt rfl e, T1.trans T⟩
  cases r with
  | endr a =>
    obtain ⟨S2, e2, T2⟩ := give_ok A1 (h1.worth a)
    obtain ⟨z1, z2⟩ := out (d := .non) T2 ((seq_nx s2).trans ((seq_nx e1).trans ((seq_nx s4).trans (hit (S1 := S1) (bin_of (bin_of rfl rfl rfl) rfl rfl) ((seq_nx (expr_of (mS A1 (fH A1 rfl) (args1 (worth_m (o := dVar 0) (a := a) A1 rfl rfl)) e2))).trans (ret_of rfl))))))
    exact ⟨S2, z1, z2⟩
  | ifr a n =>
    have iw : ∃ w : Nat, dPrim pInt (aCons (dBin (pEq false) (dMeth "House" "worth" F_House_worth [] (dVar 0) (aCons (dBin pIx (dVar 2) (dC (.int 1))) aNil)) (dC (.int 0))) aNil) ρ3 S1 = some (.int (w : Nat), S1) ∧ ((PRow.ifr a n).led i)[w]? = some (h.next i (.ifr a n)) := by
      have e : dPrim pInt (aCons (dBin (pEq false) (dMeth "House" "worth" F_House_worth [] (dVar 0) (aCons (dBin pIx (dVar 2) (dC (.int 1))) aNil)) (dC (.int 0))) aNil) ρ3 S1 = some (.int (if decide (h1.worth a = 0) = true then 1 else 0), S1) := prim_of (args1 (bin_of (worth_m (o := dVar 0) (a := a) A1 rfl rfl) rfl Dn.v_eqI)) rfl
      by_cases q : h1.worth a = 0
      · rw [decide_eq_true q] at e
        refine ⟨1, e, ?_⟩
        show some (i + 1) = some (if h.worth a = 0 then i + 1 else n)
        rw [if_pos (by rw [← w1]; exact q)]
      · rw [decide_eq_false q] at e
        refine ⟨0, e, ?_⟩
        show some n = some (if h.worth a = 0 then i + 1 else n)
        rw [if_neg (by rw [← w1]; exact q)]
    obtain ⟨w, e, hw⟩ := iw
    obtain ⟨z1, z2⟩ := out (HSt.refl A1) ((seq_nx s2).trans ((seq_nx e1).trans ((seq_nx s4).trans ((skp (S1 := S1) (bin_of (bin_of rfl rfl rfl) rfl rfl)).trans ((seq_nx ((ifS_t (S1 := S1) (bin_of (bin_of rfl rfl rfl) rfl rfl)).trans (set_of e))).trans (fin A1 hw))))))
    exact ⟨S1, z1, z2⟩
  | store c a =>
    obtain ⟨S2, e2, T2⟩ := written_ok (p := (c, 0)) A1 ok.1.tw (h1.worth a) hz lz
    obtain ⟨z1, z2⟩ := out T2 ((seq_nx s2).trans ((seq_nx e1).trans ((seq_nx s4).trans ((skp (S1 := S1) (bin_of (bin_of rfl rfl rfl) rfl rfl)).trans ((seq_nx ((ifS_f (S1 := S1) (bin_of (bin_of rfl rfl rfl) rfl rfl)).trans ((ifS_t (S1 := S1) (bin_of (bin_of rfl rfl rfl) rfl rfl)).trans (expr_of (mH A1 rfl (args3 rfl rfl (worth_m (o := dVar 0) (a := a) A1 rfl rfl)) e2))))).trans (fin (w := 0) (t := i + 1) T2.1.at_ rfl))))))
    exact ⟨S2, z1, z2⟩
  | lay s a b =>
    obtain ⟨o1, o2, o3⟩ := ok
    obtain ⟨S2, e2, T2⟩ := written_ok (p := (s, h1.place Z s a)) A1 o1.tw (h1.worth b) hz lz
    obtain ⟨z1, z2⟩ := out T2 ((seq_nx s2).trans ((seq_nx e1).trans ((seq_nx s4).trans ((skp (S1 := S1) (bin_of (bin_of rfl rfl rfl) rfl rfl)).trans ((seq_nx ((ifS_f (S1 := S1) (bin_of (bin_of rfl rfl rfl) rfl rfl)).trans ((ifS_f (S1 := S1) (bin_of (bin_of rfl rfl rfl) rfl rfl)).trans ((ifS_t (S1 := S1) (bin_of (bin_of rfl rfl rfl) rfl rfl)).trans (expr_of (mH A1 rfl (args3 rfl (place_m (o := dVar 0) (a := a) A1 o1 rfl rfl rfl) (worth_m (o := dVar 0) (a := b) A1 rfl rfl)) e2)))))).trans (fin (w := 0) (t := i + 1) T2.1.at_ rfl))))))
    exact ⟨S2, z1, z2⟩
  | say a =>
    obtain ⟨S2, e2, T2⟩ := take_ok A1 (h1.worth a) bz
    obtain ⟨S3, e3, T3⟩ := aug_says (ρ := N3 (some (PRow.say a).d) (some (.int ((0 : Nat) : Int)))) T2.1.at_
    have T : HSt Z S1 L h1 S3 L (h1.say (h1.worth a)) := by
      have := T2.trans T3
      have e : h1.say (h1.worth a) = { { h1.say (h1.worth a) with says := h1.says } with says := h1.says + 1 } := by
        unfold Hs.say
        split <;> rfl
      rw [e]
      exact this
    obtain ⟨z1, z2⟩ := out T ((seq_nx s2).trans ((seq_nx e1).trans ((seq_nx s4).trans ((skp (S1 := S1) (bin_of (bin_of rfl rfl rfl) rfl rfl)).trans ((seq_nx ((ifS_f (S1 := S1) (bin_of (bin_of rfl rfl rfl) rfl rfl)).trans ((ifS_f (S1 := S1) (bin_of (bin_of rfl rfl rfl) rfl rfl)).trans ((ifS_f (S1 := S1) (bin_of (bin_of rfl rfl rfl) rfl rfl)).trans ((ifS_t (S1 := S1) (bin_of (bin_of rfl rfl rfl) rfl rfl)).trans ((seq_nx (expr_of (mN A1 (fH A1 rfl) (args2 (fH A1 rfl) (worth_m (o := dVar 0) (a := a) A1 rfl rfl)) e2))).trans e3)))))).trans (fin (w := 0) (t := i + 1) T3.1.at_ rfl))))))
    exact ⟨S3, z1, z2⟩
  | go n =>
    obtain ⟨z1, z2⟩ := out (HSt.refl A1) ((seq_nx s2).trans ((seq_nx e1).trans ((seq_nx s4).trans ((skp (S1 := S1) (bin_of (bin_of rfl rfl rfl) rfl rfl)).trans ((seq_nx ((ifS_f (S1 := S1) (bin_of (bin_of rfl rfl rfl) rfl rfl)).trans ((ifS_f (S1 := S1) (bin_of (bin_of rfl rfl rfl) rfl rfl)).trans ((ifS_f (S1 := S1) (bin_of (bin_of rfl rfl rfl) rfl rfl)).trans ((ifS_f (S1 := S1) (bin_of (bin_of rfl rfl rfl) rfl rfl)).trans ((ifS_f (S1 := S1) (bin_of (bin_of rfl rfl rfl) rfl rfl)).trans rfl)))))).trans (fin (w := 0) (t := n) A1 rfl))))))
    exact ⟨S1, z1, z2⟩
  | copy x a =>
    obtain ⟨S2, e2, T2⟩ := sets x rfl rfl
    obtain ⟨z1, z2⟩ := out T2 ((seq_nx s2).trans ((seq_nx e1).trans ((seq_nx s4).trans ((skp (S1 := S1) (bin_of (bin_of rfl rfl rfl) rfl rfl)).trans ((seq_nx ((ifS_f (S1 := S1) (bin_of (bin_of rfl rfl rfl) rfl rfl)).trans ((ifS_f (S1 := S1) (bin_of (bin_of rfl rfl rfl) rfl rfl)).trans ((ifS_f (S1 := S1) (bin_of (bin_of rfl rfl rfl) rfl rfl)).trans ((ifS_f (S1 := S1) (bin_of (bin_of rfl rfl rfl) rfl rfl)).trans ((ifS_t (S1 := S1) (bin_of (bin_of rfl rfl rfl) rfl rfl)).trans e2)))))).trans (fin (w := 0) (t := i + 1) T2.1.at_ rfl))))))
    exact ⟨S2, z1, z2⟩
  | op x s a b =>
    obtain ⟨S2, e2, T2⟩ := sets x rfl rfl
    obtain ⟨z1, z2⟩ := out T2 ((seq_nx s2).trans ((seq_nx e1).trans ((seq_nx s4).trans ((skp (S1 := S1) (bin_of (bin_of rfl rfl rfl) rfl rfl)).trans ((seq_nx ((ifS_f (S1 := S1) (bin_of (bin_of rfl rfl rfl) rfl rfl)).trans ((ifS_f (S1 := S1) (bin_of (bin_of rfl rfl rfl) rfl rfl)).trans ((ifS_f (S1 := S1) (bin_of (bin_of rfl rfl rfl) rfl rfl)).trans ((ifS_f (S1 := S1) (bin_of (bin_of rfl rfl rfl) rfl rfl)).trans ((ifS_t (S1 := S1) (bin_of (bin_of rfl rfl rfl) rfl rfl)).trans e2)))))).trans (fin (w := 0) (t := i + 1) T2.1.at_ rfl))))))
    exact ⟨S2, z1, z2⟩
  | load x c =>
    obtain ⟨S2, e2, T2⟩ := sets x rfl rfl
    obtain ⟨z1, z2⟩ := out T2 ((seq_nx s2).trans ((seq_nx e1).trans ((seq_nx s4).trans ((skp (S1 := S1) (bin_of (bin_of rfl rfl rfl) rfl rfl)).trans ((seq_nx ((ifS_f (S1 := S1) (bin_of (bin_of rfl rfl rfl) rfl rfl)).trans ((ifS_f (S1 := S1) (bin_of (bin_of rfl rfl rfl) rfl rfl)).trans ((ifS_f (S1 := S1) (bin_of (bin_of rfl rfl rfl) rfl rfl)).trans ((ifS_f (S1 := S1) (bin_of (bin_of rfl rfl rfl) rfl rfl)).trans ((ifS_t (S1 := S1) (bin_of (bin_of rfl rfl rfl) rfl rfl)).trans e2)))))).trans (fin (w := 0) (t := i + 1) T2.1.at_ rfl))))))
    exact ⟨S2, z1, z2⟩
  | take x s a =>
    obtain ⟨S2, e2, T2⟩ := sets x rfl rfl
    obtain ⟨z1, z2⟩ := out T2 ((seq_nx s2).trans ((seq_nx e1).trans ((seq_nx s4).trans ((skp (S1 := S1) (bin_of (bin_of rfl rfl rfl) rfl rfl)).trans ((seq_nx ((ifS_f (S1 := S1) (bin_of (bin_of rfl rfl rfl) rfl rfl)).trans ((ifS_f (S1 := S1) (bin_of (bin_of rfl rfl rfl) rfl rfl)).trans ((ifS_f (S1 := S1) (bin_of (bin_of rfl rfl rfl) rfl rfl)).trans ((ifS_f (S1 := S1) (bin_of (bin_of rfl rfl rfl) rfl rfl)).trans ((ifS_t (S1 := S1) (bin_of (bin_of rfl rfl rfl) rfl rfl)).trans e2)))))).trans (fin (w := 0) (t := i + 1) T2.1.at_ rfl))))))
    exact ⟨S2, z1, z2⟩
  | hear x =>
    obtain ⟨S2, e2, T2⟩ := sets x rfl rfl
    obtain ⟨z1, z2⟩ := out T2 ((seq_nx s2).trans ((seq_nx e1).trans ((seq_nx s4).trans ((skp (S1 := S1) (bin_of (bin_of rfl rfl rfl) rfl rfl)).trans ((seq_nx ((ifS_f (S1 := S1) (bin_of (bin_of rfl rfl rfl) rfl rfl)).trans ((ifS_f (S1 := S1) (bin_of (bin_of rfl rfl rfl) rfl rfl)).trans ((ifS_f (S1 := S1) (bin_of (bin_of rfl rfl rfl) rfl rfl)).trans ((ifS_f (S1 := S1) (bin_of (bin_of rfl rfl rfl) rfl rfl)).trans ((ifS_t (S1 := S1) (bin_of (bin_of rfl rfl rfl) rfl rfl)).trans e2)))))).trans (fin (w := 0) (t := i + 1) T2.1.at_ rfl))))))
    exact ⟨S2, z1, z2⟩
end
end Lk76

namespace Lk76
open PySem PySem.Spec PyProof.Rows L2 Dn
section
variable {Z : Hst} {S S0 : Sto} {L : HL} {h : Hs} {ρ : List (Option DV)}
theorem extL {n : Nat} {xs ys : List DV} {S : Sto} (h : S[n]? = some (.lst xs)) (hz : xs.length + ys.length ≤ 1000000000 / 100) : pExtend (.loc n) [.lst .own ys] S = some (.non, S.set n (.lst (xs ++ ys))) := by
  have e : asT S (.lst .own ys) = some ys := rfl
  unfold pExtend
  simp only [h, e]
  rw [if_pos (by rw [size_eq]; omega)]
theorem addLoc {n : Nat} {xs ys : List DV} {S : Sto} (h : S[n]? = some (.lst xs)) (hz : xs.length + ys.length ≤ 10000000) : pAdd (.loc n) (.lst .own ys) S = some (.lst .own (xs ++ ys), S) := by
  have e : asT S (.loc n) = some xs := by
    unfold asT
    simp only [h]
  show (match asT S (.loc n), asT S (.lst .own ys) with | some xs, some ys => if xs.length + ys.length ≤ sizeLine then some (DV.lst .own (xs ++ ys), S) else none | _, _ => none) = _
  rw [e]
  show (if xs.length + ys.length ≤ sizeLine then some (DV.lst .own (xs ++ ys), S) else none) = _
  rw [if_pos (by rw [size_eq]; omega)]
theorem drop1 (xs : List DV) (x : DV) : Dn.cutD (x :: xs) (some 1) none = xs := by
  unfold Dn.cutD
  have e : HT.sIx (x :: xs).length 0 (some 1) = 1 := by
    show min 1 (xs.length + 1) = 1
    omega
  rw [e, show HT.sIx (x :: xs).length (x :: xs).length none = (x :: xs).length from rfl]
  show xs.take _ = xs
  rw [List.take_of_length_le]
  show xs.length ≤ (xs.length + 1) - 1
  omega
theorem nd_agt {l : List (Pl × Int)} (hn : (l.map (·.1)).Nodup) {p : Pl × Int} (hp : p ∈ l) : agt l p.1 = some p.2 := by
  induction l with
  | nil => cases hp
  | cons q l ih =>
    rw [List.map_cons] at hn
    obtain ⟨n1, n2⟩ := List.nodup_cons.mp hn
    rw [agt_cons]
    rcases List.mem_cons.mp hp with e | e
    · rw [e, if_pos rfl]
    · rw [if_neg fun z => n1 (by rw [z]; exact List.mem_map_of_mem e)]
      exact ih n2 e
theorem small_ok (A : AtS S (hsC Z L h)) {N : Nat} (O : h.Ok Z N) (hN : N ≤ 1000000) (nl : S.all notLok = true) (r : Nat) (bs : List Str) (hb : bs.length ≤ 1000) :
    ∃ T, F_House_small_steps [.loc L.o, .int (r : Nat), bxD bs] S = some (.lst .own ((h.small r bs).map Dd.d), S ++ T) ∧ T.all notLok = true := by
  let P (x3 x4 : Option DV) : List (Option DV) := [some (.loc L.o), some (.int (r : Nat)), some (bxD bs), x3, x4, none, none, none]
  let hm : List Dd := h.log.map fun p => Dd.home p.1 p.2
  let tn : List Dd := h.log.map fun p => Dd.turn p.1 p.2
  let bx : List Dd := bs.map fun x => Dd.box x (h.worth (.x x))
  have lz := O.lz
  -- the turns, the log being walked
  have s3 : dLockS (dFld AT "log" (dVar 0)) (dSet 3 (dLc (iKeyL (dFld AT "log" (dVar 0))) (gSet 5) (dC (.bl true)) (dPrim pTup (aCons (dC (.str "home")) (aCons (dBin pIx (dVar 5) (dC (.int 0))) (aCons (dBin pIx (dVar 5) (dC (.int 1))) (aCons (dBin pIx (dFld AT "log" (dVar 0)) (dVar 5)) aNil))))) [5])) (P none none) S = some (.nx (P (some (.lst .own (hm.map Dd.d))) none) S) := by
    let ks : List (List Key) := h.log.map fun p => kP p.1
    let vs : List DV := h.log.map fun p => intD p.2
    let SL := S.set L.lo (.lokt ks vs)
    have hl : L.lo < S.length := (List.getElem?_eq_some_iff.mp (hs_lo A)).1
    have lo : SL[L.lo]? = some (.lokt ks vs) := List.getElem?_set_self hl
    have oo : SL[L.o]? = some (.ins "House" (hsF Z L h)) := by
      show (S.set L.lo _)[L.o]? = _
      rw [List.getElem?_set_ne (A.ne 17 0)]
      exact hs_o A
    have fl : ∀ {ρ : List (Option DV)} {S0 : Sto} {g : DE}, g ρ S0 = some (.loc L.o, SL) → dFld AT "log" g ρ S0 = some (.loc L.lo, SL) := fun {ρ S0 g} hg => fld_at hg oo rfl rfl
    have it : iKeyL (dFld AT "log" (dVar 0)) (P none none) SL = some (h.log.map fun p => plD p.1, SL) := by
      unfold iKeyL
      rw [fl (ρ := P none none) (S0 := SL) (g := dVar 0) rfl]
      simp only [lo]
      show some (((h.log.map fun p => kP p.1).map fun k => DV.tup (k.map kdv)), SL) = _
      rw [List.map_map]
      rfl
    have lc : lcL (gSet 5) (dC (.bl true)) (dPrim pTup (aCons (dC (.str "home")) (aCons (dBin pIx (dVar 5) (dC (.int 0))) (aCons (dBin pIx (dVar 5) (dC (.int 1))) (aCons (dBin pIx (dFld AT "log" (dVar 0)) (dVar 5)) aNil))))) (dwipe (P none none) [5]) (h.log.map fun p => plD p.1) SL = some (h.log.map fun p => (Dd.home p.1 p.2).d, SL) := lc_all fun p hp => by
      refine ⟨_, rfl, rfl, prim_of (argsC rfl (args3 (x := .str p.1.1) (y := .int (p.1.2 : Nat)) (z := .int p.2) rfl rfl (bin_of (x := .loc L.lo) (y := plD p.1) (fl rfl) rfl (ix_of (asL_nlokt lo) ?_)))) rfl⟩
      rw [getD_PL (f := intD) (l := h.log) (x := p.1) lo, nd_agt O.ln hp]
      rfl
    have inner : dSet 3 (dLc (iKeyL (dFld AT "log" (dVar 0))) (gSet 5) (dC (.bl true)) (dPrim pTup (aCons (dC (.str "home")) (aCons (dBin pIx (dVar 5) (dC (.int 0))) (aCons (dBin pIx (dVar 5) (dC (.int 1))) (aCons (dBin pIx (dFld AT "log" (dVar 0)) (dVar 5)) aNil))))) [5]) (P none none) SL = some (.nx (P (some (.lst .own (hm.map Dd.d))) none) SL) := by
      refine (set_of (dLc_of (vs := [5]) it lc (size_ok (by rw [List.length_map]; omega)))).trans ?_
      show some (Out.nx (P (some (.lst .own _)) none) SL) = some (Out.nx (P (some (.lst .own ((h.log.map fun p => Dd.home p.1 p.2).map Dd.d))) none) SL)
      rw [List.map_map]
      rfl
    unfold dLockS
    rw [fH A (ρ := P none none) (S0 := S) (g := dVar 0) (f := "log") rfl]
    have e0 := hs_lo A
    unfold dkP at e0
    simp only [e0]
    rw [show S.set L.lo (.lokt (h.log.map fun p => kP p.1) (h.log.map fun p => intD p.2)) = SL from rfl, inner]
    simp only [unlockO, unlockS, lo]
    have al : (SL.set L.lo .gone).all notLok = true := by
      show ((S.set L.lo _).set L.lo .gone).all notLok = true
      rw [List.set_set]
      exact all_set nl rfl
    rw [if_pos al]
    have e2 : SL.set L.lo (.dit ks vs) = S := by
      show (S.set L.lo _).set L.lo _ = S
      rw [List.set_set]
      obtain ⟨g1, g2⟩ := List.getElem?_eq_some_iff.mp (hs_lo A)
      have : S.set L.lo (S[L.lo]'g1) = S := List.set_getElem_self g1
      rw [g2] at this
      exact this
    rw [e2]
  let P3 : Option DV := some (.lst .own (hm.map Dd.d))
  let P4 : Option DV := some (.loc S.length)
  have s4 : dSet 4 (dPrim pLstM (aCons (dPrim pTup (aCons (dC (.str "page")) (aCons (dVar 1) aNil))) aNil)) (P P3 none) S = some (.nx (P P3 P4) (S ++ [.lst [(Dd.page r).d]])) := rfl
  have A4 : ∀ l : List DV, AtS (S ++ [Cell.lst l]) (hsC Z L h) := fun l => (Stp.junk A (T := [Cell.lst l]) rfl).at_
  have lst : ∀ (l : List DV), (S ++ [Cell.lst l])[S.length]? = some (.lst l) := fun l => get_len _ _
  have wr : ∀ l m : List DV, (S ++ [Cell.lst l]).set S.length (.lst m) = S ++ [Cell.lst m] := fun l m => by
    rw [List.set_append_right _ _ (Nat.le_refl _), Nat.sub_self]
    rfl
  have ex : ∀ (l ys : List DV) (e : DE), e (P P3 P4) (S ++ [.lst l]) = some (.lst .own ys, S ++ [.lst l]) → l.length + ys.length ≤ 5000000 → dExpr (dMt pExtend (dVar 4) (aCons e aNil)) (P P3 P4) (S ++ [.lst l]) = some (.nx (P P3 P4) (S ++ [.lst (l ++ ys)])) := fun l ys e he hz => by
    refine (expr_of (d := .non) (S1 := S ++ [.lst (l ++ ys)]) ?_)
    rw [v_mt, show dVar 4 (P P3 P4) (S ++ [.lst l]) = some (.loc S.length, S ++ [.lst l]) from rfl]
    simp only [asL_loc (lst l), args1 he]
    rw [extL (lst l) (by omega), wr]
  have s5 := ex [(Dd.page r).d] (bx.map Dd.d) (dLc (iSeq (dVar 2)) (gSet 6) (dC (.bl true)) (dPrim pTup (aCons (dC (.str "box")) (aCons (dVar 6) (aCons (dGet2 (dFld AT "held" (dVar 0)) (dVar 6) (dFld AT "dust" (dVar 0))) aNil)))) [6]) (by
    have lc : lcL (gSet 6) (dC (.bl true)) (dPrim pTup (aCons (dC (.str "box")) (aCons (dVar 6) (aCons (dGet2 (dFld AT "held" (dVar 0)) (dVar 6) (dFld AT "dust" (dVar 0))) aNil)))) (dwipe (P P3 P4) [6]) (bs.map fun x => DV.str x) (S ++ [.lst [(Dd.page r).d]]) = some (bs.map fun x => (Dd.box x (h.worth (.x x))).d, S ++ [.lst [(Dd.page r).d]]) := lc_all fun x hx =>
      ⟨_, rfl, rfl, prim_of (args3 rfl (y := .str x) rfl (held_get (A4 _) rfl rfl rfl)) rfl⟩
    refine (dLc_of (vs := [6]) (iSeqT_of (xs := bs.map fun x => DV.str x) rfl) lc (size_ok (by rw [List.length_map]; omega))).trans ?_
    show some (DV.lst .own _, _) = some (DV.lst .own ((bs.map fun x => Dd.box x (h.worth (.x x))).map Dd.d), _)
    rw [List.map_map]
    rfl) (by
    show 1 + ((bs.map _).map Dd.d).length ≤ _
    rw [List.length_map, List.length_map]
    omega)
  let l5 := [(Dd.page r).d] ++ bx.map Dd.d
  have bl : (bx.map Dd.d).length = bs.length := by
    show ((bs.map _).map Dd.d).length = _
    rw [List.length_map, List.length_map]
  have tl : (tn.map Dd.d).length = h.log.length := by
    show ((h.log.map _).map Dd.d).length = _
    rw [List.length_map, List.length_map]
  have hl : (hm.map Dd.d).length = h.log.length := by
    show ((h.log.map _).map Dd.d).length = _
    rw [List.length_map, List.length_map]
  have s6 := ex l5 (tn.map Dd.d) (dLc (iSeq (dVar 3)) (gSet 7) (dC (.bl true)) (dBin pAdd (dPrim pTup (aCons (dC (.str "turn")) aNil)) (dSl pSl (dVar 7) (oSome (dC (.int 1))) oNone)) [7]) (by
    have lc : lcL (gSet 7) (dC (.bl true)) (dBin pAdd (dPrim pTup (aCons (dC (.str "turn")) aNil)) (dSl pSl (dVar 7) (oSome (dC (.int 1))) oNone)) (dwipe (P P3 P4) [7]) (h.log.map fun p => (Dd.home p.1 p.2).d) (S ++ [.lst l5]) = some (h.log.map fun p => (Dd.turn p.1 p.2).d, S ++ [.lst l5]) := lc_all fun p hp => by
      refine ⟨_, rfl, rfl, bin_of (x := .tup [.str "turn"]) (y := .tup [.str p.1.1, .int (p.1.2 : Nat), .int p.2]) rfl ?_ rfl⟩
      have : pSl (Dd.home p.1 p.2).d (some 1) none (S ++ [.lst l5]) = some (.tup [.str p.1.1, .int (p.1.2 : Nat), .int p.2], S ++ [.lst l5]) := by
        show pSl (.tup [.str "home", .str p.1.1, .int (p.1.2 : Nat), .int p.2]) (some 1) none _ = _
        rw [v_slT, drop1]
      exact this
    have it : iSeq (dVar 3) (P P3 P4) (S ++ [.lst l5]) = some (h.log.map fun p => (Dd.home p.1 p.2).d, S ++ [.lst l5]) := by
      refine (iSeqL_of (k := .own) (xs := hm.map Dd.d) rfl).trans ?_
      show some ((h.log.map fun p => Dd.home p.1 p.2).map Dd.d, _) = _
      rw [List.map_map]
      rfl
    refine (dLc_of (vs := [7]) it lc (size_ok (by rw [List.length_map]; omega))).trans ?_
    show some (DV.lst .own _, _) = some (DV.lst .own ((h.log.map fun p => Dd.turn p.1 p.2).map Dd.d), _)
    rw [List.map_map]
    rfl) (by
    rw [tl]
    show ([(Dd.page r).d] ++ bx.map Dd.d).length + _ ≤ _
    rw [List.length_append, bl, List.length_singleton]
    omega)
  let l6 := l5 ++ tn.map Dd.d
  have l6z : l6.length = 1 + bs.length + h.log.length := by
    show (([(Dd.page r).d] ++ bx.map Dd.d) ++ tn.map Dd.d).length = _
    rw [List.length_append, List.length_append, bl, tl, List.length_singleton]
  have r7 : dRet (dBin pAdd (dBin pAdd (dVar 4) (dPrim pLst (aCons (dPrim pTup (aCons (dC (.str "face")) aNil)) aNil))) (dVar 3)) (P P3 P4) (S ++ [.lst l6]) = some (.rt (.lst .own ((l6 ++ [Dd.face.d]) ++ hm.map Dd.d)) (S ++ [.lst l6])) := by
    refine ret_of (bin_of (x := .lst .own (l6 ++ [Dd.face.d])) (y := .lst .own (hm.map Dd.d)) (bin_of (x := .loc S.length) (y := .lst .own [Dd.face.d]) rfl rfl (addLoc (lst l6) (by rw [l6z, List.length_singleton]; omega))) rfl ?_)
    rw [v_addL, if_pos (by rw [size_eq, List.length_append, l6z, List.length_singleton, hl]; omega)]
  refine ⟨[.lst l6], ?_, rfl⟩
  have e : (h.small r bs).map Dd.d = (l6 ++ [Dd.face.d]) ++ hm.map Dd.d := by
    unfold Hs.small
    simp only [List.map_append, List.map_cons, List.map_nil]
    rfl
  rw [e]
  exact run_rt rfl ((seq_nx s3).trans ((seq_nx s4).trans ((seq_nx s5).trans ((seq_nx s6).trans r7))))
/-! ### the phases -/
theorem make1 {C f : Str} {F : PL} {fa : DA} {d : DV} {ρ : List (Option DV)} {S S1 : Sto} (ha : fa ρ S = some ([d], S1)) (hF : F [.loc S1.length, d] (S1 ++ [Cell.ins C []]) = some (.non, (S1 ++ [Cell.ins C []]).set S1.length (.ins C [(f, d)]))) : dMake C F [] fa ρ S = some (.loc S1.length, S1 ++ [.ins C [(f, d)]]) := by
  unfold dMake
  simp only [ha]
  have e : ([d] ++ [] : List DV) = [d] := rfl
  rw [e, hF]
  show some (DV.loc S1.length, (S1 ++ [Cell.ins C []]).set S1.length _) = _
  rw [List.set_append_right _ _ (Nat.le_refl _), Nat.sub_self]
  rfl
theorem mk_going {fa : DA} {t : Nat} {ρ : List (Option DV)} {S S1 : Sto} (ha : fa ρ S = some ([.int (t : Nat)], S1)) : dMake "Going" F_Going_init [] fa ρ S = some (.loc S1.length, S1 ++ [phC (.go t)]) :=
  make1 (f := "line") (d := .int (t : Nat)) ha (run_nx rfl (setF_at (C := "Going") (fs := []) (n := S1.length) (y := .int (t : Nat)) rfl rfl (get_len _ _) rfl (show (0 : Nat) < 1000 by decide)))
theorem mk_keep {fa : DA} {t : Nat} {l : List Dd} {ρ : List (Option DV)} {S S1 : Sto} (ha : fa ρ S = some ([.int (t : Nat), .lst .own (l.map Dd.d)], S1)) : dMake "Keeping" F_Keeping_init [] fa ρ S = some (.loc S1.length, S1 ++ [phC (.keep t l 0)]) := by
  have gl : ∀ c : Cell, (S1 ++ [c])[S1.length]? = some c := fun c => get_len _ _
  have st : ∀ c c' : Cell, (S1 ++ [c]).set S1.length c' = S1 ++ [c'] := fun c c' => by
    rw [List.set_append_right _ _ (Nat.le_refl _), Nat.sub_self]
    rfl
  let ρ0 : List (Option DV) := [some (.loc S1.length), some (.int (t : Nat)), some (.lst .own (l.map Dd.d))]
  have e1 : dSetF AT "line" (dVar 1) (dVar 0) ρ0 (S1 ++ [.ins "Keeping" []]) = some (.nx ρ0 (S1 ++ [.ins "Keeping" [("line", .int (t : Nat))]])) := by
    rw [setF_at (C := "Keeping") (fs := []) (n := S1.length) (y := .int (t : Nat)) rfl rfl (gl _) rfl (show (0 : Nat) < 1000 by decide), st]
    rfl
  have e2 : dSetF AT "steps" (dVar 2) (dVar 0) ρ0 (S1 ++ [.ins "Keeping" [("line", .int (t : Nat))]]) = some (.nx ρ0 (S1 ++ [.ins "Keeping" [("line", .int (t : Nat)), ("steps", .lst .own (l.map Dd.d))]])) := by
    rw [setF_at (C := "Keeping") (fs := [("line", .int (t : Nat))]) (n := S1.length) (y := .lst .own (l.map Dd.d)) rfl rfl (gl _) rfl (show (1 : Nat) < 1000 by decide), st]
    rfl
  have e3 : dSetF AT "passed" (dC (.int 0)) (dVar 0) ρ0 (S1 ++ [.ins "Keeping" [("line", .int (t : Nat)), ("steps", .lst .own (l.map Dd.d))]]) = some (.nx ρ0 (S1 ++ [phC (.keep t l 0)])) := by
    rw [setF_at (C := "Keeping") (fs := [("line", .int (t : Nat)), ("steps", .lst .own (l.map Dd.d))]) (n := S1.length) (y := .int 0) rfl rfl (gl _) rfl (show (2 : Nat) < 1000 by decide), st]
    rfl
  unfold dMake
  simp only [ha]
  show (match F_Keeping_init (.loc S1.length :: ([.int (t : Nat), .lst .own (l.map Dd.d)] ++ [])) (S1 ++ [.ins "Keeping" []]) with | some (.non, S2) => some (DV.loc S1.length, S2) | _ => none) = _
  rw [show F_Keeping_init (.loc S1.length :: ([.int (t : Nat), .lst .own (l.map Dd.d)] ++ [])) (S1 ++ [.ins "Keeping" []]) = some (.non, S1 ++ [phC (.keep t l 0)]) from run_nx rfl ((seq_nx e1).trans ((seq_nx e2).trans e3))]
theorem kept_ok (A : AtS S (hsC Z L h)) (t : Nat) : F_House_boxes_kept [.loc L.o, .int (t : Nat)] S = some (((agt Z.keepsL t).map bxD).getD .non, S) := by
  have hd : isD S (.loc L.ke) = true := isD_dik (hs_ke A)
  have hg := getD_N (x := t) (hs_ke A)
  have key : dGet1 (dFld AT "keeps" (dVar 0)) (dVar 1) [some (.loc L.o), some (.int (t : Nat))] S = some (((agt Z.keepsL t).map bxD).getD .non, S) := by
    unfold dGet1
    rw [fH A (ρ := [some (.loc L.o), some (.int (t : Nat))]) (S0 := S) (g := dVar 0) (f := "keeps") rfl]
    simp only [hd, if_true]
    show (match getD S (.loc L.ke) (.int (t : Nat)) with | some (some d) => some (d, S) | some none => some (DV.non, S) | none => none) = _
    rw [hg]
    cases agt Z.keepsL t <;> rfl
  exact run_rt rfl (ret_of key)
theorem going_ok (A : AtS S (hsC Z L h)) {N : Nat} (O : h.Ok Z N) (hN : N ≤ 999990) (K : Z.Ok) (nl : S.all notLok = true) {i : Nat} (hp : h.ph = .go i) :
    ∃ S1 h1 p, F_Going_goes [.loc L.ph, .loc L.o] S = some (.loc S1.length, S1 ++ [phC p]) ∧ HSt Z S L h S1 L h1 ∧ h.step Z = { h1 with ph := p } := by
  have hi : i < Z.rows.length := by
    have := O.ph
    rw [hp] at this
    exact this
  obtain ⟨r, hr⟩ : ∃ r, Z.rows[i]? = some r := ⟨_, List.getElem?_eq_getElem hi⟩
  have ph := hs_ph A
  rw [hp] at ph
  obtain ⟨S1, e1, T1⟩ := do_row_ok A O (by omega) K hr
  have A1 := T1.1.at_
  let h1 := Hs.row Z { h with done := h.done + 1 } r
  have O1 : h1.Ok Z (N + 1) := (O.num (h.done + 1) h.hears h.says h.fin).row K (K.r r (List.mem_of_getElem? hr))
  let P (x2 x3 : Option DV) : List (Option DV) := [some (.loc L.ph), some (.loc L.o), x2, x3]
  have s2 : dSet 2 (dMeth "House" "do_row" F_House_do_row [] (dVar 1) (aCons (dFld AT "line" (dVar 0)) aNil)) (P none none) S = some (.nx (P (some (if isEnd r = true then .non else .int (h.next i r : Nat))) none) S1) :=
    set_of (mH A rfl (args1 (fld_at (d := .int (i : Nat)) rfl ph rfl rfl)) e1)
  have hstep : h.step Z = if isEnd r = true then { h1 with ph := .rest } else h1.come Z (h.next i r) := step_go hp hr
  by_cases q : isEnd r = true
  · rw [if_pos q] at s2
    rw [hstep, if_pos q]
    exact ⟨S1, h1, .rest, run_rt rfl ((seq_nx s2).trans (hit (S1 := S1) rfl (ret_of rfl))), T1, rfl⟩
  · rw [if_neg q] at s2
    rw [hstep, if_neg q]
    let t := h.next i r
    let X2 : Option DV := some (.int (t : Nat))
    have s3 : dSet 3 (dMeth "House" "boxes_kept" F_House_boxes_kept [] (dVar 1) (aCons (dVar 2) aNil)) (P X2 none) S1 = some (.nx (P X2 (some (((agt Z.keepsL t).map bxD).getD .non))) S1) := set_of (mH A1 rfl (args1 (x := .int (t : Nat)) rfl) (kept_ok A1 t))
    have pre : ∀ {o : Option Out}, dSeq (dIfS (dBin (pIs false) (dVar 3) (dC .non)) (dRet (dMake "Going" F_Going_init [] (aCons (dVar 2) aNil))) dNext) (dRet (dMake "Keeping" F_Keeping_init [] (aCons (dVar 2) (aCons (dMeth "House" "small_steps" F_House_small_steps [] (dVar 1) (aCons (dVar 2) (aCons (dVar 3) aNil))) aNil)))) (P X2 (some (((agt Z.keepsL t).map bxD).getD .non))) S1 = o → b_Going_goes (P none none) S = o := fun {o} ho =>
      (seq_nx s2).trans ((skp (S1 := S1) rfl).trans ((seq_nx s3).trans ho))
    unfold Hs.come
    cases hk : agt Z.keepsL t with
    | none =>
      rw [hk] at pre
      exact ⟨S1, h1, .go t, run_rt rfl (pre (hit (S1 := S1) rfl (ret_of (mk_going (t := t) (args1 rfl))))), T1, rfl⟩
    | some bs =>
      rw [hk] at pre
      obtain ⟨T, e2, nT⟩ := small_ok A1 O1 (by omega) (T1.1.nl nl) t bs (K.ks _ (keepsL_mem K hk))
      refine ⟨S1 ++ T, h1, .keep t (h1.small t bs) 0, run_rt rfl (pre ((skp (S1 := S1) rfl).trans (ret_of (mk_keep (t := t) (l := h1.small t bs) (args2 rfl (mH A1 rfl (args2 (x := .int (t : Nat)) (y := bxD bs) rfl rfl) e2)))))), T1.trans ⟨Stp.junk A1 nT, rfl⟩, rfl⟩
end
end Lk76

namespace Lk76
open PySem PySem.Spec PyProof.Rows L2 Dn
theorem hasg_of {f : DE} {g : DG} {ρ ρ' : List (Option DV)} {S S1 S2 : Sto} {d : DV} (h : f ρ S = some (d, S1)) (hg : g d ρ S1 = some (ρ', S2)) : dAsg f g ρ S = some (.nx ρ' S2) := by
  unfold dAsg
  simp only [h, hg]
section
variable {Z : Hst} {S S0 : Sto} {L : HL} {h : Hs} {ρ : List (Option DV)}
/-! ### pages -/
def pgD (p : Pg) : DV := .tup [.int p.row, .int p.done, .int p.hears, .int p.says, .lst .own (p.held.map bvD), .lst .own (p.turned.map tnD)]
def HL.pL (L : HL) (b : Bool) : Nat := if b = true then L.p1 else L.p0
def HL.hL (L : HL) (b : Bool) : Nat := if b = true then L.h1 else L.h0
def HL.tL (L : HL) (b : Bool) : Nat := if b = true then L.t1 else L.t0
theorem at_p (A : AtS S (hsC Z L h)) (b : Bool) : S[HL.pL L b]? = some (.ins "Page" (pgF (h.page b) (HL.hL L b) (HL.tL L b))) := by
  cases b
  · exact hs_p0 A
  · exact hs_p1 A
theorem at_h (A : AtS S (hsC Z L h)) (b : Bool) : S[HL.hL L b]? = some (.lst ((h.page b).held.map bvD)) := by
  cases b
  · exact hs_h0 A
  · exact hs_h1 A
theorem at_t (A : AtS S (hsC Z L h)) (b : Bool) : S[HL.tL L b]? = some (.lst ((h.page b).turned.map tnD)) := by
  cases b
  · exact hs_t0 A
  · exact hs_t1 A
theorem pages_get (A : AtS S (hsC Z L h)) {b : Bool} {g e : DE} (hg : g ρ S = some (.loc L.st, S)) (he : e ρ S = some (.int (frN b : Nat), S)) : dBin pIx (dFld AT "pages" g) e ρ S = some (.loc (HL.pL L b), S) := by
  refine bin_of (x := .loc L.pg) (fS A hg) he (ix_loc (hs_pg A) (atD_nat ?_))
  cases b <;> rfl
theorem page_ok (A : AtS S (hsC Z L h)) (b : Bool) : F_House_page [.loc L.o, .int (frN b : Nat)] S = some (pgD (h.page b), S) := by
  let ρ (x : Option DV) : List (Option DV) := [some (.loc L.st), some (.int (frN b : Nat)), x]
  have s2 : dSet 2 (dBin pIx (dFld AT "pages" (dVar 0)) (dVar 1)) (ρ none) S = some (.nx (ρ (some (.loc (HL.pL L b)))) S) := set_of (pages_get A rfl rfl)
  have fl : ∀ {f : Str} {d : DV}, (pgF (h.page b) (HL.hL L b) (HL.tL L b)).lookup f = some d → AT.contains (("Page" : Str), f) = true → dFld AT f (dVar 2) (ρ (some (.loc (HL.pL L b)))) S = some (d, S) := fun {f d} hl hT => fld_at rfl (at_p A b) hT hl
  have lst : ∀ {n : Nat} {xs : List DV}, S[n]? = some (.lst xs) → pList [.loc n] S = some (.lst .own xs, S) := fun {n xs} hn => by
    unfold pList itemsD
    simp only [asL_loc hn]
  have e : F_Store_page [.loc L.st, .int (frN b : Nat)] S = some (pgD (h.page b), S) := by
    refine run_rt rfl ((seq_nx s2).trans (ret_of (bin_of (x := headD (h.page b)) (y := .tup [.lst .own ((h.page b).held.map bvD), .lst .own ((h.page b).turned.map tnD)]) (fl rfl rfl) (prim_of (args2 (prim_of (args1 (fl rfl rfl)) (lst (at_h A b))) (prim_of (args1 (fl rfl rfl)) (lst (at_t A b)))) rfl) ?_)))
    show pAdd (.tup _) (.tup _) S = _
    rw [v_addT, if_pos (by rw [size_eq]; show 4 + 2 ≤ 16777216; decide)]
    rfl
  exact run_rt rfl (ret_of (mS A (fH A rfl) (args1 rfl) e))
theorem face_ok (A : AtS S (hsC Z L h)) : F_House_face [.loc L.o] S = some (.int (frN h.front : Nat), S) := run_rt rfl (ret_of (mS A (fH A rfl) rfl (run_rt rfl (ret_of (fS A rfl)))))
/-! ### coming up -/
theorem held_loop : ∀ (l : List (Str × Int)) {S : Sto} {h : Hs} {x1 x2 x3 x4 x5 x6 : Option DV}, AtS S (hsC Z L h) → h.held.length + l.length < 16777216 →
    ∃ y5 y6 S', forL (gTupD 2 (gsCons (gSet 5) (gsCons (gSet 6) gsNil))) (dSub (dVar 6) (dFld AT "held" (dVar 0)) (dVar 5)) (l.map bvD) [some (.loc L.o), x1, x2, x3, x4, x5, x6] S = some (.nx [some (.loc L.o), x1, x2, x3, x4, y5, y6] S') ∧ HSt Z S L h S' L { h with held := l.foldl (fun l q => apt l q.1 q.2) h.held }
  | [], S, h, x1, x2, x3, x4, x5, x6, A, _ => ⟨x5, x6, S, rfl, HSt.refl A⟩
  | q :: l, S, h, x1, x2, x3, x4, x5, x6, A, hz => by
    rw [List.length_cons] at hz
    let ρ1 : List (Option DV) := [some (.loc L.o), x1, x2, x3, x4, some (.str q.1), some (.int q.2)]
    have e : dSub (dVar 6) (dFld AT "held" (dVar 0)) (dVar 5) ρ1 S = some (.nx ρ1 (S.set L.he (dkS intD (apt h.held q.1 q.2)))) := sub_of (x := .loc L.he) (k := .str q.1) (y := .int q.2) rfl (fH A rfl) rfl (setI_S (f := intD) (v := q.2) (hs_he A) (by omega))
    have T1 := set_he A (apt h.held q.1 q.2)
    have al := apt_len (l := h.held) (k := q.1) (v := q.2)
    obtain ⟨y5, y6, S', e2, T2⟩ := held_loop l (x1 := x1) (x2 := x2) (x3 := x3) (x4 := x4) (x5 := some (.str q.1)) (x6 := some (.int q.2)) T1.1.at_ (by show (apt h.held q.1 q.2).length + _ < _; omega)
    refine ⟨y5, y6, S', ?_, T1.trans T2⟩
    rw [List.map_cons]
    conv => lhs; unfold forL
    rw [show gTupD 2 (gsCons (gSet 5) (gsCons (gSet 6) gsNil)) (bvD q) [some (.loc L.o), x1, x2, x3, x4, x5, x6] S = some (ρ1, S) from rfl]
    simp only
    rw [e]
    exact e2
theorem come_up_ok (A : AtS S (hsC Z L h)) (p : Pg) (hz : p.held.length < 16777216) : ∃ S' L', F_House_come_up [.loc L.o, .int p.done, .int p.hears, .int p.says, .lst .own (p.held.map bvD)] S = some (.non, S') ∧ HSt Z S L h S' L' (h.comeUp p) ∧ L'.ph = L.ph := by
  let ρ (x5 x6 : Option DV) : List (Option DV) := [some (.loc L.o), some (.int p.done), some (.int p.hears), some (.int p.says), some (.lst .own (p.held.map bvD)), x5, x6]
  have T1 := new_held A
  have s1 : dSetF AT "held" (fun _ S => some (.loc S.length, S ++ [.dik [] []])) (dVar 0) (ρ none none) S = some (.nx (ρ none none) ((S ++ [dkS intD []]).set L.o (.ins "House" (hsF Z { L with he := S.length } { h with held := [] })))) :=
    setF_at (y := .loc S.length) (n := L.o) (C := "House") (fs := hsF Z L h) rfl rfl ((List.getElem?_append_left (List.getElem?_eq_some_iff.mp (hs_o A)).1).trans (hs_o A)) rfl (show (15 : Nat) < 1000 by decide)
  have A1 := T1.1.at_
  obtain ⟨y5, y6, S2, e2, T2⟩ := held_loop (Z := Z) (L := { L with he := S.length }) p.held (x1 := some (.int p.done)) (x2 := some (.int p.hears)) (x3 := some (.int p.says)) (x4 := some (.lst .own (p.held.map bvD))) (x5 := none) (x6 := none) A1 (by show 0 + _ < _; omega)
  have A2 := T2.1.at_
  let L1 : HL := { L with he := S.length }
  let h2 : Hs := { h with held := dictL p.held }
  have A2 : AtS S2 (hsC Z L1 h2) := A2
  have T3 := set_hs A2 h.dust p.done h.hears h.says
  have s3 : dSetF AT "done" (dVar 1) (dVar 0) (ρ y5 y6) S2 = some (.nx (ρ y5 y6) _) := setF_at (y := .int p.done) (n := L.o) (C := "House") (fs := hsF Z L1 h2) rfl rfl (hs_o A2) rfl (show (15 : Nat) < 1000 by decide)
  have A3 := T3.1.at_
  have T4 := set_hs A3 h.dust p.done p.hears h.says
  have s4 : dSetF AT "hears" (dVar 2) (dVar 0) (ρ y5 y6) _ = some (.nx (ρ y5 y6) _) := setF_at (y := .int p.hears) (n := L.o) (C := "House") (fs := hsF Z L1 { h2 with done := p.done }) rfl rfl (hs_o A3) rfl (show (15 : Nat) < 1000 by decide)
  have A4 := T4.1.at_
  have T5 := set_hs A4 h.dust p.done p.hears p.says
  have s5 : dSetF AT "says" (dVar 3) (dVar 0) (ρ y5 y6) _ = some (.nx (ρ y5 y6) _) := setF_at (y := .int p.says) (n := L.o) (C := "House") (fs := hsF Z L1 { h2 with done := p.done, hears := p.hears }) rfl rfl (hs_o A4) rfl (show (15 : Nat) < 1000 by decide)
  exact ⟨_, L1, run_nx rfl ((seq_nx s1).trans ((seq_nx (for_of (iSeqL_of (k := .own) rfl) e2)).trans ((seq_nx s3).trans ((seq_nx s4).trans s5)))), (((T1.trans T2).trans T3).trans T4).trans T5, rfl⟩
/-- what a phase does: the new phase, or the same object -/
structure Goes (Z : Hst) (S : Sto) (L : HL) (h : Hs) (F : PL) : Prop where
  ex : (∃ S1 L1 h1 p, F [.loc L.ph, .loc L.o] S = some (.loc S1.length, S1 ++ [phC p]) ∧ HSt Z S L h S1 L1 h1 ∧ h.step Z = { h1 with ph := p }) ∨ ∃ S1 L1, F [.loc L.ph, .loc L.o] S = some (.loc L.ph, S1) ∧ HSt Z S L h S1 L1 (h.step Z) ∧ L1.ph = L.ph
theorem up_ok (A : AtS S (hsC Z L h)) {N : Nat} (O : h.Ok Z N) (hN : N ≤ 999990) (K : Z.Ok) {k : Nat} (hp : h.ph = .up k) : Goes Z S L h F_Up_goes := by
  have ph := hs_ph A
  rw [hp] at ph
  let p := h.page h.front
  have B : p.Ok Z N := O.page h.front
  have bz := B.hz
  have tz := B.tz
  let TL : DV := .lst .own (p.turned.map tnD)
  let ρ (x2 x3 x4 x5 x6 x7 x8 x9 : Option DV) : List (Option DV) := [some (.loc L.ph), some (.loc L.o), x2, x3, x4, x5, x6, x7, x8, x9]
  let ρ1 (x8 x9 : Option DV) := ρ (some (.int p.row)) (some (.int p.done)) (some (.int p.hears)) (some (.int p.says)) (some (.lst .own (p.held.map bvD))) (some TL) x8 x9
  have s1 : dAsg (dMeth "House" "page" F_House_page [] (dVar 1) (aCons (dMeth "House" "face" F_House_face [] (dVar 1) aNil) aNil)) (gTupD 6 (gsCons (gSet 2) (gsCons (gSet 3) (gsCons (gSet 4) (gsCons (gSet 5) (gsCons (gSet 6) (gsCons (gSet 7) gsNil))))))) (ρ none none none none none none none none) S = some (.nx (ρ1 none none) S) :=
    hasg_of (d := pgD p) (mH A rfl (args1 (mH A rfl rfl (face_ok A))) (page_ok A h.front)) rfl
  have fp : ∀ {x8 x9 : Option DV}, dFld AT "passed" (dVar 0) (ρ1 x8 x9) S = some (.int (k : Nat), S) := fun {x8 x9} => fld_at rfl ph rfl rfl
  have c : dBin pLt (dFld AT "passed" (dVar 0)) (dPrim pLen (aCons (dVar 7) aNil)) (ρ1 none none) S = some (.bl (decide (k < p.turned.length)), S) := by
    have l7 := lenL_of (f := dVar 7) (ρ := ρ1 none none) (S := S) (S1 := S) (k := .own) (xs := p.turned.map tnD) rfl
    rw [List.length_map] at l7
    refine (bin_of fp l7 Dn.v_lt).trans ?_
    congr 3
    exact decide_eq_decide.mpr (by omega)
  have hs := step_up (Z := Z) hp
  cases hk : p.turned[k]? with
  | some q =>
    rw [show (h.page h.front).turned[k]? = some q from hk] at hs
    have hs : h.step Z = { h with home := apt h.home q.1 q.2, ph := .up (k + 1) } := hs
    have kl := (List.getElem?_eq_some_iff.mp hk).1
    rw [decide_eq_true kl] at c
    let ρ2 := ρ1 (some (plD q.1)) (some (.int q.2))
    have s2 : dAsg (dBin pIx (dVar 7) (dFld AT "passed" (dVar 0))) (gTupD 2 (gsCons (gSet 8) (gsCons (gSet 9) gsNil))) (ρ1 none none) S = some (.nx ρ2 S) := by
      refine hasg_of (d := tnD q) (bin_of (x := TL) rfl fp (ix_seq (atD_nat ?_))) rfl
      rw [List.getElem?_map, hk]
      rfl
    have hz : h.home.length < 16777216 := by
      have h1 : h.home.length = Z.homeK.length := by rw [← O.hk, List.length_map]
      have h2 : Z.homeK.length ≤ 1000 := by
        have := K.hz
        unfold Hst.homeK
        rw [List.length_map]
        exact this
      omega
    obtain ⟨S1, e1, T1⟩ := settle_ok A q.1 q.2 hz
    have A1 := T1.1.at_
    have ph1 : S1[L.ph]? = some (phC (.up k)) := by
      have := hs_ph A1
      rw [show ({ h with home := apt h.home q.1 q.2 } : Hs).ph = h.ph from rfl, hp] at this
      exact this
    have s3 : dExpr (dMeth "House" "settle" F_House_settle [] (dVar 1) (aCons (dBin pIx (dVar 8) (dC (.int 0))) (aCons (dBin pIx (dVar 8) (dC (.int 1))) (aCons (dVar 9) aNil)))) ρ2 S = some (.nx ρ2 S1) := expr_of (mH A rfl (args3 (x := .str q.1.1) (y := .int (q.1.2 : Nat)) (z := .int q.2) rfl rfl rfl) e1)
    have s4 : dAugF AT "passed" pAddI (dC (.int 1)) (dVar 0) ρ2 S1 = some (.nx ρ2 (S1.set L.ph (phC (.up (k + 1))))) := augF_at (n := L.ph) (C := "Up") (fs := [("passed", .int (k : Nat))]) (x := .int (k : Nat)) rfl ph1 rfl rfl rfl rfl ph1 (show (1 : Nat) < 1000 by decide)
    refine ⟨.inr ⟨_, L, run_rt rfl ((seq_nx s1).trans (hit c ((seq_nx s2).trans ((seq_nx s3).trans ((seq_nx s4).trans (ret_of rfl)))))), ?_, rfl⟩⟩
    rw [hs]
    exact T1.trans (set_ph A1 (.up (k + 1)))
  | none =>
    rw [show (h.page h.front).turned[k]? = none from hk] at hs
    have hs : h.step Z = { h.comeUp p with ph := .go p.row } := hs
    have kl : ¬ k < p.turned.length := fun z => by rw [List.getElem?_eq_getElem z] at hk; cases hk
    rw [decide_eq_false kl] at c
    obtain ⟨S1, L1, e1, T1, hL⟩ := come_up_ok A p (by omega)
    exact ⟨.inl ⟨S1, L1, h.comeUp p, .go p.row, run_rt rfl ((seq_nx s1).trans ((skp c).trans ((seq_nx (expr_of (mH A rfl (argsC (x := .int p.done) rfl (args3 (x := .int p.hears) (y := .int p.says) (z := .lst .own (p.held.map bvD)) rfl rfl rfl)) e1))).trans (ret_of (mk_going (t := p.row) (args1 rfl)))))), T1, hs⟩⟩
/-! ### writing down -/
theorem back_lst (A : AtS S (hsC Z L h)) {f : Str} {d : DV} {ρ : List (Option DV)} (hl : (pgF h.back (HL.hL L (!h.front)) (HL.tL L (!h.front))).lookup f = some d) (hT : AT.contains (("Page" : Str), f) = true) :
    dFld AT f (dBin pIx (dFld AT "pages" (dVar 0)) (dBin pSub (dC (.int 1)) (dFld AT "front" (dVar 0)))) (some (.loc L.st) :: ρ) S = some (d, S) := by
  have e : dBin pSub (dC (.int 1)) (dFld AT "front" (dVar 0)) (some (.loc L.st) :: ρ) S = some (.int (frN (!h.front) : Nat), S) := by
    refine (subI_of (a := 1) (b := (frN h.front : Nat)) rfl (fS A rfl)).trans ?_
    cases h.front <;> rfl
  exact fld_at (pages_get A rfl e) (at_p A (!h.front)) hT hl
theorem mk_page {fa : DA} {p : Pg} (h1 : p.held = []) (h2 : p.turned = []) {ρ : List (Option DV)} {S S1 : Sto} (ha : fa ρ S = some ([.int p.row, .int p.done, .int p.hears, .int p.says], S1)) : dMake "Page" F_Page_init [] fa ρ S = some (.loc S1.length, S1 ++ pgCells p S1.length) := by
  let ρ0 : List (Option DV) := [some (.loc S1.length), some (.int p.row), some (.int p.done), some (.int p.hears), some (.int p.says)]
  have gl : ∀ (c : Cell) (T : Sto), (S1 ++ c :: T)[S1.length]? = some c := fun c T => by
    rw [List.getElem?_append_right (Nat.le_refl _), Nat.sub_self] <;> rfl
  have st : ∀ (c c' : Cell) (T : Sto), (S1 ++ c :: T).set S1.length c' = S1 ++ c' :: T := fun c c' T => by
    rw [List.set_append_right _ _ (Nat.le_refl _), Nat.sub_self]
    rfl
  have e1 : dSetF AT "head" (dPrim pTup (aCons (dVar 1) (aCons (dVar 2) (aCons (dVar 3) (aCons (dVar 4) aNil))))) (dVar 0) ρ0 (S1 ++ [.ins "Page" []]) = some (.nx ρ0 (S1 ++ [.ins "Page" [("head", headD p)]])) := by
    rw [setF_at (C := "Page") (fs := []) (n := S1.length) (y := headD p) rfl rfl (gl _ _) rfl (show (0 : Nat) < 1000 by decide), st]
    rfl
  have e2 : dSetF AT "held" (dPrim pLstM aNil) (dVar 0) ρ0 (S1 ++ [.ins "Page" [("head", headD p)]]) = some (.nx ρ0 (S1 ++ [.ins "Page" [("head", headD p), ("held", .loc (S1.length + 1))], .lst []])) := by
    have v : dPrim pLstM aNil ρ0 (S1 ++ [.ins "Page" [("head", headD p)]]) = some (.loc (S1.length + 1), S1 ++ [.ins "Page" [("head", headD p)], .lst []]) := by
      have : dPrim pLstM aNil ρ0 (S1 ++ [.ins "Page" [("head", headD p)]]) = some (.loc (S1 ++ [Cell.ins "Page" [("head", headD p)]]).length, (S1 ++ [Cell.ins "Page" [("head", headD p)]]) ++ [.lst []]) := rfl
      rw [this, List.length_append, List.append_assoc]
      rfl
    rw [setF_at (C := "Page") (fs := [("head", headD p)]) (n := S1.length) v rfl (gl _ _) rfl (show (1 : Nat) < 1000 by decide), st]
    rfl
  have e3 : dSetF AT "turned" (dPrim pLstM aNil) (dVar 0) ρ0 (S1 ++ [.ins "Page" [("head", headD p), ("held", .loc (S1.length + 1))], .lst []]) = some (.nx ρ0 (S1 ++ pgCells p S1.length)) := by
    have v : dPrim pLstM aNil ρ0 (S1 ++ [.ins "Page" [("head", headD p), ("held", .loc (S1.length + 1))], .lst []]) = some (.loc (S1.length + 2), S1 ++ [.ins "Page" [("head", headD p), ("held", .loc (S1.length + 1))], .lst [], .lst []]) := by
      have : dPrim pLstM aNil ρ0 (S1 ++ [.ins "Page" [("head", headD p), ("held", .loc (S1.length + 1))], .lst []]) = some (.loc (S1 ++ [Cell.ins "Page" [("head", headD p), ("held", .loc (S1.length + 1))], .lst []]).length, (S1 ++ [Cell.ins "Page" [("head", headD p), ("held", .loc (S1.length + 1))], .lst []]) ++ [.lst []]) := rfl
      rw [this, List.length_append, List.append_assoc]
      rfl
    rw [setF_at (C := "Page") (fs := [("head", headD p), ("held", .loc (S1.length + 1))]) (n := S1.length) v rfl (gl _ _) rfl (show (2 : Nat) < 1000 by decide), st]
    rfl
  unfold dMake
  simp only [ha]
  show (match F_Page_init (.loc S1.length :: ([.int p.row, .int p.done, .int p.hears, .int p.says] ++ [])) (S1 ++ [.ins "Page" []]) with | some (.non, S2) => some (DV.loc S1.length, S2) | _ => none) = _
  rw [show F_Page_init (.loc S1.length :: ([.int p.row, .int p.done, .int p.hears, .int p.says] ++ [])) (S1 ++ [.ins "Page" []]) = some (.non, S1 ++ pgCells p S1.length) from run_nx rfl ((seq_nx e1).trans ((seq_nx e2).trans e3))]
theorem app_at {f e : DE} {n : Nat} {xs : List DV} {y : DV} {ρ : List (Option DV)} {S : Sto} (hf : f ρ S = some (.loc n, S)) (hn : S[n]? = some (.lst xs)) (he : e ρ S = some (y, S)) (hz : xs.length < 16777216) : dExpr (dMt pAppend f (aCons e aNil)) ρ S = some (.nx ρ (S.set n (.lst (xs ++ [y])))) := append_of hf hn he hz
theorem deed_ok (A : AtS S (hsC Z L h)) {N : Nat} (O : h.Ok Z N) (hN : N ≤ 999990) (K : Z.Ok) (d : Dd) : ∃ S1 L1, F_House_small_step [.loc L.o, d.d] S = some (.non, S1) ∧ HSt Z S L h S1 L1 (h.deed d) ∧ L1.ph = L.ph := by
  have B := O.page (!h.front)
  have bz : h.back.held.length ≤ N := B.hz
  have tz : h.back.turned.length ≤ N := B.tz
  cases d with
  | page r =>
    let p : Pg := ⟨r, h.done, h.hears, h.says, [], []⟩
    let ρ : List (Option DV) := [some (.loc L.st), some (.int (r : Nat)), some (.int h.done), some (.int h.hears), some (.int h.says)]
    have mk : dMake "Page" F_Page_init [] (aCons (dVar 1) (aCons (dVar 2) (aCons (dVar 3) (aCons (dVar 4) aNil)))) ρ S = some (.loc S.length, S ++ pgCells p S.length) := mk_page (p := p) rfl rfl (argsC rfl (args3 rfl rfl rfl))
    have AJ : AtS (S ++ pgCells p S.length) (hsC Z L h) := (Stp.junk A (T := pgCells p S.length) rfl).at_
    have e : dBin pSub (dC (.int 1)) (dFld AT "front" (dVar 0)) ρ (S ++ pgCells p S.length) = some (.int (frN (!h.front) : Nat), S ++ pgCells p S.length) := by
      refine (subI_of (a := 1) (b := (frN h.front : Nat)) rfl (fS AJ rfl)).trans ?_
      cases h.front <;> rfl
    have fin : ∀ {S1 : Sto}, setI (.loc L.pg) (.int (frN (!h.front) : Nat)) (.loc S.length) (S ++ pgCells p S.length) = some S1 → F_House_small_step [.loc L.o, (Dd.page r).d] S = some (.non, S1) := fun {S1} hs => by
      have b : F_Store_begin_page [.loc L.st, .int (r : Nat), .int h.done, .int h.hears, .int h.says] S = some (.non, S1) := run_nx rfl (sub_of mk (fS AJ rfl) e hs)
      exact run_nx rfl ((ifS_t (S1 := S) (bin_of (bin_of rfl rfl rfl) rfl rfl)).trans (expr_of (mS A (fH A rfl) (argsC (x := .int (r : Nat)) rfl (args3 (x := .int h.done) (y := .int h.hears) (z := .int h.says) (fH A rfl) (fH A rfl) (fH A rfl))) b)))
    have df : h.deed (.page r) = h.setBack p := rfl
    cases hf : h.front with
    | true =>
      rw [hf] at fin
      refine ⟨_, { L with p0 := S.length, h0 := S.length + 1, t0 := S.length + 2 }, fin (setI_lst (hs_pg AJ) (j := 0) rfl), ?_, rfl⟩
      have : h.deed (.page r) = { h with p0 := p } := by
        rw [df]
        unfold Hs.setBack
        rw [if_pos hf]
      rw [this]
      exact new_p0 (p := p) A rfl rfl
    | false =>
      rw [hf] at fin
      refine ⟨_, { L with p1 := S.length, h1 := S.length + 1, t1 := S.length + 2 }, fin (setI_lst (hs_pg AJ) (j := 1) rfl), ?_, rfl⟩
      have : h.deed (.page r) = { h with p1 := p } := by
        rw [df]
        unfold Hs.setBack
        rw [if_neg (by rw [hf]; decide)]
      rw [this]
      exact new_p1 (p := p) A rfl rfl
  | box x v =>
    let ρ : List (Option DV) := [some (.str x), some (.int v)]
    have e := app_at (f := dFld AT "held" (dBin pIx (dFld AT "pages" (dVar 0)) (dBin pSub (dC (.int 1)) (dFld AT "front" (dVar 0))))) (e := dPrim pTup (aCons (dVar 1) (aCons (dVar 2) aNil))) (ρ := some (.loc L.st) :: ρ) (S := S) (y := bvD (x, v)) (back_lst A rfl rfl) (at_h A (!h.front)) rfl (by rw [List.length_map]; show h.back.held.length < _; omega)
    have b : F_Store_keep_box [.loc L.st, .str x, .int v] S = some (.non, S.set (HL.hL L (!h.front)) (.lst ((h.page (!h.front)).held.map bvD ++ [bvD (x, v)]))) := run_nx rfl e
    refine ⟨_, L, run_nx rfl ((ifS_f (S1 := S) (bin_of (bin_of rfl rfl rfl) rfl rfl)).trans ((ifS_t (S1 := S) (bin_of (bin_of rfl rfl rfl) rfl rfl)).trans (expr_of (mS A (fH A rfl) (args2 (x := .str x) (y := .int v) rfl rfl) b)))), ?_, rfl⟩
    have me : (h.page (!h.front)).held.map bvD ++ [bvD (x, v)] = (h.back.held ++ [(x, v)]).map bvD := by
      rw [List.map_append]
      rfl
    rw [me]
    have df : h.deed (.box x v) = h.setBack { h.back with held := h.back.held ++ [(x, v)] } := rfl
    cases hf : h.front with
    | true =>
      have hb : h.back = h.p0 := by
        unfold Hs.back Hs.page
        rw [hf]
        rfl
      have : h.deed (.box x v) = { h with p0 := { h.p0 with held := h.p0.held ++ [(x, v)] } } := by
        rw [df, hb]
        unfold Hs.setBack
        rw [if_pos hf]
      rw [this, hb]
      exact set_h0 A _
    | false =>
      have hb : h.back = h.p1 := by
        unfold Hs.back Hs.page
        rw [hf]
        rfl
      have : h.deed (.box x v) = { h with p1 := { h.p1 with held := h.p1.held ++ [(x, v)] } } := by
        rw [df, hb]
        unfold Hs.setBack
        rw [if_neg (by rw [hf]; decide)]
      rw [this, hb]
      exact set_h1 A _
  | turn p v =>
    let ρ : List (Option DV) := [some (.str p.1), some (.int (p.2 : Nat)), some (.int v)]
    have e := app_at (f := dFld AT "turned" (dBin pIx (dFld AT "pages" (dVar 0)) (dBin pSub (dC (.int 1)) (dFld AT "front" (dVar 0))))) (e := dPrim pTup (aCons (dPrim pTup (aCons (dVar 1) (aCons (dVar 2) aNil))) (aCons (dVar 3) aNil))) (ρ := some (.loc L.st) :: ρ) (S := S) (y := tnD (p, v)) (back_lst A rfl rfl) (at_t A (!h.front)) rfl (by rw [List.length_map]; show h.back.turned.length < _; omega)
    have b : F_Store_keep_turn [.loc L.st, .str p.1, .int (p.2 : Nat), .int v] S = some (.non, S.set (HL.tL L (!h.front)) (.lst ((h.page (!h.front)).turned.map tnD ++ [tnD (p, v)]))) := run_nx rfl e
    refine ⟨_, L, run_nx rfl ((ifS_f (S1 := S) (bin_of (bin_of rfl rfl rfl) rfl rfl)).trans ((ifS_f (S1 := S) (bin_of (bin_of rfl rfl rfl) rfl rfl)).trans ((ifS_t (S1 := S) (bin_of (bin_of rfl rfl rfl) rfl rfl)).trans (expr_of (mS A (fH A rfl) (args3 (x := .str p.1) (y := .int (p.2 : Nat)) (z := .int v) rfl rfl rfl) b))))), ?_, rfl⟩
    have me : (h.page (!h.front)).turned.map tnD ++ [tnD (p, v)] = (h.back.turned ++ [(p, v)]).map tnD := by
      rw [List.map_append]
      rfl
    rw [me]
    have df : h.deed (.turn p v) = h.setBack { h.back with turned := h.back.turned ++ [(p, v)] } := rfl
    cases hf : h.front with
    | true =>
      have hb : h.back = h.p0 := by
        unfold Hs.back Hs.page
        rw [hf]
        rfl
      have : h.deed (.turn p v) = { h with p0 := { h.p0 with turned := h.p0.turned ++ [(p, v)] } } := by
        rw [df, hb]
        unfold Hs.setBack
        rw [if_pos hf]
      rw [this, hb]
      exact set_t0 A _
    | false =>
      have hb : h.back = h.p1 := by
        unfold Hs.back Hs.page
        rw [hf]
        rfl
      have : h.deed (.turn p v) = { h with p1 := { h.p1 with turned := h.p1.turned ++ [(p, v)] } } := by
        rw [df, hb]
        unfold Hs.setBack
        rw [if_neg (by rw [hf]; decide)]
      rw [this, hb]
      exact set_t1 A _
  | face =>
    obtain ⟨S1, e1, T1⟩ := turn_ok A
    exact ⟨S1, L, run_nx rfl ((ifS_f (S1 := S) (bin_of (bin_of rfl rfl rfl) rfl rfl)).trans ((ifS_f (S1 := S) (bin_of (bin_of rfl rfl rfl) rfl rfl)).trans ((ifS_f (S1 := S) (bin_of (bin_of rfl rfl rfl) rfl rfl)).trans ((ifS_t (S1 := S) (bin_of (bin_of rfl rfl rfl) rfl rfl)).trans (expr_of (mS A (fH A rfl) rfl e1)))))), T1, rfl⟩
  | home p v =>
    have hz : h.home.length < 16777216 := by
      have h1 : h.home.length = Z.homeK.length := by rw [← O.hk, List.length_map]
      have h2 : Z.homeK.length ≤ 1000 := by
        have := K.hz
        unfold Hst.homeK
        rw [List.length_map]
        exact this
      omega
    obtain ⟨S1, e1, T1⟩ := settle_ok A p v hz
    exact ⟨S1, L, run_nx rfl ((ifS_f (S1 := S) (bin_of (bin_of rfl rfl rfl) rfl rfl)).trans ((ifS_f (S1 := S) (bin_of (bin_of rfl rfl rfl) rfl rfl)).trans ((ifS_f (S1 := S) (bin_of (bin_of rfl rfl rfl) rfl rfl)).trans ((ifS_f (S1 := S) (bin_of (bin_of rfl rfl rfl) rfl rfl)).trans (expr_of (mH A rfl (args3 (x := .str p.1) (y := .int (p.2 : Nat)) (z := .int v) rfl rfl rfl) e1)))))), T1, rfl⟩
theorem setBack_ph (p : Pg) : (h.setBack p).ph = h.ph := by
  unfold Hs.setBack
  split <;> rfl
theorem deed_ph (d : Dd) : (h.deed d).ph = h.ph := by
  cases d with
  | face => rfl
  | home p v => rfl
  | page r => exact setBack_ph _
  | box x v => exact setBack_ph _
  | turn p v => exact setBack_ph _
theorem keeping_ok (A : AtS S (hsC Z L h)) {N : Nat} (O : h.Ok Z N) (hN : N ≤ 999990) (K : Z.Ok) {r k : Nat} {l : List Dd} (hp : h.ph = .keep r l k) : Goes Z S L h F_Keeping_goes := by
  have ph := hs_ph A
  rw [hp] at ph
  have op := O.ph
  rw [hp] at op
  obtain ⟨o1, o2, o3, o4⟩ := op
  obtain ⟨d, hd⟩ : ∃ d, l[k]? = some d := ⟨_, List.getElem?_eq_getElem o2⟩
  obtain ⟨S1, L1, e1, T1, hL⟩ := deed_ok A O hN K d
  have A1 := T1.1.at_
  have hs := step_keep (Z := Z) hp hd
  let fs : List (Str × DV) := [("line", .int r), ("steps", .lst .own (l.map Dd.d)), ("passed", .int k)]
  have ph1 : S1[L.ph]? = some (.ins "Keeping" fs) := by
    have := hs_ph A1
    rw [deed_ph, hp, hL] at this
    exact this
  let ρ : List (Option DV) := [some (.loc L.ph), some (.loc L.o)]
  have s1 : dExpr (dMeth "House" "small_step" F_House_small_step [] (dVar 1) (aCons (dBin pIx (dFld AT "steps" (dVar 0)) (dFld AT "passed" (dVar 0))) aNil)) ρ S = some (.nx ρ S1) := by
    refine expr_of (mH A rfl (args1 (bin_of (x := .lst .own (l.map Dd.d)) (y := .int (k : Nat)) (fld_at rfl ph rfl rfl) (fld_at rfl ph rfl rfl) (ix_seq (atD_nat ?_)))) e1)
    rw [List.getElem?_map, hd]
    rfl
  let S2 := S1.set L.ph (phC (.keep r l (k + 1)))
  have s2 : dAugF AT "passed" pAddI (dC (.int 1)) (dVar 0) ρ S1 = some (.nx ρ S2) := augF_at (n := L.ph) (C := "Keeping") (fs := fs) (x := .int (k : Nat)) rfl ph1 rfl rfl rfl rfl ph1 (show (3 : Nat) < 1000 by decide)
  have T2 : HSt Z S1 L1 (h.deed d) S2 L1 { h.deed d with ph := .keep r l (k + 1) } := by
    have := set_ph A1 (.keep r l (k + 1))
    rw [hL] at this
    exact this
  have A2 := T2.1.at_
  have ph2 : S2[L.ph]? = some (phC (.keep r l (k + 1))) := by
    have := hs_ph A2
    rw [hL] at this
    exact this
  have c : dBin pLt (dFld AT "passed" (dVar 0)) (dPrim pLen (aCons (dFld AT "steps" (dVar 0)) aNil)) ρ S2 = some (.bl (decide (k + 1 < l.length)), S2) := by
    have l7 := lenL_of (f := dFld AT "steps" (dVar 0)) (ρ := ρ) (S := S2) (S1 := S2) (k := .own) (xs := l.map Dd.d) (fld_at rfl ph2 rfl rfl)
    rw [List.length_map] at l7
    have fp : dFld AT "passed" (dVar 0) ρ S2 = some (.int ((k + 1 : Nat) : Int), S2) := fld_at rfl ph2 rfl rfl
    refine (bin_of fp l7 Dn.v_lt).trans ?_
    congr 3
    exact decide_eq_decide.mpr (by omega)
  by_cases q : k + 1 < l.length
  · rw [decide_eq_true q] at c
    rw [if_pos q] at hs
    refine ⟨.inr ⟨S2, L1, run_rt rfl ((seq_nx s1).trans ((seq_nx s2).trans (hit c (ret_of rfl)))), ?_, hL⟩⟩
    rw [hs]
    exact T1.trans T2
  · rw [decide_eq_false q] at c
    rw [if_neg q] at hs
    have T3 := new_log A2
    have lo : L1.o = L.o := T1.2
    have s4 : dExpr (dMeth "House" "forget_log" F_House_forget_log [] (dVar 1) aNil) ρ S2 = some (.nx ρ ((S2 ++ [dkP intD []]).set L1.o (.ins "House" (hsF Z { L1 with lo := S2.length } { h.deed d with ph := .keep r l (k + 1), log := [] })))) := by
      refine expr_of (mH A2 (by rw [lo]; rfl) rfl (run_nx rfl (setF_at (y := .loc S2.length) (n := L1.o) (C := "House") (fs := hsF Z L1 { h.deed d with ph := .keep r l (k + 1) }) rfl rfl ((List.getElem?_append_left (List.getElem?_eq_some_iff.mp (hs_o A2)).1).trans (hs_o A2)) rfl (show (15 : Nat) < 1000 by decide))))
    have A3 := T3.1.at_
    have ph3 := hs_ph A3
    refine ⟨.inl ⟨_, _, { h.deed d with ph := .keep r l (k + 1), log := [] }, .go r, run_rt rfl ((seq_nx s1).trans ((seq_nx s2).trans ((skp c).trans ((seq_nx s4).trans (ret_of (mk_going (t := r) (args1 (fld_at (C := "Keeping") (fs := [("line", .int r), ("steps", .lst .own (l.map Dd.d)), ("passed", .int ((k + 1 : Nat) : Int))]) (n := L.ph) (d := .int (r : Nat)) rfl ?_ rfl rfl)))))))), (T1.trans T2).trans T3, hs⟩⟩
    rw [← hL]
    exact ph3
/-! ### a step -/
theorem step_ok (A : AtS S (hsC Z L h)) {N : Nat} (O : h.Ok Z N) (hN : N ≤ 999990) (K : Z.Ok) (nl : S.all notLok = true) : ∃ S' L', F_House_step [.loc L.o] S = some (.non, S') ∧ HSt Z S L h S' L' (h.step Z) := by
  let ρ : List (Option DV) := [some (.loc L.o)]
  have fp : dFld AT "phase" (dVar 0) ρ S = some (.loc L.ph, S) := fH A rfl
  have ph := hs_ph A
  -- the phase is put back
  have fin : ∀ {F : PL} {e : DE}, Goes Z S L h F → (∀ {r}, F [.loc L.ph, .loc L.o] S = some r → e ρ S = some r) → ∃ S' L', (match dSetF AT "phase" e (dVar 0) ρ S with | some (.rt d S') => some (d, S') | some (.nx _ S') => some (DV.non, S') | _ => none) = some (.non, S') ∧ HSt Z S L h S' L' (h.step Z) := fun {F e} G he => by
    rcases G.ex with ⟨S1, L1, h1, p, e1, T1, hs⟩ | ⟨S1, L1, e1, T1, hL⟩
    · have A1 := T1.1.at_
      have T2 := new_ph A1 p
      have lo : L1.o = L.o := T1.2
      have e2 : dSetF AT "phase" e (dVar 0) ρ S = some (.nx ρ ((S1 ++ [phC p]).set L1.o (.ins "House" (hsF Z { L1 with ph := S1.length } { h1 with ph := p })))) :=
        setF_at (y := .loc S1.length) (n := L1.o) (C := "House") (fs := hsF Z L1 h1) (he e1) (by rw [lo]; rfl) ((List.getElem?_append_left (List.getElem?_eq_some_iff.mp (hs_o A1)).1).trans (hs_o A1)) rfl (show (15 : Nat) < 1000 by decide)
      rw [e2, hs]
      exact ⟨_, _, rfl, T1.trans T2⟩
    · have A1 := T1.1.at_
      have T2 := set_hs A1 (h.step Z).dust (h.step Z).done (h.step Z).hears (h.step Z).says
      have lo : L1.o = L.o := T1.2
      have e2 : dSetF AT "phase" e (dVar 0) ρ S = some (.nx ρ (S1.set L1.o (.ins "House" (hsF Z L1 (h.step Z))))) := by
        have := setF_at (T := AT) (f := "phase") (v := e) (g := dVar 0) (ρ := ρ) (y := .loc L.ph) (n := L1.o) (C := "House") (fs := hsF Z L1 (h.step Z)) (he e1) (by rw [lo]; rfl) (hs_o A1) rfl (show (15 : Nat) < 1000 by decide)
        rw [← hL] at this
        exact this
      rw [e2]
      exact ⟨_, _, rfl, T1.trans T2⟩
  have go : ∀ {C m : Str} {F : PL} {fs : List (Str × DV)} {r : DV × Sto}, S[L.ph]? = some (.ins C fs) → fs.lookup m = none → F [.loc L.ph, .loc L.o] S = some r → dMeth C m F [] (dFld AT "phase" (dVar 0)) (aCons (dVar 0) aNil) ρ S = some r := fun {C m F fs r} hS hl hF => (meth_at fp hS hl (args1 rfl)).trans hF
  have no : ∀ {C D m : Str} {F : PL} {fs : List (Str × DV)}, S[L.ph]? = some (.ins D fs) → D ≠ C → dMeth C m F [] (dFld AT "phase" (dVar 0)) (aCons (dVar 0) aNil) ρ S = none := fun {C D m F fs} hS hne => meth_not fp hS hne
  have key : ∀ {x : Option (DV × Sto)}, (match dSetF AT "phase" (orD (dMeth "Going" "goes" F_Going_goes [] (dFld AT "phase" (dVar 0)) (aCons (dVar 0) aNil)) (orD (dMeth "Keeping" "goes" F_Keeping_goes [] (dFld AT "phase" (dVar 0)) (aCons (dVar 0) aNil)) (orD (dMeth "Up" "goes" F_Up_goes [] (dFld AT "phase" (dVar 0)) (aCons (dVar 0) aNil)) (dMeth "Resting" "goes" F_Phase_goes [] (dFld AT "phase" (dVar 0)) (aCons (dVar 0) aNil))))) (dVar 0) ρ S with | some (.rt d S') => some (d, S') | some (.nx _ S') => some (DV.non, S') | _ => none) = x → F_House_step [.loc L.o] S = x := fun {x} hx => hx
  cases hp : h.ph with
  | go i =>
    rw [hp] at ph
    have G : Goes Z S L h F_Going_goes := ⟨.inl (by
      obtain ⟨S1, h1, p, e1, T1, hs⟩ := going_ok A O hN K nl hp
      exact ⟨S1, L, h1, p, e1, T1, hs⟩)⟩
    obtain ⟨S', L', e, T⟩ := fin G fun {r} hr => orD_l (go (m := "goes") ph rfl hr)
    exact ⟨S', L', key e, T⟩
  | keep r l k =>
    rw [hp] at ph
    obtain ⟨S', L', e, T⟩ := fin (keeping_ok A O hN K hp) fun {r} hr => (orD_r (no (C := "Going") (D := "Keeping") ph (by decide +kernel))).trans (orD_l (go (m := "goes") ph rfl hr))
    exact ⟨S', L', key e, T⟩
  | up k =>
    rw [hp] at ph
    obtain ⟨S', L', e, T⟩ := fin (up_ok A O hN K hp) fun {r} hr => (orD_r (no (C := "Going") (D := "Up") ph (by decide +kernel))).trans ((orD_r (no (C := "Keeping") (D := "Up") ph (by decide +kernel))).trans (orD_l (go (m := "goes") ph rfl hr)))
    exact ⟨S', L', key e, T⟩
  | rest =>
    rw [hp] at ph
    have G : Goes Z S L h F_Phase_goes := ⟨.inr ⟨S, L, run_rt rfl (ret_of rfl), by rw [step_rest hp]; exact HSt.refl A, rfl⟩⟩
    obtain ⟨S', L', e, T⟩ := fin G fun {r} hr => (orD_r (no (C := "Going") (D := "Resting") ph (by decide +kernel))).trans ((orD_r (no (C := "Keeping") (D := "Resting") ph (by decide +kernel))).trans ((orD_r (no (C := "Up") (D := "Resting") ph (by decide +kernel))).trans (go (m := "goes") ph rfl hr)))
    exact ⟨S', L', key e, T⟩
end
end Lk76

namespace Lk76
open PySem PySem.Spec PyProof.Rows L2 Dn
section
variable {Z : Hst} {S S0 : Sto} {L : HL} {h : Hs} {ρ : List (Option DV)}
/-! ### what the house tells -/
def phN : Ph → Str
  | .up _ => "Up"
  | .go _ => "Going"
  | .keep _ _ _ => "Keeping"
  | .rest => "Resting"
def phF : Ph → List (Str × DV)
  | .up k => [("passed", .int k)]
  | .go r => [("line", .int r)]
  | .keep r l k => [("line", .int r), ("steps", .lst .own (l.map Dd.d)), ("passed", .int k)]
  | .rest => []
theorem phC_eq (p : Ph) : phC p = .ins (phN p) (phF p) := by cases p <;> rfl
theorem at_ph (A : AtS S (hsC Z L h)) : S[L.ph]? = some (.ins (phN h.ph) (phF h.ph)) := by
  rw [← phC_eq]
  exact hs_ph A
theorem rests_ok (A : AtS S (hsC Z L h)) : F_House_rests [.loc L.o] S = some (.bl h.ph.isRest, S) := by
  have key : ∀ {t : Str × Str × Bool}, (IT.find? fun t => t.1 == phN h.ph && t.2.1 == ("Resting" : Str)) = some t → t.2.2 = h.ph.isRest → F_House_rests [.loc L.o] S = some (.bl h.ph.isRest, S) := fun {t} ht e => by
    rw [← e]
    exact run_rt rfl (ret_of (isC_at (fH A rfl) (at_ph A) ht))
  cases hp : h.ph with
  | up k => rw [hp] at key; exact key (t := ("Up", "Resting", false)) rfl rfl
  | go k => rw [hp] at key; exact key (t := ("Going", "Resting", false)) rfl rfl
  | keep r l k => rw [hp] at key; exact key (t := ("Keeping", "Resting", false)) rfl rfl
  | rest => rw [hp] at key; exact key (t := ("Resting", "Resting", true)) rfl rfl
theorem lose_ok (A : AtS S (hsC Z L h)) (d : Int) : ∃ S' L', F_House_lose [.loc L.o, .int d] S = some (.non, S') ∧ HSt Z S L h S' L' (h.lose d) := by
  let ρ : List (Option DV) := [some (.loc L.o), some (.int d)]
  have T1 := set_hs A d h.done h.hears h.says
  have s1 : dSetF AT "dust" (dVar 1) (dVar 0) ρ S = some (.nx ρ _) := setF_at (y := .int d) (n := L.o) (C := "House") (fs := hsF Z L h) rfl rfl (hs_o A) rfl (show (15 : Nat) < 1000 by decide)
  have A1 := T1.1.at_
  let h1 : Hs := { h with dust := d }
  have A1 : AtS (S.set L.o (.ins "House" (hsF Z L h1))) (hsC Z L h1) := A1
  generalize hS1 : S.set L.o (.ins "House" (hsF Z L h1)) = S1 at A1
  have T1 : HSt Z S L h S1 L h1 := by rw [← hS1]; exact T1
  have s1 : dSetF AT "dust" (dVar 1) (dVar 0) ρ S = some (.nx ρ S1) := by rw [← hS1]; exact s1
  have T2 := new_held A1
  have s2 : dSetF AT "held" (fun _ S => some (.loc S.length, S ++ [.dik [] []])) (dVar 0) ρ S1 = some (.nx ρ _) :=
    setF_at (y := .loc S1.length) (n := L.o) (C := "House") (fs := hsF Z L h1) rfl rfl ((List.getElem?_append_left (List.getElem?_eq_some_iff.mp (hs_o A1)).1).trans (hs_o A1)) rfl (show (15 : Nat) < 1000 by decide)
  have A2 := T2.1.at_
  let L2 : HL := { L with he := S1.length }
  let h2 : Hs := { h1 with held := [] }
  generalize hS2 : (S1 ++ [dkS intD []]).set L.o (.ins "House" (hsF Z L2 h2)) = S2 at A2
  have T2 : HSt Z S1 L h1 S2 L2 h2 := by rw [← hS2]; exact T2
  have s2 : dSetF AT "held" (fun _ S => some (.loc S.length, S ++ [.dik [] []])) (dVar 0) ρ S1 = some (.nx ρ S2) := by rw [← hS2]; exact s2
  have A2 : AtS S2 (hsC Z L2 h2) := A2
  have T3 := new_log A2
  have s3 : dSetF AT "log" (fun _ S => some (.loc S.length, S ++ [.dit [] []])) (dVar 0) ρ S2 = some (.nx ρ _) :=
    setF_at (y := .loc S2.length) (n := L.o) (C := "House") (fs := hsF Z L2 h2) rfl rfl ((List.getElem?_append_left (List.getElem?_eq_some_iff.mp (hs_o A2)).1).trans (hs_o A2)) rfl (show (15 : Nat) < 1000 by decide)
  have A3 := T3.1.at_
  let L3 : HL := { L2 with lo := S2.length }
  let h3 : Hs := { h2 with log := [] }
  generalize hS3 : (S2 ++ [dkP intD []]).set L2.o (.ins "House" (hsF Z L3 h3)) = S3 at A3
  have T3 : HSt Z S2 L2 h2 S3 L3 h3 := by rw [← hS3]; exact T3
  have s3 : dSetF AT "log" (fun _ S => some (.loc S.length, S ++ [.dit [] []])) (dVar 0) ρ S2 = some (.nx ρ S3) := by rw [← hS3]; exact s3
  have A3 : AtS S3 (hsC Z L3 h3) := A3
  have T4 := set_hs A3 d 0 h.hears h.says
  have s4 : dSetF AT "done" (dC (.int 0)) (dVar 0) ρ S3 = some (.nx ρ _) := setF_at (y := .int 0) (n := L.o) (C := "House") (fs := hsF Z L3 h3) rfl rfl (hs_o A3) rfl (show (15 : Nat) < 1000 by decide)
  have A4 := T4.1.at_
  let h4 : Hs := { h3 with done := 0 }
  generalize hS4 : S3.set L3.o (.ins "House" (hsF Z L3 h4)) = S4 at A4
  have T4 : HSt Z S3 L3 h3 S4 L3 h4 := by rw [← hS4]; exact T4
  have s4 : dSetF AT "done" (dC (.int 0)) (dVar 0) ρ S3 = some (.nx ρ S4) := by rw [← hS4]; exact s4
  have A4 : AtS S4 (hsC Z L3 h4) := A4
  have T5 := set_hs A4 d 0 0 h.says
  have s5 : dSetF AT "hears" (dC (.int 0)) (dVar 0) ρ S4 = some (.nx ρ _) := setF_at (y := .int 0) (n := L.o) (C := "House") (fs := hsF Z L3 h4) rfl rfl (hs_o A4) rfl (show (15 : Nat) < 1000 by decide)
  have A5 := T5.1.at_
  let h5 : Hs := { h4 with hears := 0 }
  generalize hS5 : S4.set L3.o (.ins "House" (hsF Z L3 h5)) = S5 at A5
  have T5 : HSt Z S4 L3 h4 S5 L3 h5 := by rw [← hS5]; exact T5
  have s5 : dSetF AT "hears" (dC (.int 0)) (dVar 0) ρ S4 = some (.nx ρ S5) := by rw [← hS5]; exact s5
  have A5 : AtS S5 (hsC Z L3 h5) := A5
  have T6 := set_hs A5 d 0 0 0
  have s6 : dSetF AT "says" (dC (.int 0)) (dVar 0) ρ S5 = some (.nx ρ _) := setF_at (y := .int 0) (n := L.o) (C := "House") (fs := hsF Z L3 h5) rfl rfl (hs_o A5) rfl (show (15 : Nat) < 1000 by decide)
  have A6 := T6.1.at_
  let h6 : Hs := { h5 with says := 0 }
  generalize hS6 : S5.set L3.o (.ins "House" (hsF Z L3 h6)) = S6 at A6
  have T6 : HSt Z S5 L3 h5 S6 L3 h6 := by rw [← hS6]; exact T6
  have s6 : dSetF AT "says" (dC (.int 0)) (dVar 0) ρ S5 = some (.nx ρ S6) := by rw [← hS6]; exact s6
  have A6 : AtS S6 (hsC Z L3 h6) := A6
  have T7 := new_ph A6 (.up 0)
  have mk : dMake "Up" F_Up_init [] aNil ρ S6 = some (.loc S6.length, S6 ++ [phC (.up 0)]) := by
    have st : (S6 ++ [Cell.ins "Up" []]).set S6.length (.ins "Up" [("passed", .int 0)]) = S6 ++ [.ins "Up" [("passed", .int 0)]] := by
      rw [List.set_append_right _ _ (Nat.le_refl _), Nat.sub_self]
      rfl
    have e : F_Up_init [.loc S6.length] (S6 ++ [.ins "Up" []]) = some (.non, S6 ++ [.ins "Up" [("passed", .int 0)]]) := by
      rw [← st]
      exact run_nx rfl (setF_at (C := "Up") (fs := []) (n := S6.length) (y := .int 0) rfl rfl (get_len _ _) rfl (show (0 : Nat) < 1000 by decide))
    show (match F_Up_init [.loc S6.length] (S6 ++ [.ins "Up" []]) with | some (.non, S2) => some (DV.loc S6.length, S2) | _ => none) = _
    rw [e]
    rfl
  have s7 : dSetF AT "phase" (dMake "Up" F_Up_init [] aNil) (dVar 0) ρ S6 = some (.nx ρ _) :=
    setF_at (y := .loc S6.length) (n := L.o) (C := "House") (fs := hsF Z L3 h6) mk rfl ((List.getElem?_append_left (List.getElem?_eq_some_iff.mp (hs_o A6)).1).trans (hs_o A6)) rfl (show (15 : Nat) < 1000 by decide)
  exact ⟨_, _, run_nx rfl ((seq_nx s1).trans ((seq_nx s2).trans ((seq_nx s3).trans ((seq_nx s4).trans ((seq_nx s5).trans ((seq_nx s6).trans s7)))))), (((((T1.trans T2).trans T3).trans T4).trans T5).trans T6).trans T7⟩
theorem fail_ok (A : AtS S (hsC Z L h)) (d : Int) : ∃ S' L', F_House_fail [.loc L.o, .int d] S = some (.non, S') ∧ HSt Z S L h S' L' (h.fail d) := by
  let ρ : List (Option DV) := [some (.loc L.o), some (.int d)]
  have c : dNot (dMeth "House" "rests" F_House_rests [] (dVar 0) aNil) ρ S = some (.bl (!h.ph.isRest), S) := not_of (mH A rfl rfl (rests_ok A))
  unfold Hs.fail
  cases q : h.ph.isRest with
  | true =>
    rw [q] at c
    exact ⟨S, L, run_nx rfl ((ifS_f c).trans rfl), HSt.refl A⟩
  | false =>
    rw [q] at c
    obtain ⟨S', L', e, T⟩ := lose_ok A d
    exact ⟨S', L', run_nx rfl ((ifS_t c).trans (expr_of (mH A rfl (args1 rfl) e))), T⟩
def standsD : Ph → DV
  | .go r => .int (r : Nat)
  | _ => .non
theorem stands_ok (A : AtS S (hsC Z L h)) : F_House_stands [.loc L.o] S = some (standsD h.ph, S) := by
  let ρ : List (Option DV) := [some (.loc L.o)]
  have fp : dFld AT "phase" (dVar 0) ρ S = some (.loc L.ph, S) := fH A rfl
  have ph := at_ph A
  have no : ∀ {C D m : Str} {F : PL} {fs : List (Str × DV)}, S[L.ph]? = some (.ins D fs) → D ≠ C → dMeth C m F [] (dFld AT "phase" (dVar 0)) aNil ρ S = none := fun {C D m F fs} hS hne => meth_not fp hS hne
  have go : ∀ {C m : Str} {F : PL} {fs : List (Str × DV)} {r : Option (DV × Sto)}, S[L.ph]? = some (.ins C fs) → fs.lookup m = none → F [.loc L.ph] S = r → dMeth C m F [] (dFld AT "phase" (dVar 0)) aNil ρ S = r := fun {C m F fs r} hS hl hF => (meth_at fp hS hl rfl).trans hF
  cases hp : h.ph with
  | go i =>
    rw [hp] at ph
    exact run_rt rfl (ret_of (orD_l (go (m := "at_row") ph rfl (run_rt rfl (ret_of (fld_at (d := .int (i : Nat)) rfl ph rfl rfl))))))
  | keep r l k =>
    rw [hp] at ph
    exact run_rt rfl (ret_of ((orD_r (no (C := "Going") (D := "Keeping") ph (by decide +kernel))).trans (orD_l (go (m := "at_row") ph rfl (run_rt rfl (ret_of rfl))))))
  | up k =>
    rw [hp] at ph
    exact run_rt rfl (ret_of ((orD_r (no (C := "Going") (D := "Up") ph (by decide +kernel))).trans ((orD_r (no (C := "Keeping") (D := "Up") ph (by decide +kernel))).trans (orD_l (go (m := "at_row") ph rfl (run_rt rfl (ret_of rfl)))))))
  | rest =>
    rw [hp] at ph
    exact run_rt rfl (ret_of ((orD_r (no (C := "Going") (D := "Resting") ph (by decide +kernel))).trans ((orD_r (no (C := "Keeping") (D := "Resting") ph (by decide +kernel))).trans ((orD_r (no (C := "Up") (D := "Resting") ph (by decide +kernel))).trans (go (m := "at_row") ph rfl (run_rt rfl (ret_of rfl)))))))
theorem torn_ok (A : AtS S (hsC Z L h)) : F_House_torn [.loc L.o] S = some (.bl h.rent, S) := run_rt rfl (ret_of (mN A (fH A rfl) rfl (run_rt rfl (ret_of (fN A rfl)))))
abbrev hkC : DE := dBin (pIn false) (dPrim pLen (aCons (dVar 1) aNil)) (dFld AT "by_number" (dVar 0))
abbrev hkB : DS := dExpr (dMt pAppend (dVar 1) (aCons (dBin pIx (dFld AT "by_number" (dVar 0)) (dPrim pLen (aCons (dVar 1) aNil))) aNil))
theorem hand_loop (A : AtS S (hsC Z L h)) (Y : h.Sy) (hz : h.bn.length ≤ 1000000) : ∀ (m k : Nat), h.bn.length < k + m → k ≤ h.bn.length →
    whileL hkC hkB m [some (.loc L.ha), some (.loc S.length)] (S ++ [.lst ((h.letters.take k).map .int)]) = some (.nx [some (.loc L.ha), some (.loc S.length)] (S ++ [.lst (h.letters.map .int)]))
  | 0, k, h1, h2 => by omega
  | m + 1, k, h1, h2 => by
    let ρ : List (Option DV) := [some (.loc L.ha), some (.loc S.length)]
    let l := (h.letters.take k).map DV.int
    let S1 := S ++ [Cell.lst l]
    have ll : h.letters.length = h.bn.length := by
      unfold Hs.letters
      rw [List.length_map]
    have kl : l.length = k := by
      show ((h.letters.take k).map DV.int).length = k
      rw [List.length_map, List.length_take, ll]
      omega
    have A1 : AtS S1 (hsC Z L h) := (Stp.junk A (T := [Cell.lst l]) rfl).at_
    have lst : S1[S.length]? = some (.lst l) := get_len _ _
    have ln : dPrim pLen (aCons (dVar 1) aNil) ρ S1 = some (.int (k : Nat), S1) := by
      refine prim_of (args1 (x := .loc S.length) rfl) ?_
      show (match asL S1 (.loc S.length) with | some ds => some (DV.int ds.length, S1) | none => _) = _
      rw [asL_loc lst]
      simp only [kl]
    have fb : dFld AT "by_number" (dVar 0) ρ S1 = some (.loc L.bn, S1) := fN A1 rfl
    have ag := agt_range Y.k k
    have gd := getD_N (x := k) (hs_bn A1)
    have c : hkC ρ S1 = some (.bl (decide (k < h.bn.length)), S1) := by
      refine (bin_of ln fb (in_of (neg := false) (asL_ndik (hs_bn A1)) gd)).trans ?_
      rw [ag]
      rcases Nat.lt_or_ge k h.bn.length with q | q
      · rw [List.getElem?_eq_getElem q, decide_eq_true q]
        rfl
      · rw [List.getElem?_eq_none q, decide_eq_false (by omega)]
        rfl
    unfold whileL
    rcases Nat.lt_or_ge k h.bn.length with q | q
    · rw [decide_eq_true q] at c
      have ix : dBin pIx (dFld AT "by_number" (dVar 0)) (dPrim pLen (aCons (dVar 1) aNil)) ρ S1 = some (.int (h.bn[k]'q).2, S1) := by
        refine bin_of fb ln (ix_of (asL_ndik (hs_bn A1)) ?_)
        rw [gd, ag, List.getElem?_eq_getElem q]
        rfl
      have b := append_of (f := dVar 1) (ρ := ρ) (n := S.length) rfl lst ix (by rw [kl]; omega)
      have e : S1.set S.length (.lst (l ++ [.int (h.bn[k]'q).2])) = S ++ [.lst ((h.letters.take (k + 1)).map .int)] := by
        show (S ++ [Cell.lst l]).set S.length _ = _
        rw [List.set_append_right _ _ (Nat.le_refl _), Nat.sub_self]
        show S ++ [Cell.lst (l ++ [.int (h.bn[k]'q).2])] = _
        have : h.letters.take (k + 1) = h.letters.take k ++ [(h.bn[k]'q).2] := by
          rw [List.take_succ_eq_append_getElem (by rw [ll]; exact q)]
          congr 1
          unfold Hs.letters
          rw [List.getElem_map]
        rw [this, List.map_append]
        rfl
      rw [e] at b
      rw [show hkC [some (.loc L.ha), some (.loc S.length)] (S ++ [.lst ((h.letters.take k).map .int)]) = _ from c]
      simp only
      rw [show hkB [some (.loc L.ha), some (.loc S.length)] (S ++ [.lst ((h.letters.take k).map .int)]) = _ from b]
      exact hand_loop A Y hz m (k + 1) (by omega) q
    · rw [decide_eq_false (by omega)] at c
      rw [show hkC [some (.loc L.ha), some (.loc S.length)] (S ++ [.lst ((h.letters.take k).map .int)]) = _ from c]
      show some (Out.nx ρ (S ++ [.lst ((h.letters.take k).map .int)])) = _
      rw [List.take_of_length_le (by rw [ll]; exact q)]
theorem letters_ok (A : AtS S (hsC Z L h)) (Y : h.Sy) (hz : h.bn.length ≤ 99999) : F_House_letters [.loc L.o] S = some (.loc S.length, S ++ [.lst (h.letters.map .int)]) := by
  have w : whileL hkC hkB 100000 [some (.loc L.ha), some (.loc S.length)] (S ++ [.lst []]) = some (.nx [some (.loc L.ha), some (.loc S.length)] (S ++ [.lst (h.letters.map .int)])) := hand_loop A Y (by omega) 100000 0 (by omega) (Nat.zero_le _)
  have k : F_Hand_kept [.loc L.ha] S = some (.loc S.length, S ++ [.lst (h.letters.map .int)]) := run_rt rfl ((seq_nx (ρ' := [some (.loc L.ha), some (.loc S.length)]) (S' := S ++ [.lst []]) rfl).trans ((seq_nx w).trans (ret_of rfl)))
  exact run_rt rfl (ret_of (mN A (fH A rfl) rfl k))
end
end Lk76

namespace Lk76
open PySem PySem.Spec PyProof.Rows L2 Dn
/-! ### the house made -/
theorem hways_of {i : Nat} {r : PRow} : pureOf F_ways_of [r.d, .int i] = some (ledD i r) := by
  refine pureOf_of (S' := []) ?_ (by cases r <;> simp [ledD, PRow.led])
  unfold F_ways_of b_ways_of runF
  cases r <;> simp [PRow.d, ledD, PRow.led]
theorem hways_loop {x : Option DV} : ∀ (rows : List PRow) (k : Nat), lcL (gTupD 2 (gsCons (gSet 1) (gsCons (gSet 2) gsNil))) (dC (.bl true)) (dPrim (cP (pureOf F_ways_of) []) (aCons (dVar 2) (aCons (dVar 1) aNil))) [x, none, none] (enD k (rows.map PRow.d)) [] = some (rows.mapIdx fun i r => ledD (k + i) r, [])
  | [], k => rfl
  | r :: rows, k => by
    have ih := hways_loop (x := x) rows (k + 1)
    have hg : gTupD 2 (gsCons (gSet 1) (gsCons (gSet 2) gsNil)) (.tup [.int (k : Nat), r.d]) [x, none, none] [] = some ([x, some (.int (k : Nat)), some r.d], []) := rfl
    rw [List.map_cons]
    show lcL _ _ _ _ (DV.tup [.int (k : Nat), r.d] :: enD (k + 1) (rows.map PRow.d)) [] = _
    unfold lcL
    simp only [hg, v_c]
    have h1 : dPrim (cP (pureOf F_ways_of) []) (aCons (dVar 2) (aCons (dVar 1) aNil)) [x, some (.int (k : Nat)), some r.d] [] = some (ledD k r, []) := by
      simp [cpL_plain, PRow.plain_d, hways_of]
    simp only [h1, ih]
    rw [List.mapIdx_cons]
    have e : (fun i r => ledD (k + 1 + i) r) = fun i r => ledD (k + (i + 1)) r := by
      funext i r
      rw [show k + 1 + i = k + (i + 1) by omega]
    rw [e]
    rfl
theorem hleads_plain (rows : List PRow) : plainL (leadsD rows) = true := plainL_iff.mpr fun d h => by
  unfold leadsD at h
  obtain ⟨i, hi, rfl⟩ := List.mem_mapIdx.mp h
  unfold ledD
  exact plainL_iff.mpr fun d h => by
    obtain ⟨n, _, rfl⟩ := List.mem_map.mp h
    rfl
theorem hways_run {c s : DV} (rows : List PRow) (hn : rows.length ≤ 1000) : F_ways [.tup [c, s, .tup (rows.map PRow.d)]] [] = some (.loc 0, [.lst (leadsD rows)]) := by
  have e := hways_loop (x := some (.tup [c, s, .tup (rows.map PRow.d)])) rows 0
  have hi : iEnum2 (aCons (dBin pIx (dVar 0) (dC (.int 2))) aNil) [some (.tup [c, s, .tup (rows.map PRow.d)]), none, none] [] = some (enD 0 (rows.map PRow.d), []) := rfl
  have hz : (rows.mapIdx fun i r => ledD (0 + i) r).length ≤ sizeLine := size_ok (by rw [List.length_mapIdx]; omega)
  have h := dLcM_of (vs := [1, 2]) hi (by rw [show (dwipe [some (DV.tup [c, s, .tup (rows.map PRow.d)]), none, none] [1, 2]) = [some (DV.tup [c, s, .tup (rows.map PRow.d)]), none, none] from rfl]; exact e) hz
  have e2 : (rows.mapIdx fun i r => ledD (0 + i) r) = leadsD rows := by
    unfold leadsD
    congr
    funext i r
    rw [Nat.zero_add]
  rw [e2] at h
  exact run_rt rfl (ret_of h)
theorem hways_eq {c s : DV} (rows : List PRow) (hn : rows.length ≤ 1000) : freshOf F_ways [.tup [c, s, .tup (rows.map PRow.d)]] = some (leadsD rows) :=
  freshOf_loc (n := 0) (S' := [.lst (leadsD rows)]) (hways_run rows hn) rfl (hleads_plain rows)
theorem thD_plain (l : List Thing) : plainL (l.map thD) = true := plainL_iff.mpr fun d h => by
  obtain ⟨c, _, rfl⟩ := List.mem_map.mp h
  rfl
theorem PD_plain (Z : Hst) : plain Z.PD = true := by
  have h1 : plain (.tup (Z.cells.map thD)) = true := by show plainL _ = true; exact thD_plain _
  have h2 : plain (.tup (Z.shelves.map thD)) = true := by show plainL _ = true; exact thD_plain _
  have h3 : plain (.tup (Z.rows.map PRow.d)) = true := by
    show plainL _ = true
    exact plainL_iff.mpr fun d h => by
      obtain ⟨r, _, rfl⟩ := List.mem_map.mp h
      exact PRow.plain_d
  show plainL [DV.tup (Z.cells.map thD), .tup (Z.shelves.map thD), .tup (Z.rows.map PRow.d)] = true
  rw [plainL_cons, plainL_cons, plainL_cons, h1, h2, h3]
  rfl
/-! a dict filled in a loop -/
theorem put_loopS {α β : Type} {g : DG} {body : DS} {D : β → DV} {f : α → DV} {kx : β → Str} {vx : β → α} {n : Nat} {I : List (Option DV) → Prop} (m : Nat) :
    ∀ (l : List β) (acc : List (Str × α)) (ρ : List (Option DV)) (S : Sto), I ρ → S[n]? = some (dkS f acc) → acc.length + l.length ≤ m →
    (∀ b ∈ l, ∀ (acc : List (Str × α)) ρ S, I ρ → S[n]? = some (dkS f acc) → acc.length < m → ∃ ρ1 ρ2, g (D b) ρ S = some (ρ1, S) ∧ body ρ1 S = some (.nx ρ2 (S.set n (dkS f (apt acc (kx b) (vx b))))) ∧ I ρ2) →
    ∃ ρ', forL g body (l.map D) ρ S = some (.nx ρ' (S.set n (dkS f (l.foldl (fun a b => apt a (kx b) (vx b)) acc)))) ∧ I ρ'
  | [], acc, ρ, S, hI, hS, _, _ => ⟨ρ, by
      obtain ⟨h1, h2⟩ := List.getElem?_eq_some_iff.mp hS
      have : S.set n (dkS f acc) = S := by rw [← h2, List.set_getElem_self]
      show some (Out.nx ρ S) = some (Out.nx ρ (S.set n (dkS f acc)))
      rw [this], hI⟩
  | b :: l, acc, ρ, S, hI, hS, hz, hs => by
    rw [List.length_cons] at hz
    obtain ⟨ρ1, ρ2, e1, e2, h2⟩ := hs b List.mem_cons_self acc ρ S hI hS (by omega)
    have al := apt_len (l := acc) (k := kx b) (v := vx b)
    have hl := (List.getElem?_eq_some_iff.mp hS).1
    obtain ⟨ρ', e3, h3⟩ := put_loopS (g := g) (body := body) (D := D) (f := f) (kx := kx) (vx := vx) (n := n) (I := I) m l (apt acc (kx b) (vx b)) ρ2 _ h2 (List.getElem?_set_self hl) (by omega) fun b hb => hs b (List.mem_cons_of_mem _ hb)
    refine ⟨ρ', ?_, h3⟩
    rw [List.map_cons]
    conv => lhs; unfold forL
    simp only [e1, e2]
    rw [e3, List.set_set]
    rfl
theorem cpD_tup2 {S : Sto} {a b a' b' : DV} (h1 : cpD false S a = some a') (h2 : cpD false S b = some b') : cpD false S (.tup [a, b]) = some (.tup [a', b']) := by
  have h1' : mapD false (cpN false (S.length + 1) S) a = some a' := h1
  have h2' : mapD false (cpN false (S.length + 1) S) b = some b' := h2
  show mapD false (cpN false (S.length + 1) S) (.tup [a, b]) = _
  unfold mapD
  simp only [mapDL, h1', h2']
theorem plain_vals {α κ : Type} {f : α → DV} (hf : ∀ a, plain (f a) = true) (l : List (κ × α)) : plainL (l.map fun p => f p.2) = true := plainL_iff.mpr fun d h => by
  obtain ⟨p, _, rfl⟩ := List.mem_map.mp h
  exact hf _
theorem twins_eq (Z : Hst) (hc : Z.cells.length ≤ 1000) (hs : Z.shelves.length ≤ 1000) : pureOf F_twins_of [Z.PD] = some (.tup [dikS blD Z.twL, dikS intD Z.szL]) := by
  let E (x3 x4 x5 x6 : Option DV) : List (Option DV) := [some Z.PD, some (.loc 0), some (.loc 1), x3, x4, x5, x6]
  let l1 : List (Str × Bool) := Z.cells.foldl (fun l c => apt l c.1 c.2.2) []
  have len1 : ∀ (cs : List Thing) (acc : List (Str × Bool)), (cs.foldl (fun l c => apt l c.1 c.2.2) acc).length ≤ acc.length + cs.length := fun cs => by
    induction cs with
    | nil => intro acc; exact Nat.le_refl _
    | cons c cs ih =>
      intro acc
      have := ih (apt acc c.1 c.2.2)
      have := apt_len (l := acc) (k := c.1) (v := c.2.2)
      rw [List.foldl_cons, List.length_cons]
      omega
  have hl1 : l1.length ≤ 1000 := by
    have := len1 Z.cells []
    rw [List.length_nil] at this
    show (Z.cells.foldl _ []).length ≤ _
    omega
  obtain ⟨ρ1, e1, x3, x4, x5, rfl⟩ := put_loopS (g := gTupD 3 (gsCons (gSet 3) (gsCons (gSet 4) (gsCons (gSet 5) gsNil)))) (body := dSub (dVar 5) (dVar 1) (dVar 3)) (D := thD) (f := blD) (kx := fun c : Thing => c.1) (vx := fun c : Thing => c.2.2) (n := 0) (I := fun ρ => ∃ x3 x4 x5, ρ = E x3 x4 x5 none) 5000 Z.cells [] (E none none none none) [dkS blD [], dkS intD []] ⟨none, none, none, rfl⟩ rfl (by rw [List.length_nil]; omega) fun c hc acc ρ S hI hS hz => by
    obtain ⟨x3, x4, x5, rfl⟩ := hI
    exact ⟨_, _, rfl, sub_of (x := .loc 0) (k := .str c.1) (y := .bl c.2.2) rfl rfl rfl (setI_S (f := blD) (v := c.2.2) hS (by omega)), _, _, _, rfl⟩
  -- the shelves: two dicts
  have shl : ∀ (l : List Thing) (a : List (Str × Bool)) (b : List (Str × Int)) (x3 x4 x5 x6 : Option DV), a.length + l.length ≤ 5000 → b.length + l.length ≤ 5000 →
      ∃ ρ', forL (gTupD 3 (gsCons (gSet 3) (gsCons (gSet 6) (gsCons (gSet 5) gsNil)))) (dSeq (dSub (dVar 5) (dVar 1) (dVar 3)) (dSub (dVar 6) (dVar 2) (dVar 3))) (l.map thD) (E x3 x4 x5 x6) [dkS blD a, dkS intD b] = some (.nx ρ' [dkS blD (l.foldl (fun l c => apt l c.1 c.2.2) a), dkS intD (l.foldl (fun l c => apt l c.1 c.2.1) b)]) ∧ ∃ y3 y4 y5 y6, ρ' = E y3 y4 y5 y6 := fun l => by
    induction l with
    | nil => exact fun a b x3 x4 x5 x6 _ _ => ⟨_, rfl, _, _, _, _, rfl⟩
    | cons c l ih =>
      intro a b x3 x4 x5 x6 h1 h2
      rw [List.length_cons] at h1 h2
      let ρ1 := E (some (.str c.1)) x4 (some (.bl c.2.2)) (some (.int c.2.1))
      have al := apt_len (l := a) (k := c.1) (v := c.2.2)
      have bl := apt_len (l := b) (k := c.1) (v := c.2.1)
      have s1 : dSub (dVar 5) (dVar 1) (dVar 3) ρ1 [dkS blD a, dkS intD b] = some (.nx ρ1 [dkS blD (apt a c.1 c.2.2), dkS intD b]) := sub_of (x := .loc 0) (k := .str c.1) (y := .bl c.2.2) rfl rfl rfl (setI_S (f := blD) (v := c.2.2) (n := 0) rfl (by omega))
      have s2 : dSub (dVar 6) (dVar 2) (dVar 3) ρ1 [dkS blD (apt a c.1 c.2.2), dkS intD b] = some (.nx ρ1 [dkS blD (apt a c.1 c.2.2), dkS intD (apt b c.1 c.2.1)]) := sub_of (x := .loc 1) (k := .str c.1) (y := .int c.2.1) rfl rfl rfl (setI_S (f := intD) (v := c.2.1) (n := 1) rfl (by omega))
      obtain ⟨ρ', e, he⟩ := ih (apt a c.1 c.2.2) (apt b c.1 c.2.1) (some (.str c.1)) x4 (some (.bl c.2.2)) (some (.int c.2.1)) (by omega) (by omega)
      refine ⟨ρ', ?_, he⟩
      rw [List.map_cons]
      conv => lhs; unfold forL
      rw [show gTupD 3 (gsCons (gSet 3) (gsCons (gSet 6) (gsCons (gSet 5) gsNil))) (thD c) (E x3 x4 x5 x6) [dkS blD a, dkS intD b] = some (ρ1, [dkS blD a, dkS intD b]) from rfl]
      simp only
      rw [show dSeq (dSub (dVar 5) (dVar 1) (dVar 3)) (dSub (dVar 6) (dVar 2) (dVar 3)) ρ1 [dkS blD a, dkS intD b] = _ from (seq_nx s1).trans s2]
      exact e
  obtain ⟨ρ2, e2, y3, y4, y5, y6, rfl⟩ := shl Z.shelves l1 [] x3 x4 x5 none (by omega) (by rw [List.length_nil]; omega)
  have run : F_twins_of [Z.PD] [] = some (.tup [.loc 0, .loc 1], [dkS blD Z.twL, dkS intD Z.szL]) := by
    refine run_rt rfl ((seq_nx (ρ' := [some Z.PD, some (.loc 0), none, none, none, none, none]) (S' := [dkS blD []]) rfl).trans ((seq_nx (ρ' := E none none none none) (S' := [dkS blD [], dkS intD []]) rfl).trans ((seq_nx (for_of (ds := Z.cells.map thD) (iSeqT_of (bin_of (x := Z.PD) (y := .int 0) rfl rfl rfl)) e1)).trans ((seq_nx (for_of (ds := Z.shelves.map thD) (iSeqT_of (bin_of (x := Z.PD) (y := .int 1) rfl rfl rfl)) e2)).trans (ret_of rfl)))))
  unfold pureOf
  rw [run]
  exact cpD_tup2 (cpD_dik rfl (plain_vals (f := blD) (fun _ => rfl) _)) (cpD_dik rfl (plain_vals (f := intD) (fun _ => rfl) _))
end Lk76

namespace Lk76
open PySem PySem.Spec PyProof.Rows L2 Dn
section
variable {S : Sto} {l : Cs} {k a : Nat} {C f : Str} {fs : List (Str × DV)} {d : DV} {v o : DE} {ρ : List (Option DV)}
theorem fldV (A : AtS S l) (k : Nat) (hk : l[k]? = some (a, .ins C fs)) (hv : v ρ S = some (d, S)) (ho : o ρ S = some (.loc a, S)) (hT : AT.contains (C, f) = true) (hlen : fs.length < 1000) : ∃ S', dSetF AT f v o ρ S = some (.nx ρ S') ∧ Stp S l S' (l.set k (a, .ins C (putFD f d fs))) :=
  ⟨_, setF_at hv ho (A.at k hk) hT hlen, Stp.set A k _ hk⟩
theorem fldC (A : AtS S l) (k : Nat) (c : Cell) (hk : l[k]? = some (a, .ins C fs)) (hv : v ρ S = some (.loc S.length, S ++ [c])) (ho : o ρ (S ++ [c]) = some (.loc a, S ++ [c])) (hT : AT.contains (C, f) = true) (hlen : fs.length < 1000) (hc : notLok c = true := by rfl) :
    ∃ S', dSetF AT f v o ρ S = some (.nx ρ S') ∧ Stp S l S' ((l ++ [(S.length, c)]).set k (a, .ins C (putFD f (.loc S.length) fs))) := by
  have T1 := Stp.more A c hc
  have hk2 : (l ++ [(S.length, c)])[k]? = some (a, .ins C fs) := by
    rw [List.getElem?_append_left (List.getElem?_eq_some_iff.mp hk).1]
    exact hk
  exact ⟨_, setF_at hv ho (T1.at_.at k hk2) hT hlen, T1.trans (Stp.set T1.at_ k _ hk2)⟩
end
theorem put_loopP {α β : Type} {g : DG} {body : DS} {D : β → DV} {f : α → DV} {kx : β → Pl} {vx : β → α} {n : Nat} {I : List (Option DV) → Prop} {J : Sto → Prop} (hJ : ∀ S c, J S → J (S.set n c)) (m : Nat) :
    ∀ (l : List β) (acc : List (Pl × α)) (ρ : List (Option DV)) (S : Sto), I ρ → J S → S[n]? = some (dkP f acc) → acc.length + l.length ≤ m →
    (∀ b ∈ l, ∀ (acc : List (Pl × α)) ρ S, I ρ → J S → S[n]? = some (dkP f acc) → acc.length < m → ∃ ρ1 ρ2, g (D b) ρ S = some (ρ1, S) ∧ body ρ1 S = some (.nx ρ2 (S.set n (dkP f (apt acc (kx b) (vx b))))) ∧ I ρ2) →
    ∃ ρ', forL g body (l.map D) ρ S = some (.nx ρ' (S.set n (dkP f (l.foldl (fun a b => apt a (kx b) (vx b)) acc)))) ∧ I ρ'
  | [], acc, ρ, S, hI, _, hS, _, _ => ⟨ρ, by
      obtain ⟨h1, h2⟩ := List.getElem?_eq_some_iff.mp hS
      have : S.set n (dkP f acc) = S := by rw [← h2, List.set_getElem_self]
      show some (Out.nx ρ S) = some (Out.nx ρ (S.set n (dkP f acc)))
      rw [this], hI⟩
  | b :: l, acc, ρ, S, hI, hj, hS, hz, hs => by
    rw [List.length_cons] at hz
    obtain ⟨ρ1, ρ2, e1, e2, h2⟩ := hs b List.mem_cons_self acc ρ S hI hj hS (by omega)
    have al := apt_len (l := acc) (k := kx b) (v := vx b)
    have hl := (List.getElem?_eq_some_iff.mp hS).1
    obtain ⟨ρ', e3, h3⟩ := put_loopP (g := g) (body := body) (D := D) (f := f) (kx := kx) (vx := vx) (n := n) (I := I) hJ m l (apt acc (kx b) (vx b)) ρ2 _ h2 (hJ _ _ hj) (List.getElem?_set_self hl) (by omega) fun b hb => hs b (List.mem_cons_of_mem _ hb)
    refine ⟨ρ', ?_, h3⟩
    rw [List.map_cons]
    conv => lhs; unfold forL
    simp only [e1, e2]
    rw [e3, List.set_set]
    rfl
abbrev stE (a : Nat) (P B x3 x4 x5 x6 x7 : Option DV) : List (Option DV) := [some (.loc a), P, B, x3, x4, x5, x6, x7]
abbrev stG : DG := gTupD 3 (gsCons (gSet 3) (gsCons (gSet 6) (gsCons (gSet 5) gsNil)))
abbrev stI : DS := dFor (iRange1 (aCons (dVar 6) aNil)) (gSet 7) (dSub (dC (.int 0)) (dFld AT "home" (dVar 0)) (dPrim pTup (aCons (dVar 3) (aCons (dVar 7) aNil))))
abbrev stB : DS := dSeq (dSub (dVar 6) (dFld AT "sizes" (dVar 0)) (dVar 3)) stI
theorem shelf_len (c : Thing) (acc : List (Pl × Int)) : (shelfL acc c).length ≤ acc.length + c.2.1.toNat := by
  have key : ∀ (l : List Nat) (acc : List (Pl × Int)), (l.foldl (fun l k => apt l (c.1, k) 0) acc).length ≤ acc.length + l.length := fun l => by
    induction l with
    | nil => intro acc; exact Nat.le_refl _
    | cons x l ih =>
      intro acc
      have := ih (apt acc (c.1, x) 0)
      have := apt_len (l := acc) (k := (c.1, x)) (v := (0 : Int))
      rw [List.foldl_cons, List.length_cons]
      omega
  have := key (List.range c.2.1.toNat) acc
  rw [List.length_range] at this
  exact this
/-- the shelves: their sizes, their places -/
theorem st_shelves {a hm sz : Nat} {P B : Option DV} {fs : List (Str × DV)} (hf1 : fs.lookup ("home" : Str) = some (.loc hm)) (hf2 : fs.lookup ("sizes" : Str) = some (.loc sz)) (ne1 : a ≠ hm) (ne2 : a ≠ sz) (ne3 : hm ≠ sz) :
    ∀ (l : List Thing) (H : List (Pl × Int)) (Zl : List (Str × Int)) (S : Sto) (x3 x4 x5 x6 x7 : Option DV), (∀ c ∈ l, 0 ≤ c.2.1 ∧ c.2.1 ≤ 1000) → H.length + 1000 * l.length ≤ 5000000 → Zl.length + l.length ≤ 5000 →
    S[a]? = some (.ins "Store" fs) → S[hm]? = some (dkP intD H) → S[sz]? = some (dkS intD Zl) →
    ∃ y3 y4 y5 y6 y7, forL stG stB (l.map thD) (stE a P B x3 x4 x5 x6 x7) S = some (.nx (stE a P B y3 y4 y5 y6 y7) ((S.set sz (dkS intD (l.foldl (fun l c => apt l c.1 c.2.1) Zl))).set hm (dkP intD (l.foldl shelfL H))))
  | [], H, Zl, S, x3, x4, x5, x6, x7, _, _, _, hS, hH, hZ => ⟨x3, x4, x5, x6, x7, by
      have e1 : S.set sz (dkS intD Zl) = S := by
        obtain ⟨h1, h2⟩ := List.getElem?_eq_some_iff.mp hZ
        rw [← h2, List.set_getElem_self]
      have e2 : S.set hm (dkP intD H) = S := by
        obtain ⟨h1, h2⟩ := List.getElem?_eq_some_iff.mp hH
        rw [← h2, List.set_getElem_self]
      show some (Out.nx _ S) = some (Out.nx _ ((S.set sz (dkS intD Zl)).set hm (dkP intD H)))
      rw [e1, e2]⟩
  | c :: l, H, Zl, S, x3, x4, x5, x6, x7, hn, hz1, hz2, hS, hH, hZ => by
    rw [List.length_cons] at hz1 hz2
    obtain ⟨n0, n1⟩ := hn c List.mem_cons_self
    have hlz := (List.getElem?_eq_some_iff.mp hZ).1
    have hlh := (List.getElem?_eq_some_iff.mp hH).1
    let E (x7 : Option DV) := stE a P B (some (.str c.1)) x4 (some (.bl c.2.2)) (some (.int c.2.1)) x7
    have al := apt_len (l := Zl) (k := c.1) (v := c.2.1)
    let S1 := S.set sz (dkS intD (apt Zl c.1 c.2.1))
    have s1 : dSub (dVar 6) (dFld AT "sizes" (dVar 0)) (dVar 3) (E x7) S = some (.nx (E x7) S1) := sub_of (x := .loc sz) (k := .str c.1) (y := .int c.2.1) rfl (fld_at rfl hS rfl hf2) rfl (setI_S (f := intD) (v := c.2.1) hZ (by omega))
    have hS1 : S1[a]? = some (.ins "Store" fs) := by
      show (S.set sz _)[a]? = _
      rw [List.getElem?_set_ne (Ne.symm ne2)]
      exact hS
    have hH1 : S1[hm]? = some (dkP intD H) := by
      show (S.set sz _)[hm]? = _
      rw [List.getElem?_set_ne (Ne.symm ne3)]
      exact hH
    have hr : iRange1 (aCons (dVar 6) aNil) (E x7) S1 = some ((List.range c.2.1.toNat).map fun (i : Nat) => DV.int i, S1) := by
      refine rgN_of (n := c.2.1.toNat) ?_ (by omega)
      rw [Int.toNat_of_nonneg n0]
      rfl
    obtain ⟨ρ', e2, y7, rfl⟩ := put_loopP (g := gSet 7) (body := dSub (dC (.int 0)) (dFld AT "home" (dVar 0)) (dPrim pTup (aCons (dVar 3) (aCons (dVar 7) aNil)))) (D := fun (i : Nat) => DV.int i) (f := intD) (kx := fun i => (c.1, i)) (vx := fun _ => (0 : Int)) (n := hm) (I := fun ρ => ∃ x7, ρ = E x7) (J := fun S => S[a]? = some (.ins "Store" fs)) (fun S c h => by rw [List.getElem?_set_ne (Ne.symm ne1)]; exact h) 6000000 (List.range c.2.1.toNat) H (E x7) S1 ⟨x7, rfl⟩ hS1 hH1 (by rw [List.length_range]; omega) fun i hi acc ρ S2 hI hJ hA hz => by
      obtain ⟨x7, rfl⟩ := hI
      exact ⟨_, _, rfl, sub_of (x := .loc hm) (k := plD (c.1, i)) (y := .int 0) rfl (fld_at rfl hJ rfl hf1) rfl (setI_P (f := intD) (v := (0 : Int)) hA (by omega)), _, rfl⟩
    let S2 := S1.set hm (dkP intD (shelfL H c))
    have hS2 : S2[a]? = some (.ins "Store" fs) := by
      show (S1.set hm _)[a]? = _
      rw [List.getElem?_set_ne (Ne.symm ne1)]
      exact hS1
    have hH2 : S2[hm]? = some (dkP intD (shelfL H c)) := List.getElem?_set_self (by show hm < (S.set sz _).length; rw [List.length_set]; exact hlh)
    have hZ2 : S2[sz]? = some (dkS intD (apt Zl c.1 c.2.1)) := by
      show (S1.set hm _)[sz]? = _
      rw [List.getElem?_set_ne ne3]
      exact List.getElem?_set_self hlz
    have sl := shelf_len c H
    obtain ⟨z3, z4, z5, z6, z7, e3⟩ := st_shelves (P := P) (B := B) hf1 hf2 ne1 ne2 ne3 l (shelfL H c) (apt Zl c.1 c.2.1) S2 (some (.str c.1)) x4 (some (.bl c.2.2)) (some (.int c.2.1)) y7 (fun d hd => hn d (List.mem_cons_of_mem _ hd)) (by omega) (by omega) hS2 hH2 hZ2
    refine ⟨z3, z4, z5, z6, z7, ?_⟩
    rw [List.map_cons]
    conv => lhs; unfold forL
    rw [show stG (thD c) (stE a P B x3 x4 x5 x6 x7) S = some (E x7, S) from rfl]
    simp only
    rw [show stB (E x7) S = some (.nx (E y7) S2) from (seq_nx s1).trans (for_of hr e2)]
    simp only
    rw [e3]
    have : (S2.set sz (dkS intD (l.foldl (fun l c => apt l c.1 c.2.1) (apt Zl c.1 c.2.1)))).set hm (dkP intD (l.foldl shelfL (shelfL H c))) = (S.set sz (dkS intD ((c :: l).foldl (fun l c => apt l c.1 c.2.1) Zl))).set hm (dkP intD ((c :: l).foldl shelfL H)) := by
      show ((((S.set sz _).set hm _).set sz _).set hm _) = _
      rw [List.set_comm _ _ ne3, List.set_set, List.set_set]
      rfl
    rw [this]
end Lk76

namespace Lk76
open PySem PySem.Spec PyProof.Rows L2 Dn
theorem atS_nil {S : Sto} : AtS S [] := ⟨List.nodup_nil, fun p hp => by cases hp⟩
theorem store_made (Z : Hst) (ZZ : Z.Zs) (bz : Z.beg.length ≤ 1000) (S : Sto) : ∃ S' hm sz p0 h0 t0 p1 h1 t1 pg, F_Store_init [.loc S.length, Z.PD, bxD Z.beg] (S ++ [.ins "Store" []]) = some (.non, S') ∧
    Stp S [] S' [(S.length, .ins "Store" [("home", .loc hm), ("sizes", .loc sz), ("pages", .loc pg), ("front", .int 0), ("final", .non)]), (hm, dkP intD Z.homeL), (sz, dkS intD Z.szL), (p0, .ins "Page" (pgF (pg0 Z.beg) h0 t0)), (h0, .lst ((pg0 Z.beg).held.map bvD)), (t0, .lst []), (p1, .ins "Page" (pgF (pg0 []) h1 t1)), (h1, .lst []), (t1, .lst []), (pg, .lst [.loc p0, .loc p1])] := by
  let a := S.length
  let P : Option DV := some Z.PD
  let B : Option DV := some (bxD Z.beg)
  have zc := ZZ.c
  have zs := ZZ.s
  have T0 : Stp S [] (S ++ [.ins "Store" []]) [(a, .ins "Store" [])] := Stp.more atS_nil (.ins "Store" [])
  generalize hS0 : S ++ [Cell.ins "Store" []] = S0 at T0
  obtain ⟨S1, e1, t1⟩ := fldC (f := "home") (v := fun _ S => some (.loc S.length, S ++ [.dit [] []])) (o := dVar 0) (ρ := stE a P B none none none none none) T0.at_ 0 (dkP intD []) rfl rfl rfl rfl (show (0 : Nat) < 1000 by decide)
  generalize S0.length = hm at t1
  have T1 : Stp S [] S1 [(a, .ins "Store" [("home", .loc hm)]), (hm, dkP intD [])] := (T0.trans t1).of_eq rfl
  obtain ⟨S2, e2, t2⟩ := fldC (f := "sizes") (v := fun _ S => some (.loc S.length, S ++ [.dik [] []])) (o := dVar 0) (ρ := stE a P B none none none none none) T1.at_ 0 (dkS intD []) rfl rfl rfl rfl (show (1 : Nat) < 1000 by decide)
  generalize S1.length = sz at t2
  let fs : List (Str × DV) := [("home", .loc hm), ("sizes", .loc sz)]
  have T2 : Stp S [] S2 [(a, .ins "Store" fs), (hm, dkP intD []), (sz, dkS intD [])] := (T1.trans t2).of_eq rfl
  have A2 := T2.at_
  have n01 : a ≠ hm := A2.ne 0 1
  have n02 : a ≠ sz := A2.ne 0 2
  have n12 : hm ≠ sz := A2.ne 1 2
  -- the cells
  obtain ⟨ρ3, e3, x3, x4, x5, rfl⟩ := put_loopP (g := gTupD 3 (gsCons (gSet 3) (gsCons (gSet 4) (gsCons (gSet 5) gsNil)))) (body := dSub (dVar 4) (dFld AT "home" (dVar 0)) (dPrim pTup (aCons (dVar 3) (aCons (dC (.int 0)) aNil)))) (D := thD) (f := intD) (kx := fun c : Thing => ((c.1, 0) : Pl)) (vx := fun c : Thing => c.2.1) (n := hm) (I := fun ρ => ∃ x3 x4 x5, ρ = stE a P B x3 x4 x5 none none) (J := fun S => S[a]? = some (.ins "Store" fs)) (fun S c h => by rw [List.getElem?_set_ne (Ne.symm n01)]; exact h) 6000000 Z.cells [] (stE a P B none none none none none) S2 ⟨none, none, none, rfl⟩ (A2.at 0) (A2.at 1) (by rw [List.length_nil]; omega) fun c hc acc ρ S3 hI hJ hA hz => by
    obtain ⟨x3, x4, x5, rfl⟩ := hI
    exact ⟨_, _, rfl, sub_of (x := .loc hm) (k := plD (c.1, 0)) (y := .int c.2.1) rfl (fld_at rfl hJ rfl rfl) rfl (setI_P (f := intD) (v := c.2.1) hA (by omega)), _, _, _, rfl⟩
  let H1 : List (Pl × Int) := Z.cells.foldl (fun l c => apt l (c.1, 0) c.2.1) []
  have t3 := Stp.set A2 1 (dkP intD H1)
  have T3 : Stp S [] (S2.set hm (dkP intD H1)) [(a, .ins "Store" fs), (hm, dkP intD H1), (sz, dkS intD [])] := (T2.trans t3).of_eq rfl
  have hH1 : H1.length ≤ 1000 := by
    have key : ∀ (cs : List Thing) (acc : List (Pl × Int)), (cs.foldl (fun l c => apt l (c.1, 0) c.2.1) acc).length ≤ acc.length + cs.length := fun cs => by
      induction cs with
      | nil => intro acc; exact Nat.le_refl _
      | cons c cs ih =>
        intro acc
        have := ih (apt acc (c.1, 0) c.2.1)
        have := apt_len (l := acc) (k := (c.1, 0)) (v := c.2.1)
        rw [List.foldl_cons, List.length_cons]
        omega
    exact Nat.le_trans (key Z.cells []) (by rw [List.length_nil]; omega)
  -- the shelves
  have A3 := T3.at_
  obtain ⟨y3, y4, y5, y6, y7, e4⟩ := st_shelves (P := P) (B := B) (fs := fs) (a := a) (hm := hm) (sz := sz) rfl rfl n01 n02 n12 Z.shelves H1 [] (S2.set hm (dkP intD H1)) x3 x4 x5 none none ZZ.n (by omega) (by rw [List.length_nil]; omega) (A3.at 0) (A3.at 1) (A3.at 2)
  have t4 := Stp.set A3 2 (dkS intD Z.szL)
  have t5 := Stp.set t4.at_ 1 (a := hm) (c := dkP intD H1) (dkP intD Z.homeL)
  generalize hS5 : ((S2.set hm (dkP intD H1)).set sz (dkS intD Z.szL)).set hm (dkP intD Z.homeL) = S5 at t5
  have T5 : Stp S [] S5 [(a, .ins "Store" fs), (hm, dkP intD Z.homeL), (sz, dkS intD Z.szL)] := ((T3.trans t4).trans t5).of_eq rfl
  have e4 : forL stG stB (Z.shelves.map thD) (stE a P B x3 x4 x5 none none) (S2.set hm (dkP intD H1)) = some (.nx (stE a P B y3 y4 y5 y6 y7) S5) := by
    rw [← hS5]
    exact e4
  -- the pages
  let p : Pg := ⟨0, 0, 0, 0, [], []⟩
  let ρ6 := stE a P B y3 y4 y5 y6 y7
  let n := S5.length
  let C7 : List Cell := pgCells p n ++ (pgCells p (n + 3) ++ [.lst [.loc n, .loc (n + 3)]])
  have A5 := T5.at_
  have u1 := Stp.more A5 (.ins "Page" (pgF p (n + 1) (n + 2)))
  have u2 := Stp.more u1.at_ (.lst [])
  have u3 := Stp.more u2.at_ (.lst [])
  have u4 := Stp.more u3.at_ (.ins "Page" (pgF p (n + 4) (n + 5)))
  have u5 := Stp.more u4.at_ (.lst [])
  have u6 := Stp.more u5.at_ (.lst [])
  have u7 := Stp.more u6.at_ (.lst [.loc n, .loc (n + 3)])
  have u := (((((u1.trans u2).trans u3).trans u4).trans u5).trans u6).trans u7
  simp only [List.length_append, List.length_singleton, List.append_assoc, List.cons_append, List.nil_append] at u
  have T7 : Stp S [] (S5 ++ C7) [(a, .ins "Store" fs), (hm, dkP intD Z.homeL), (sz, dkS intD Z.szL), (n, .ins "Page" (pgF p (n + 1) (n + 2))), (n + 1, .lst []), (n + 2, .lst []), (n + 3, .ins "Page" (pgF p (n + 4) (n + 5))), (n + 4, .lst []), (n + 5, .lst []), (n + 6, .lst [.loc n, .loc (n + 3)])] := T5.trans u
  have mkE : ∀ {ρ : List (Option DV)} {S : Sto}, (aCons (dC (.int 0)) (aCons (dC (.int 0)) (aCons (dC (.int 0)) (aCons (dC (.int 0)) aNil)))) ρ S = some ([.int p.row, .int p.done, .int p.hears, .int p.says], S) := fun {ρ S} => rfl
  have m1 : dMake "Page" F_Page_init [] (aCons (dC (.int 0)) (aCons (dC (.int 0)) (aCons (dC (.int 0)) (aCons (dC (.int 0)) aNil)))) ρ6 S5 = some (.loc n, S5 ++ pgCells p n) := mk_page (p := p) rfl rfl mkE
  have m2 : dMake "Page" F_Page_init [] (aCons (dC (.int 0)) (aCons (dC (.int 0)) (aCons (dC (.int 0)) (aCons (dC (.int 0)) aNil)))) ρ6 (S5 ++ pgCells p n) = some (.loc (n + 3), S5 ++ pgCells p n ++ pgCells p (n + 3)) := by
    have := mk_page (p := p) rfl rfl (mkE (ρ := ρ6) (S := S5 ++ pgCells p n))
    rw [List.length_append] at this
    exact this
  have pv : dPrim pLstM (aCons (dMake "Page" F_Page_init [] (aCons (dC (.int 0)) (aCons (dC (.int 0)) (aCons (dC (.int 0)) (aCons (dC (.int 0)) aNil))))) (aCons (dMake "Page" F_Page_init [] (aCons (dC (.int 0)) (aCons (dC (.int 0)) (aCons (dC (.int 0)) (aCons (dC (.int 0)) aNil))))) aNil)) ρ6 S5 = some (.loc (n + 6), S5 ++ C7) := by
    refine prim_of (args2 m1 m2) ?_
    have : pLstM [.loc n, .loc (n + 3)] (S5 ++ pgCells p n ++ pgCells p (n + 3)) = some (.loc (S5 ++ pgCells p n ++ pgCells p (n + 3)).length, (S5 ++ pgCells p n ++ pgCells p (n + 3)) ++ [.lst [.loc n, .loc (n + 3)]]) := rfl
    rw [this, List.length_append, List.length_append, List.append_assoc, List.append_assoc]
    rfl
  have A7 := T7.at_
  have s7 : dSetF AT "pages" (dPrim pLstM (aCons (dMake "Page" F_Page_init [] (aCons (dC (.int 0)) (aCons (dC (.int 0)) (aCons (dC (.int 0)) (aCons (dC (.int 0)) aNil))))) (aCons (dMake "Page" F_Page_init [] (aCons (dC (.int 0)) (aCons (dC (.int 0)) (aCons (dC (.int 0)) (aCons (dC (.int 0)) aNil))))) aNil))) (dVar 0) ρ6 S5 = some (.nx ρ6 _) :=
    setF_at (n := a) (C := "Store") (fs := fs) pv rfl (A7.at 0) rfl (show (2 : Nat) < 1000 by decide)
  have t8 := Stp.set A7 0 (.ins "Store" (putFD "pages" (.loc (n + 6)) fs))
  generalize hS8 : (S5 ++ C7).set a (.ins "Store" (putFD "pages" (.loc (n + 6)) fs)) = S8 at t8
  let fs8 : List (Str × DV) := [("home", .loc hm), ("sizes", .loc sz), ("pages", .loc (n + 6))]
  have T8 : Stp S [] S8 [(a, .ins "Store" fs8), (hm, dkP intD Z.homeL), (sz, dkS intD Z.szL), (n, .ins "Page" (pgF p (n + 1) (n + 2))), (n + 1, .lst []), (n + 2, .lst []), (n + 3, .ins "Page" (pgF p (n + 4) (n + 5))), (n + 4, .lst []), (n + 5, .lst []), (n + 6, .lst [.loc n, .loc (n + 3)])] := (T7.trans t8).of_eq rfl
  have s7 : dSetF AT "pages" (dPrim pLstM (aCons (dMake "Page" F_Page_init [] (aCons (dC (.int 0)) (aCons (dC (.int 0)) (aCons (dC (.int 0)) (aCons (dC (.int 0)) aNil))))) (aCons (dMake "Page" F_Page_init [] (aCons (dC (.int 0)) (aCons (dC (.int 0)) (aCons (dC (.int 0)) (aCons (dC (.int 0)) aNil))))) aNil))) (dVar 0) ρ6 S5 = some (.nx ρ6 S8) := by
    rw [← hS8]
    exact s7
  -- the begin's boxes
  have A8 := T8.at_
  let st (b : List DV) : Sto := S8.set (n + 1) (.lst b)
  have stl : (n + 1) < S8.length := (List.getElem?_eq_some_iff.mp (A8.at 4)).1
  have q0 : ∀ b, (st b)[a]? = some (.ins "Store" fs8) := fun b => by
    show (S8.set (n + 1) _)[a]? = _
    rw [List.getElem?_set_ne (A8.ne 4 0)]
    exact A8.at 0
  have q9 : ∀ b, (st b)[n + 6]? = some (.lst [.loc n, .loc (n + 3)]) := fun b => by
    show (S8.set (n + 1) _)[n + 6]? = _
    rw [List.getElem?_set_ne (A8.ne 4 9)]
    exact A8.at 9
  have q3 : ∀ b, (st b)[n]? = some (.ins "Page" (pgF p (n + 1) (n + 2))) := fun b => by
    show (S8.set (n + 1) _)[n]? = _
    rw [List.getElem?_set_ne (A8.ne 4 3)]
    exact A8.at 3
  have q4 : ∀ b, (st b)[n + 1]? = some (.lst b) := fun b => List.getElem?_set_self stl
  obtain ⟨ρ', e9, z3, rfl⟩ := for_app (D := fun x : Str => DV.str x) (E := fun x : Str => bvD (x, 0)) (g := gSet 3) (body := dExpr (dMt pAppend (dFld AT "held" (dBin pIx (dFld AT "pages" (dVar 0)) (dC (.int 0)))) (aCons (dPrim pTup (aCons (dVar 3) (aCons (dC (.int 0)) aNil))) aNil))) (I := fun ρ => ∃ x3, ρ = stE a P B x3 y4 y5 y6 y7) (st := st) 2000 Z.beg [] ρ6 ⟨y3, rfl⟩ (by rw [List.length_nil]; omega) fun x hx b ρ hb hI => by
    obtain ⟨x3, rfl⟩ := hI
    refine ⟨stE a P B (some (.str x)) y4 y5 y6 y7, st b, stE a P B (some (.str x)) y4 y5 y6 y7, rfl, ?_, some (.str x), rfl⟩
    have f1 : dFld AT "held" (dBin pIx (dFld AT "pages" (dVar 0)) (dC (.int 0))) (stE a P B (some (.str x)) y4 y5 y6 y7) (st b) = some (.loc (n + 1), st b) :=
      fld_at (n := n) (C := "Page") (fs := pgF p (n + 1) (n + 2)) (bin_of (x := .loc (n + 6)) (y := .int 0) (fld_at (n := a) (C := "Store") (fs := fs8) rfl (q0 b) rfl rfl) rfl (ix_loc (q9 b) (atD_nat (k := 0) rfl))) (q3 b) rfl rfl
    refine (append_of f1 (q4 b) (y := bvD (x, 0)) rfl (by omega)).trans ?_
    show some (Out.nx _ ((S8.set (n + 1) (.lst b)).set (n + 1) _)) = some (Out.nx _ (S8.set (n + 1) _))
    rw [List.set_set]
  have e0 : st [] = S8 := by
    obtain ⟨g1, g2⟩ := List.getElem?_eq_some_iff.mp (A8.at 4)
    have : S8.set (n + 1) (S8[n + 1]'g1) = S8 := List.set_getElem_self g1
    rw [g2] at this
    exact this
  rw [e0, List.nil_append] at e9
  have t9 := Stp.set A8 4 (.lst (Z.beg.map fun x => bvD (x, 0)))
  have eh : Z.beg.map (fun x => bvD (x, 0)) = (pg0 Z.beg).held.map bvD := by
    show _ = (Z.beg.map fun x => (x, (0 : Int))).map bvD
    rw [List.map_map]
    rfl
  have T9 : Stp S [] (st (Z.beg.map fun x => bvD (x, 0))) [(a, .ins "Store" fs8), (hm, dkP intD Z.homeL), (sz, dkS intD Z.szL), (n, .ins "Page" (pgF p (n + 1) (n + 2))), (n + 1, .lst (Z.beg.map fun x => bvD (x, 0))), (n + 2, .lst []), (n + 3, .ins "Page" (pgF p (n + 4) (n + 5))), (n + 4, .lst []), (n + 5, .lst []), (n + 6, .lst [.loc n, .loc (n + 3)])] := (T8.trans t9).of_eq rfl
  rw [eh] at T9 e9
  generalize st ((pg0 Z.beg).held.map bvD) = S9 at T9 e9
  obtain ⟨S10, e10, t10⟩ := fldV (f := "front") (v := dC (.int 0)) (o := dVar 0) (ρ := stE a P B z3 y4 y5 y6 y7) T9.at_ 0 rfl rfl rfl rfl (show (3 : Nat) < 1000 by decide)
  have T10 := T9.trans t10
  obtain ⟨S11, e11, t11⟩ := fldV (f := "final") (v := dC .non) (o := dVar 0) (ρ := stE a P B z3 y4 y5 y6 y7) t10.at_ 0 rfl rfl rfl rfl (show (4 : Nat) < 1000 by decide)
  refine ⟨S11, hm, sz, n, n + 1, n + 2, n + 3, n + 4, n + 5, n + 6, ?_, (T10.trans t11).of_eq rfl⟩
  have itC : ∀ {ρ : List (Option DV)} {S : Sto}, dVar 1 ρ S = some (Z.PD, S) → iSeq (dBin pIx (dVar 1) (dC (.int 0))) ρ S = some (Z.cells.map thD, S) := fun {ρ S} h => iSeqT_of (bin_of (x := Z.PD) (y := .int 0) h rfl rfl)
  have itS : ∀ {ρ : List (Option DV)} {S : Sto}, dVar 1 ρ S = some (Z.PD, S) → iSeq (dBin pIx (dVar 1) (dC (.int 1))) ρ S = some (Z.shelves.map thD, S) := fun {ρ S} h => iSeqT_of (bin_of (x := Z.PD) (y := .int 1) h rfl rfl)
  exact run_nx rfl ((seq_nx e1).trans ((seq_nx e2).trans ((seq_nx (for_of (itC rfl) e3)).trans ((seq_nx (for_of (itS rfl) e4)).trans ((seq_nx s7).trans ((seq_nx (for_of (iSeqT_of (xs := Z.beg.map fun x => DV.str x) rfl) e9)).trans ((seq_nx e10).trans e11)))))))
end Lk76

namespace Lk76
open PySem PySem.Spec PyProof.Rows L2 Dn
def codeD (b : List Str) (ks : List (Nat × List Str)) : DV := .tup [bxD b, .tup (ks.map fun k => DV.tup [.int (k.1 : Nat), bxD k.2])]
theorem put_loopN {α β : Type} {g : DG} {body : DS} {D : β → DV} {f : α → DV} {kx : β → Nat} {vx : β → α} {n : Nat} {I : List (Option DV) → Prop} {J : Sto → Prop} (hJ : ∀ S c, J S → J (S.set n c)) (m : Nat) :
    ∀ (l : List β) (acc : List (Nat × α)) (ρ : List (Option DV)) (S : Sto), I ρ → J S → S[n]? = some (dkN f acc) → acc.length + l.length ≤ m →
    (∀ b ∈ l, ∀ (acc : List (Nat × α)) ρ S, I ρ → J S → S[n]? = some (dkN f acc) → acc.length < m → ∃ ρ1 ρ2, g (D b) ρ S = some (ρ1, S) ∧ body ρ1 S = some (.nx ρ2 (S.set n (dkN f (apt acc (kx b) (vx b))))) ∧ I ρ2) →
    ∃ ρ', forL g body (l.map D) ρ S = some (.nx ρ' (S.set n (dkN f (l.foldl (fun a b => apt a (kx b) (vx b)) acc)))) ∧ I ρ'
  | [], acc, ρ, S, hI, _, hS, _, _ => ⟨ρ, by
      obtain ⟨h1, h2⟩ := List.getElem?_eq_some_iff.mp hS
      have : S.set n (dkN f acc) = S := by rw [← h2, List.set_getElem_self]
      show some (Out.nx ρ S) = some (Out.nx ρ (S.set n (dkN f acc)))
      rw [this], hI⟩
  | b :: l, acc, ρ, S, hI, hj, hS, hz, hs => by
    rw [List.length_cons] at hz
    obtain ⟨ρ1, ρ2, e1, e2, h2⟩ := hs b List.mem_cons_self acc ρ S hI hj hS (by omega)
    have al := apt_len (l := acc) (k := kx b) (v := vx b)
    have hl := (List.getElem?_eq_some_iff.mp hS).1
    obtain ⟨ρ', e3, h3⟩ := put_loopN (g := g) (body := body) (D := D) (f := f) (kx := kx) (vx := vx) (n := n) (I := I) hJ m l (apt acc (kx b) (vx b)) ρ2 _ h2 (hJ _ _ hj) (List.getElem?_set_self hl) (by omega) fun b hb => hs b (List.mem_cons_of_mem _ hb)
    refine ⟨ρ', ?_, h3⟩
    rw [List.map_cons]
    conv => lhs; unfold forL
    simp only [e1, e2]
    rw [e3, List.set_set]
    rfl
theorem make_of {C : Str} {F : PL} {fa : DA} {xs : List DV} {ρ : List (Option DV)} {S S1 S2 : Sto} (ha : fa ρ S = some (xs, S1)) (hF : F (.loc S1.length :: xs) (S1 ++ [.ins C []]) = some (.non, S2)) : dMake C F [] fa ρ S = some (.loc S1.length, S2) := by
  unfold dMake
  simp only [ha]
  rw [List.append_nil, hF]
theorem house_made (Z : Hst) (ZZ : Z.Zs) (K : Z.Ok) (x : DV) (S : Sto) (hL : ∀ S2 : Sto, (∀ i, i < S.length → S2[i]? = S[i]?) → itemsD S2 x = some (Z.coming.map .int)) :
    ∃ S' L, F_House_init [.loc S.length, Z.PD, codeD Z.beg Z.keeps, x] (S ++ [.ins "House" []]) = some (.non, S') ∧ Stp S [] S' (hsC Z L Z.init) ∧ L.o = S.length := by
  let o := S.length
  let CD := codeD Z.beg Z.keeps
  let E (x4 x5 : Option DV) : List (Option DV) := [some (.loc o), some Z.PD, some CD, some x, x4, x5]
  have pp := PD_plain Z
  have T0 : Stp S [] (S ++ [.ins "House" []]) [(o, .ins "House" [])] := Stp.more atS_nil (.ins "House" [])
  generalize hS0 : S ++ [Cell.ins "House" []] = S0 at T0
  -- the program
  obtain ⟨S1, e1, t1⟩ := fldV (f := "program") (v := dVar 1) (o := dVar 0) (ρ := E none none) T0.at_ 0 rfl rfl rfl rfl (show (0 : Nat) < 1000 by decide)
  have T1 : Stp S [] S1 [(o, .ins "House" [("program", Z.PD)])] := (T0.trans t1).of_eq rfl
  -- where rows lead
  have v2 : dPrim (cM (freshOf F_ways) []) (aCons (dVar 1) aNil) (E none none) S1 = some (.loc S1.length, S1 ++ [.lst (leadsD Z.rows)]) := by
    rw [v_prim, args1 (x := Z.PD) (S1 := S1) rfl]
    simp only [cM_eq]
    rw [cpL_plain (by rw [plainL_cons, pp] <;> rfl)]
    simp only
    rw [show freshOf F_ways [Z.PD] = some (leadsD Z.rows) from hways_eq Z.rows K.n1]
  obtain ⟨S2, e2, t2⟩ := fldC (f := "leads") (v := dPrim (cM (freshOf F_ways) []) (aCons (dVar 1) aNil)) (o := dVar 0) (ρ := E none none) T1.at_ 0 (.lst (leadsD Z.rows)) rfl v2 rfl rfl (show (1 : Nat) < 1000 by decide)
  generalize S1.length = le at t2
  have T2 : Stp S [] S2 [(o, .ins "House" [("program", Z.PD), ("leads", .loc le)]), (le, .lst (leadsD Z.rows))] := (T1.trans t2).of_eq rfl
  -- twins, sizes
  let TW := dikS blD Z.twL
  let SZ := dikS intD Z.szL
  have v3 : dPrim (cP (pureOf F_twins_of) []) (aCons (dVar 1) aNil) (E none none) S2 = some (.tup [TW, SZ], S2) := callPP (args1 (x := Z.PD) rfl) (by rw [plainL_cons, pp] <;> rfl) (twins_eq Z ZZ.c ZZ.s)
  have gfl : ∀ {S : Sto} {l : Cs} {f : Str} {d : DV} {fs : List (Str × DV)} {ρ : List (Option DV)}, AtS S l → l[0]? = some (o, .ins "House" fs) → dVar 0 ρ S = some (.loc o, S) → AT.contains (("House" : Str), f) = true → fs.length < 1000 → gFld AT f (dVar 0) d ρ S = some (ρ, S.set o (.ins "House" (putFD f d fs))) := fun {S l f d fs ρ} A hk ho hT hz => by
    unfold gFld
    rw [ho]
    simp only [insD, A.at 0 hk]
    rw [if_pos ⟨hT, hz⟩]
  have A2 := T2.at_
  have t3 := Stp.set A2 0 (.ins "House" [("program", Z.PD), ("leads", .loc le), ("twins", TW)])
  have t3b := Stp.set t3.at_ 0 (a := o) (c := .ins "House" [("program", Z.PD), ("leads", .loc le), ("twins", TW)]) (.ins "House" [("program", Z.PD), ("leads", .loc le), ("twins", TW), ("sizes", SZ)])
  have e3 : dAsg (dPrim (cP (pureOf F_twins_of) []) (aCons (dVar 1) aNil)) (gTupD 2 (gsCons (gFld AT "twins" (dVar 0)) (gsCons (gFld AT "sizes" (dVar 0)) gsNil))) (E none none) S2 = some (.nx (E none none) ((S2.set o (.ins "House" [("program", Z.PD), ("leads", .loc le), ("twins", TW)])).set o (.ins "House" [("program", Z.PD), ("leads", .loc le), ("twins", TW), ("sizes", SZ)]))) := by
    refine hasg_of v3 ?_
    show (match gFld AT "twins" (dVar 0) TW (E none none) S2 with | some (ρ', S') => gsCons (gFld AT "sizes" (dVar 0)) gsNil [SZ] ρ' S' | none => none) = _
    rw [gfl A2 rfl rfl rfl (show (2 : Nat) < 1000 by decide)]
    show (match gFld AT "sizes" (dVar 0) SZ (E none none) (S2.set o (.ins "House" [("program", Z.PD), ("leads", .loc le), ("twins", TW)])) with | some (ρ', S') => gsNil [] ρ' S' | none => none) = _
    rw [gfl t3.at_ rfl rfl rfl (show (3 : Nat) < 1000 by decide)]
    rfl
  generalize hS3 : (S2.set o (.ins "House" [("program", Z.PD), ("leads", .loc le), ("twins", TW)])).set o (.ins "House" [("program", Z.PD), ("leads", .loc le), ("twins", TW), ("sizes", SZ)]) = S3 at t3b e3
  have T3 : Stp S [] S3 [(o, .ins "House" [("program", Z.PD), ("leads", .loc le), ("twins", TW), ("sizes", SZ)]), (le, .lst (leadsD Z.rows))] := ((T2.trans t3).trans t3b).of_eq rfl
  -- the keeping-places
  obtain ⟨S4, e4, t4⟩ := fldC (f := "keeps") (v := fun _ S => some (.loc S.length, S ++ [.dik [] []])) (o := dVar 0) (ρ := E none none) T3.at_ 0 (dkN bxD []) rfl rfl rfl rfl (show (4 : Nat) < 1000 by decide)
  generalize S3.length = ke at t4
  let fs4 : List (Str × DV) := [("program", Z.PD), ("leads", .loc le), ("twins", TW), ("sizes", SZ), ("keeps", .loc ke)]
  have T4 : Stp S [] S4 [(o, .ins "House" fs4), (le, .lst (leadsD Z.rows)), (ke, dkN bxD [])] := (T3.trans t4).of_eq rfl
  have A4 := T4.at_
  have kz := K.kz
  obtain ⟨ρ5, e5, x4, x5, rfl⟩ := put_loopN (g := gTupD 2 (gsCons (gSet 4) (gsCons (gSet 5) gsNil))) (body := dSub (dVar 5) (dFld AT "keeps" (dVar 0)) (dVar 4)) (D := fun k : Nat × List Str => DV.tup [.int (k.1 : Nat), bxD k.2]) (f := bxD) (kx := fun k : Nat × List Str => k.1) (vx := fun k : Nat × List Str => k.2) (n := ke) (I := fun ρ => ∃ x4 x5, ρ = E x4 x5) (J := fun S => S[o]? = some (.ins "House" fs4)) (fun S c h => by rw [List.getElem?_set_ne (A4.ne 2 0)]; exact h) 5000 Z.keeps [] (E none none) S4 ⟨none, none, rfl⟩ (A4.at 0) (A4.at 2) (by rw [List.length_nil]; omega) fun k hk acc ρ S3 hI hJ hA hz => by
    obtain ⟨x4, x5, rfl⟩ := hI
    exact ⟨_, _, rfl, sub_of (x := .loc ke) (k := .int (k.1 : Nat)) (y := bxD k.2) rfl (fld_at rfl hJ rfl rfl) rfl (setI_N (f := bxD) (v := k.2) hA (by omega)), _, _, rfl⟩
  have t5 := Stp.set A4 2 (dkN bxD Z.keepsL)
  generalize hS5 : S4.set ke (dkN bxD Z.keepsL) = S5 at t5
  have e5 : forL (gTupD 2 (gsCons (gSet 4) (gsCons (gSet 5) gsNil))) (dSub (dVar 5) (dFld AT "keeps" (dVar 0)) (dVar 4)) (Z.keeps.map fun k => DV.tup [.int (k.1 : Nat), bxD k.2]) (E none none) S4 = some (.nx (E x4 x5) S5) := by
    rw [← hS5]
    exact e5
  have T5 : Stp S [] S5 [(o, .ins "House" fs4), (le, .lst (leadsD Z.rows)), (ke, dkN bxD Z.keepsL)] := (T4.trans t5).of_eq rfl
  -- the letters
  have v6 : dPrim pListM (aCons (dVar 3) aNil) (E x4 x5) S5 = some (.loc S5.length, S5 ++ [.lst (Z.coming.map .int)]) := by
    refine prim_of (args1 (x := x) rfl) ?_
    unfold pListM
    simp only [hL S5 fun i hi => T5.fr i hi fun q => by cases q]
  obtain ⟨S6, e6, t6⟩ := fldC (f := "coming") (v := dPrim pListM (aCons (dVar 3) aNil)) (o := dVar 0) (ρ := E x4 x5) T5.at_ 0 (.lst (Z.coming.map .int)) rfl v6 rfl rfl (show (5 : Nat) < 1000 by decide)
  generalize S5.length = co at t6
  let m6 : Cs := [(o, .ins "House" [("program", Z.PD), ("leads", .loc le), ("twins", TW), ("sizes", SZ), ("keeps", .loc ke), ("coming", .loc co)]), (le, .lst (leadsD Z.rows)), (ke, dkN bxD Z.keepsL), (co, .lst (Z.coming.map .int))]
  have T6 : Stp S [] S6 m6 := (T5.trans t6).of_eq rfl
  -- what stays
  obtain ⟨S7, hm, sz, p0, h0, t0, p1, h1, t1', pg, f7, t7⟩ := store_made Z ZZ K.bz S6
  have t7 := t7.beside T6.at_
  have v7 : dMake "Store" F_Store_init [] (aCons (dVar 1) (aCons (dBin pIx (dVar 2) (dC (.int 0))) aNil)) (E x4 x5) S6 = some (.loc S6.length, S7) := make_of (args2 (x := Z.PD) (y := bxD Z.beg) rfl (bin_of (x := CD) (y := .int 0) rfl rfl rfl)) f7
  generalize S6.length = sta at t7 v7
  have T7 := T6.trans t7
  have A7 := T7.at_
  have t8 := Stp.set A7 0 (.ins "House" [("program", Z.PD), ("leads", .loc le), ("twins", TW), ("sizes", SZ), ("keeps", .loc ke), ("coming", .loc co), ("stays", .loc sta)])
  have e8 : dSetF AT "stays" (dMake "Store" F_Store_init [] (aCons (dVar 1) (aCons (dBin pIx (dVar 2) (dC (.int 0))) aNil))) (dVar 0) (E x4 x5) S6 = some (.nx (E x4 x5) _) := setF_at (n := o) (C := "House") (fs := [("program", Z.PD), ("leads", .loc le), ("twins", TW), ("sizes", SZ), ("keeps", .loc ke), ("coming", .loc co)]) v7 rfl (A7.at 0) rfl (show (6 : Nat) < 1000 by decide)
  generalize hS8 : S7.set o (.ins "House" [("program", Z.PD), ("leads", .loc le), ("twins", TW), ("sizes", SZ), ("keeps", .loc ke), ("coming", .loc co), ("stays", .loc sta)]) = S8 at t8
  have e8 : dSetF AT "stays" (dMake "Store" F_Store_init [] (aCons (dVar 1) (aCons (dBin pIx (dVar 2) (dC (.int 0))) aNil))) (dVar 0) (E x4 x5) S6 = some (.nx (E x4 x5) S8) := by
    rw [← hS8]
    exact e8
  have T8 := T7.trans t8
  -- the hand
  have mkH : ∀ (S : Sto), F_Hand_init [.loc S.length] (S ++ [.ins "Hand" []]) = some (.non, S ++ [.ins "Hand" [("by_number", .loc (S.length + 1)), ("rent", .bl false)], .dik [] []]) := fun S => by
    let ρ0 : List (Option DV) := [some (.loc S.length)]
    have gl : ∀ (c : Cell) (T : Sto), (S ++ c :: T)[S.length]? = some c := fun c T => by
      rw [List.getElem?_append_right (Nat.le_refl _), Nat.sub_self] <;> rfl
    have st : ∀ (c c' : Cell) (T : Sto), (S ++ c :: T).set S.length c' = S ++ c' :: T := fun c c' T => by
      rw [List.set_append_right _ _ (Nat.le_refl _), Nat.sub_self]
      rfl
    have v : (fun (_ : List (Option DV)) (S : Sto) => some (DV.loc S.length, S ++ [Cell.dik [] []])) ρ0 (S ++ [.ins "Hand" []]) = some (.loc (S.length + 1), S ++ [.ins "Hand" [], .dik [] []]) := by
      show some (DV.loc (S ++ [Cell.ins "Hand" []]).length, (S ++ [Cell.ins "Hand" []]) ++ [Cell.dik [] []]) = _
      rw [List.length_append, List.append_assoc]
      rfl
    have s1 : dSetF AT "by_number" (fun _ S => some (.loc S.length, S ++ [.dik [] []])) (dVar 0) ρ0 (S ++ [.ins "Hand" []]) = some (.nx ρ0 (S ++ [.ins "Hand" [("by_number", .loc (S.length + 1))], .dik [] []])) := by
      rw [setF_at (C := "Hand") (fs := []) (n := S.length) v rfl (gl _ _) rfl (show (0 : Nat) < 1000 by decide), st]
      rfl
    have s2 : dSetF AT "rent" (dC (.bl false)) (dVar 0) ρ0 (S ++ [.ins "Hand" [("by_number", .loc (S.length + 1))], .dik [] []]) = some (.nx ρ0 (S ++ [.ins "Hand" [("by_number", .loc (S.length + 1)), ("rent", .bl false)], .dik [] []])) := by
      rw [setF_at (C := "Hand") (fs := [("by_number", .loc (S.length + 1))]) (n := S.length) (y := .bl false) rfl rfl (gl _ _) rfl (show (1 : Nat) < 1000 by decide), st]
      rfl
    exact run_nx rfl ((seq_nx s1).trans s2)
  have v9 : dMake "Hand" F_Hand_init [] aNil (E x4 x5) S8 = some (.loc S8.length, S8 ++ [.ins "Hand" [("by_number", .loc (S8.length + 1)), ("rent", .bl false)], .dik [] []]) := make_of rfl (mkH S8)
  have u1 := Stp.more T8.at_ (.ins "Hand" [("by_number", .loc (S8.length + 1)), ("rent", .bl false)])
  have u2 := Stp.more u1.at_ (.dik [] [])
  have u := u1.trans u2
  rw [List.append_assoc] at u
  have el : (S8 ++ [Cell.ins "Hand" [("by_number", .loc (S8.length + 1)), ("rent", .bl false)]]).length = S8.length + 1 := by rw [List.length_append, List.length_singleton]
  rw [el] at u
  generalize S8.length = ha at u v9
  have T9 := T8.trans u
  generalize hS9 : S8 ++ ([Cell.ins "Hand" [("by_number", .loc (ha + 1)), ("rent", .bl false)]] ++ [.dik [] []]) = S9 at T9
  have v9 : dMake "Hand" F_Hand_init [] aNil (E x4 x5) S8 = some (.loc ha, S9) := by
    rw [← hS9]
    exact v9
  let hF : List (Str × DV) → Cell := fun e => .ins "House" (("program", Z.PD) :: ("leads", .loc le) :: ("twins", TW) :: ("sizes", SZ) :: ("keeps", .loc ke) :: ("coming", .loc co) :: ("stays", .loc sta) :: ("hand", .loc ha) :: e)
  let fs8 : List (Str × DV) := [("program", Z.PD), ("leads", .loc le), ("twins", TW), ("sizes", SZ), ("keeps", .loc ke), ("coming", .loc co), ("stays", .loc sta)]
  let tail9 : Cs := [(le, .lst (leadsD Z.rows)), (ke, dkN bxD Z.keepsL), (co, .lst (Z.coming.map .int)), (sta, .ins "Store" [("home", .loc hm), ("sizes", .loc sz), ("pages", .loc pg), ("front", .int 0), ("final", .non)]), (hm, dkP intD Z.homeL), (sz, dkS intD Z.szL), (p0, .ins "Page" (pgF (pg0 Z.beg) h0 t0)), (h0, .lst ((pg0 Z.beg).held.map bvD)), (t0, .lst []), (p1, .ins "Page" (pgF (pg0 []) h1 t1')), (h1, .lst []), (t1', .lst []), (pg, .lst [.loc p0, .loc p1]), (ha, .ins "Hand" [("by_number", .loc (ha + 1)), ("rent", .bl false)]), (ha + 1, .dik [] [])]
  have T9 : Stp S [] S9 ((o, .ins "House" fs8) :: tail9) := T9.of_eq rfl
  have A9 := T9.at_
  have t10 := Stp.set A9 0 (hF [])
  have e10 : dSetF AT "hand" (dMake "Hand" F_Hand_init [] aNil) (dVar 0) (E x4 x5) S8 = some (.nx (E x4 x5) _) := setF_at (n := o) (C := "House") (fs := fs8) v9 rfl (A9.at 0) rfl (show (7 : Nat) < 1000 by decide)
  generalize hS10 : S9.set o (hF []) = S10 at t10
  have e10 : dSetF AT "hand" (dMake "Hand" F_Hand_init [] aNil) (dVar 0) (E x4 x5) S8 = some (.nx (E x4 x5) S10) := by
    rw [← hS10]
    exact e10
  have T10 : Stp S [] S10 ((o, hF []) :: tail9) := (T9.trans t10).of_eq rfl
  -- all is lost
  let ρl : List (Option DV) := [some (.loc o), some (.int 0)]
  obtain ⟨S11, e11, t11⟩ := fldV (f := "dust") (v := dVar 1) (o := dVar 0) (ρ := ρl) T10.at_ 0 rfl rfl rfl rfl (show (8 : Nat) < 1000 by decide)
  have T11 : Stp S [] S11 ((o, hF [("dust", .int 0)]) :: tail9) := (T10.trans t11).of_eq rfl
  obtain ⟨S12, e12, t12⟩ := fldC (f := "held") (v := fun _ S => some (.loc S.length, S ++ [.dik [] []])) (o := dVar 0) (ρ := ρl) T11.at_ 0 (dkS intD []) rfl rfl rfl rfl (show (9 : Nat) < 1000 by decide)
  generalize S11.length = he at t12
  have T12 : Stp S [] S12 ((o, hF [("dust", .int 0), ("held", .loc he)]) :: (tail9 ++ [(he, dkS intD [])])) := (T11.trans t12).of_eq rfl
  obtain ⟨S13, e13, t13⟩ := fldC (f := "log") (v := fun _ S => some (.loc S.length, S ++ [.dit [] []])) (o := dVar 0) (ρ := ρl) T12.at_ 0 (dkP intD []) rfl rfl rfl rfl (show (10 : Nat) < 1000 by decide)
  generalize S12.length = lo at t13
  have T13 : Stp S [] S13 ((o, hF [("dust", .int 0), ("held", .loc he), ("log", .loc lo)]) :: (tail9 ++ [(he, dkS intD []), (lo, dkP intD [])])) := (T12.trans t13).of_eq rfl
  obtain ⟨S14, e14, t14⟩ := fldV (f := "done") (v := dC (.int 0)) (o := dVar 0) (ρ := ρl) T13.at_ 0 rfl rfl rfl rfl (show (11 : Nat) < 1000 by decide)
  obtain ⟨S15, e15, t15⟩ := fldV (f := "hears") (v := dC (.int 0)) (o := dVar 0) (ρ := ρl) t14.at_ 0 rfl rfl rfl rfl (show (12 : Nat) < 1000 by decide)
  obtain ⟨S16, e16, t16⟩ := fldV (f := "says") (v := dC (.int 0)) (o := dVar 0) (ρ := ρl) t15.at_ 0 rfl rfl rfl rfl (show (13 : Nat) < 1000 by decide)
  have T16 : Stp S [] S16 ((o, hF [("dust", .int 0), ("held", .loc he), ("log", .loc lo), ("done", .int 0), ("hears", .int 0), ("says", .int 0)]) :: (tail9 ++ [(he, dkS intD []), (lo, dkP intD [])])) := (((T13.trans t14).trans t15).trans t16).of_eq rfl
  have mk : dMake "Up" F_Up_init [] aNil ρl S16 = some (.loc S16.length, S16 ++ [phC (.up 0)]) := by
    refine make_of rfl ?_
    have st : (S16 ++ [Cell.ins "Up" []]).set S16.length (.ins "Up" [("passed", .int 0)]) = S16 ++ [.ins "Up" [("passed", .int 0)]] := by
      rw [List.set_append_right _ _ (Nat.le_refl _), Nat.sub_self]
      rfl
    show _ = some (DV.non, S16 ++ [Cell.ins "Up" [("passed", .int 0)]])
    rw [← st]
    exact run_nx rfl (setF_at (C := "Up") (fs := []) (n := S16.length) (y := .int 0) rfl rfl (get_len _ _) rfl (show (0 : Nat) < 1000 by decide))
  obtain ⟨S17, e17, t17⟩ := fldC (f := "phase") (v := dMake "Up" F_Up_init [] aNil) (o := dVar 0) (ρ := ρl) T16.at_ 0 (phC (.up 0)) rfl mk rfl rfl (show (14 : Nat) < 1000 by decide)
  generalize S16.length = ph at t17
  let L : HL := ⟨o, le, ke, co, sta, ha, he, lo, ph, hm, sz, pg, p0, p1, h0, t0, h1, t1', ha + 1⟩
  refine ⟨S17, L, ?_, (T16.trans t17).of_eq rfl, rfl⟩
  have lose : F_House_lose [.loc o, .int 0] S10 = some (.non, S17) := run_nx rfl ((seq_nx e11).trans ((seq_nx e12).trans ((seq_nx e13).trans ((seq_nx e14).trans ((seq_nx e15).trans ((seq_nx e16).trans e17))))))
  have el : dExpr (dMeth "House" "lose" F_House_lose [] (dVar 0) (aCons (dC (.int 0)) aNil)) (E x4 x5) S10 = some (.nx (E x4 x5) S17) := expr_of ((meth_at (n := o) (C := "House") rfl (T10.at_.at 0) rfl (args1 rfl)).trans lose)
  exact run_nx rfl ((seq_nx e1).trans ((seq_nx e2).trans ((seq_nx e3).trans ((seq_nx e4).trans ((seq_nx (for_of (iSeqT_of (bin_of (x := CD) (y := .int 1) rfl rfl rfl)) e5)).trans ((seq_nx e6).trans ((seq_nx e8).trans ((seq_nx e10).trans el))))))))
end Lk76

namespace Lk76
open PySem PySem.Spec PyProof.Rows L2 Dn
/-! ### a cell and a shelf, seen from outside -/
section
variable {Z : Hst} {S : Sto} {L : HL} {h : Hs}
theorem cell_ok (A : AtS S (hsC Z L h)) {N : Nat} (O : h.Ok Z N) {c : Str} (hp : Z.IsP (c, 0)) : F_House_cell [.loc L.o, .str c] S = some (.int (h.homeV (c, 0)), S) := by
  have e : F_Store_cell [.loc L.st, .str c] S = some (.int (h.homeV (c, 0)), S) := home_ok A O hp
  exact run_rt rfl (ret_of (mS A (fH A rfl) (args1 rfl) e))
theorem shelf_ok (A : AtS S (hsC Z L h)) {N : Nat} (O : h.Ok Z N) {s : Str} (hn : Z.ShelfOk s) : F_House_shelf [.loc L.o, .str s] S = some (.lst .own ((List.range (Z.size s).toNat).map fun (k : Nat) => DV.int (h.homeV (s, k))), S) := by
  let ρ : List (Option DV) := [some (.loc L.st), some (.str s), none]
  have z0 := hn.z0
  have z1 := hn.z1
  have sz : dBin pIx (dFld AT "sizes" (dVar 0)) (dVar 1) ρ S = some (.int ((Z.size s).toNat : Nat), S) := by
    refine bin_of (x := .loc L.sz) (y := .str s) (fS A rfl) rfl (ix_of (asL_ndik (hs_sz A)) ?_)
    rw [getD_S (hs_sz A), hn.sz]
    rw [Int.toNat_of_nonneg (by omega)]
    rfl
  have e : F_Store_shelf [.loc L.st, .str s] S = some (.lst .own ((List.range (Z.size s).toNat).map fun (k : Nat) => DV.int (h.homeV (s, k))), S) := by
    refine run_rt rfl (ret_of (dLc_of (rgN_of sz (by omega)) (lc_all (D := fun (i : Nat) => DV.int i) (E := fun (k : Nat) => DV.int (h.homeV (s, k))) fun k hk => ?_) (size_ok (by rw [List.length_map, List.length_range]; omega))))
    have hk := List.mem_range.mp hk
    have hp : Z.IsP (s, k) := hn.pl k (by omega)
    refine ⟨[some (.loc L.st), some (.str s), some (.int (k : Nat))], rfl, rfl, ?_⟩
    refine bin_of (x := .loc L.hm) (y := Dn.plD (s, k)) (fS A rfl) rfl (ix_of (asL_ndit (hs_hm A)) ?_)
    rw [getD_P (hs_hm A), O.home hp]
    rfl
  exact run_rt rfl (ret_of (mS A (fH A rfl) (args1 rfl) e))
end
end Lk76

namespace Lk76
open PySem PySem.Spec PyProof.Rows L2 Dn
theorem vb_40 (n : Int) : In40 (vb n) := by
  have := vb_ok n
  exact ⟨this.1, by omega⟩
theorem pick {α : Type} (D : α → DV) (x : Int) (l : List α) (hl : 0 < l.length) : ∃ a, a ∈ l ∧ (∀ {S : Sto}, pMod (.int x) (.int (l.length : Int)) S = some (.int (x % (l.length : Int)), S)) ∧ ∀ {S : Sto}, pIx (.lst .own (l.map D)) (.int (x % (l.length : Int))) S = some (D a, S) := by
  have hi : 0 ≤ x % (l.length : Int) := Int.emod_nonneg _ (by omega)
  have hi2 : x % (l.length : Int) < l.length := Int.emod_lt_of_pos _ (by omega)
  have e : (l.map D)[(x % (l.length : Int)).toNat]? = some (D (l[(x % (l.length : Int)).toNat]'(by omega))) := by
    rw [List.getElem?_map, List.getElem?_eq_getElem (by omega)] <;> rfl
  exact ⟨_, List.getElem_mem _, fun {S} => v_modI (by omega), fun {S} => Dn.ix_seq (atD_int hi e)⟩
theorem atom_ok (x : Int) (nl : List Str) (hl : 0 < nl.length) : ∃ a : Atm, pureOf F_law_atom [.int x, .lst .own (nl.map .str)] = some a.d ∧ a.Ok := by
  by_cases q : x % 3 = 0
  · refine ⟨.n (vb (x / 3)), pureOf_of (S' := []) ?_ rfl, vb_40 _⟩
    simp [F_law_atom, b_law_atom, runF, v_modI, v_divI, q, cpL_plain, vb_eq, Atm.d]
  · obtain ⟨s, _, pm, px⟩ := pick .str (x / 3) nl hl
    refine ⟨.x s, pureOf_of (S' := []) ?_ rfl, trivial⟩
    simp [F_law_atom, b_law_atom, runF, v_modI, v_divI, q, pm, px, Atm.d]
theorem things_plain {cells : List Thing} : plainL (cells.map thD) = true := plainL_iff.mpr fun d h => by
  obtain ⟨c, _, rfl⟩ := List.mem_map.mp h
  rfl
theorem xs_at {xs : List Int} {k : Nat} (h : k < xs.length) {S : Sto} : pIx (.lst .own (xs.map .int)) (.int k) S = some (.int (xs.getD k 0), S) :=
  Dn.ix_seq (atD_nat (by rw [List.getElem?_map, List.getD_eq_getElem?_getD, List.getElem?_eq_getElem h] <;> rfl))
/-! ### the names are unlike -/
theorem one1_list (c : Nat) : (one1 c).cps.toList = [c] := rfl
theorem app_list (a b : Str) : (a ++ b).cps.toList = a.cps.toList ++ b.cps.toList := by
  show (a.cps ++ b.cps).toList = _
  simp
theorem nm_inj {c : Int} {i j : Nat} (hi : i < 26) (hj : j < 26) (h : nmK c i = nmK c j) : i = j := by
  have h1 := congrArg (fun s : Str => s.cps.toList) h
  simp only [nmK, app_list, one1_list, List.append_assoc] at h1
  have h2 := List.append_cancel_left h1
  have h3 : 97 + ((c / 42 + 5 * (i : Int)) % 26).toNat = 97 + ((c / 42 + 5 * (j : Int)) % 26).toNat := by
    have := List.head_eq_of_cons_eq h2
    exact this
  omega
theorem nm_nodup (c : Int) (a n : Nat) (h : a + n ≤ 26) : ((List.range n).map fun k => nmK c (a + k)).Nodup := by
  rw [List.nodup_iff_pairwise_ne] 
  refine List.pairwise_map.mpr ?_
  have hr : (List.range n).Pairwise (· ≠ ·) := List.nodup_range
  refine List.Pairwise.imp_of_mem ?_ hr
  intro i j hi hj hne q
  have h1 := List.mem_range.mp hi
  have h2 := List.mem_range.mp hj
  have := nm_inj (by omega) (by omega) q
  omega
theorem sign_at {i : Int} : ∃ s, isSign s ∧ ∀ {S : Sto}, pIx (.str "+-*<=&|^") (.int (i % 8)) S = some (.str s, S) := by
  rcases (show i % 8 = 0 ∨ i % 8 = 1 ∨ i % 8 = 2 ∨ i % 8 = 3 ∨ i % 8 = 4 ∨ i % 8 = 5 ∨ i % 8 = 6 ∨ i % 8 = 7 by omega) with q | q | q | q | q | q | q | q
  · exact ⟨"+", .inl rfl, fun {S} => by rw [q] <;> rfl⟩
  · exact ⟨"-", .inr (.inl rfl), fun {S} => by rw [q] <;> rfl⟩
  · exact ⟨"*", .inr (.inr (.inl rfl)), fun {S} => by rw [q] <;> rfl⟩
  · exact ⟨"<", .inr (.inr (.inr (.inl rfl))), fun {S} => by rw [q] <;> rfl⟩
  · exact ⟨"=", .inr (.inr (.inr (.inr (.inl rfl)))), fun {S} => by rw [q] <;> rfl⟩
  · exact ⟨"&", .inr (.inr (.inr (.inr (.inr (.inl rfl))))), fun {S} => by rw [q] <;> rfl⟩
  · exact ⟨"|", .inr (.inr (.inr (.inr (.inr (.inr (.inl rfl)))))), fun {S} => by rw [q] <;> rfl⟩
  · exact ⟨"^", .inr (.inr (.inr (.inr (.inr (.inr (.inr rfl)))))), fun {S} => by rw [q] <;> rfl⟩
theorem eight {xs : List Int} (h : xs.length = 8) : ∃ a b c d e f g i, xs = [a, b, c, d, e, f, g, i] := by
  match xs, h with
  | [a, b, c, d, e, f, g, i], _ => exact ⟨a, b, c, d, e, f, g, i, rfl⟩
theorem led_ok {x0 x1 x2 x3 x4 x5 x6 x7 : Int} {at_ many : Nat} (h : at_ + 1 < many) : ∃ n : Nat, n < many ∧ pureOf F_law_led [.lst .own [.int x0, .int x1, .int x2, .int x3, .int x4, .int x5, .int x6, .int x7], .int at_, .int many] = some (.int n) := by
  have i4 : ∀ {S : Sto}, pIx (.lst .own [.int x0, .int x1, .int x2, .int x3, .int x4, .int x5, .int x6, .int x7]) (.int 4) S = some (.int x4, S) := fun {S} => rfl
  have i5 : ∀ {S : Sto}, pIx (.lst .own [.int x0, .int x1, .int x2, .int x3, .int x4, .int x5, .int x6, .int x7]) (.int 5) S = some (.int x5, S) := fun {S} => rfl
  by_cases q : x4 % 6 = 0
  · have h0 : 0 ≤ x5 % (many : Int) := Int.emod_nonneg _ (by omega)
    have h1 : x5 % (many : Int) < many := Int.emod_lt_of_pos _ (by omega)
    have pm : ∀ {S : Sto}, pMod (.int x5) (.int (many : Int)) S = some (.int (x5 % (many : Int)), S) := v_modI (by omega)
    refine ⟨(x5 % (many : Int)).toNat, by omega, pureOf_of (S' := []) ?_ rfl⟩
    rw [Int.toNat_of_nonneg h0]
    simp [F_law_led, b_law_led, runF, i4, i5, v_modI, q, pm]
  · have h0 : 0 ≤ x5 % ((many : Int) - 1 - at_) := Int.emod_nonneg _ (by omega)
    have h1 : x5 % ((many : Int) - 1 - at_) < (many : Int) - 1 - at_ := Int.emod_lt_of_pos _ (by omega)
    have pm : ∀ {S : Sto}, pMod (.int x5) (.int ((many : Int) - 1 - at_)) S = some (.int (x5 % ((many : Int) - 1 - at_)), S) := v_modI (by omega)
    refine ⟨((at_ : Int) + 1 + x5 % ((many : Int) - 1 - at_)).toNat, by omega, pureOf_of (S' := []) ?_ rfl⟩
    rw [Int.toNat_of_nonneg (by omega)]
    simp [F_law_led, b_law_led, runF, i4, i5, v_modI, q, pm]
theorem pickN (x : Int) (l : List DV) (n : Int) (hl : 0 < n) (hn : (l.length : Int) = n) : ∃ a, a ∈ l ∧ ∀ {S : Sto}, pIx (.lst .own l) (.int (x % n)) S = some (a, S) := by
  subst hn
  obtain ⟨a, h1, _, h2⟩ := pick id x l (by omega)
  simp only [List.map_id, id] at h2
  exact ⟨a, h1, h2⟩
abbrev worldD (bl : List Str) (cells shelves : List Thing) (lets : List Int) : DV := .tup [.lst .own (bl.map .str), .lst .own (cells.map thD), .lst .own (shelves.map thD), .lst .own (lets.map .int)]
theorem world_plain {bl : List Str} {cells shelves : List Thing} {lets : List Int} : plain (worldD bl cells shelves lets) = true := by
  have p : plainL (bl.map DV.str) = true := plainL_strs
  have pc := things_plain (cells := cells)
  have ps := things_plain (cells := shelves)
  have pl : plainL (lets.map DV.int) = true := plainL_ints
  simp [p, pc, ps, pl]
def RowP (ck sk : List Str) (many : Nat) (d : DV) : Prop := ∃ r : PRow, d = r.d ∧ r.In ck sk ∧ r.Led many
theorem row_ok (c : Int) (at_ many : Nat) (hm : at_ + 1 < many) (nl : List Str) (hl : 0 < nl.length) (cells : List Thing) (hc : 0 < cells.length) (shelves : List Thing) (hs : 0 < shelves.length) (lets : List Int) :
    ∃ r : PRow, pureOf F_law_row [.int c, .int at_, .int many, worldD nl cells shelves lets] = some r.d ∧ r.In (cells.map (·.1)) (shelves.map (·.1)) ∧ r.Led many := by
  obtain ⟨xs, hx, h0, hst⟩ := stream_eq c 8 (by decide)
  obtain ⟨x0, x1, x2, x3, x4, x5, x6, x7, rfl⟩ := eight hx
  have hst : pureOf F_law_stream [.int c, .int 8] = some (.lst .own [.int x0, .int x1, .int x2, .int x3, .int x4, .int x5, .int x6, .int x7]) := hst
  obtain ⟨s1, _, pm1, px1⟩ := pick .str x1 nl hl
  obtain ⟨ce, hce, pmc, pxc⟩ := pick thD x6 cells hc
  obtain ⟨sh, hsh, pms, pxs⟩ := pick thD x6 shelves hs
  obtain ⟨a2, e2, A2⟩ := atom_ok x2 nl hl
  obtain ⟨a3, e3, A3⟩ := atom_ok x3 nl hl
  obtain ⟨n, hn, hled⟩ := led_ok (x0 := x0) (x1 := x1) (x2 := x2) (x3 := x3) (x4 := x4) (x5 := x5) (x6 := x6) (x7 := x7) hm
  obtain ⟨sg, hsg, pg⟩ := sign_at (i := x7)
  let X : DV := .lst .own [.int x0, .int x1, .int x2, .int x3, .int x4, .int x5, .int x6, .int x7]
  have pX : plain X = true := rfl
  have i0 : ∀ {S : Sto}, pIx X (.int 0) S = some (.int x0, S) := fun {S} => rfl
  have i1 : ∀ {S : Sto}, pIx X (.int 1) S = some (.int x1, S) := fun {S} => rfl
  have i2 : ∀ {S : Sto}, pIx X (.int 2) S = some (.int x2, S) := fun {S} => rfl
  have i3 : ∀ {S : Sto}, pIx X (.int 3) S = some (.int x3, S) := fun {S} => rfl
  have i5 : ∀ {S : Sto}, pIx X (.int 5) S = some (.int x5, S) := fun {S} => rfl
  have i6 : ∀ {S : Sto}, pIx X (.int 6) S = some (.int x6, S) := fun {S} => rfl
  have i7 : ∀ {S : Sto}, pIx X (.int 7) S = some (.int x7, S) := fun {S} => rfl
  have hst : pureOf F_law_stream [.int c, .int 8] = some X := hst
  have hled : pureOf F_law_led [X, .int at_, .int many] = some (.int n) := hled
  clear_value X
  have c0 : ∀ {S : Sto}, pIx (thD ce) (.int 0) S = some (.str ce.1, S) := fun {S} => rfl
  have s0 : ∀ {S : Sto}, pIx (thD sh) (.int 0) S = some (.str sh.1, S) := fun {S} => rfl
  have hck : ce.1 ∈ cells.map (·.1) := List.mem_map_of_mem hce
  have hsk : sh.1 ∈ shelves.map (·.1) := List.mem_map_of_mem hsh
  have p : plainL (nl.map DV.str) = true := plainL_strs
  have un : ∀ ρ : List (Option DV), dAsg (dVar 3) (gTupD 4 (gsCons (gSet 11) (gsCons (gSet 12) (gsCons (gSet 13) (gsCons (gSet 14) gsNil))))) (some (.int c) :: some (.int at_) :: some (.int many) :: some (worldD nl cells shelves lets) :: ρ) [] = some (.nx (((((some (DV.int c) :: some (.int at_) :: some (.int many) :: some (worldD nl cells shelves lets) :: ρ).set 11 (some (.lst .own (nl.map .str)))).set 12 (some (.lst .own (cells.map thD)))).set 13 (some (.lst .own (shelves.map thD)))).set 14 (some (.lst .own (lets.map .int)))) []) := fun ρ => rfl
  -- what is told, and where
  have key : ∃ d, RowP (cells.map (·.1)) (shelves.map (·.1)) many d ∧ F_law_row [.int c, .int at_, .int many, worldD nl cells shelves lets] [] = some (d, []) := by
    let B : List (Option DV) := [some (.int c), some (.int at_), some (.int many), some (worldD nl cells shelves lets), some X, some (.str s1), some (.str ce.1), some (.str sh.1), some a2.d, some a3.d, some (.int (x0 % 23)), some (.lst .own (nl.map .str)), some (.lst .own (cells.map thD)), some (.lst .own (shelves.map thD)), some (.lst .own (lets.map .int))]
    by_cases q0 : x0 % 23 < 5
    · refine ⟨(PRow.op s1 sg a2 a3).d, ⟨_, rfl, ⟨hsg, A2, A3⟩, trivial⟩, ?_⟩
      unfold F_law_row b_law_row runF
      simp only [List.length_cons, List.length_nil, List.map_cons, List.map_nil, List.replicate, List.cons_append, List.nil_append, if_true]
      rw [v_seq, un]
      simp [cpL_plain, hst, i0, i1, i2, i3, i6, i7, v_modI, q0, PRow.d, pm1, px1, pmc, pxc, pms, pxs, c0, s0, e2, e3, p, pg, pX]
    by_cases q1 : x0 % 23 < 17
    · obtain ⟨d, hd, pd⟩ := pickN (x0 % 23) [(PRow.load s1 ce.1).d, (PRow.store ce.1 a2).d, (PRow.take s1 sh.1 a2).d, (PRow.lay sh.1 a2 a3).d] 4 (by decide) rfl
      refine ⟨d, ?_, ?_⟩
      · simp only [List.mem_cons, List.not_mem_nil, or_false] at hd
        rcases hd with rfl | rfl | rfl | rfl
        · exact ⟨_, rfl, hck, trivial⟩
        · exact ⟨_, rfl, ⟨hck, A2⟩, trivial⟩
        · exact ⟨_, rfl, ⟨hsk, A2⟩, trivial⟩
        · exact ⟨_, rfl, ⟨hsk, A2, A3⟩, trivial⟩
      · simp only [PRow.d] at pd
        unfold F_law_row b_law_row runF
        simp only [List.length_cons, List.length_nil, List.map_cons, List.map_nil, List.replicate, List.cons_append, List.nil_append, if_true]
        rw [v_seq, un]
        simp [cpL_plain, hst, i0, i1, i2, i3, i6, i7, v_modI, q0, q1, pm1, px1, pmc, pxc, pms, pxs, c0, s0, e2, e3, p, pX, pd, -Int.emod_emod_of_dvd]
    by_cases q2 : x0 % 23 < 20
    · obtain ⟨d, hd, pd⟩ := pickN (x0 % 23) [(PRow.copy s1 a2).d, (PRow.hear s1).d, (PRow.say a2).d] 3 (by decide) rfl
      refine ⟨d, ?_, ?_⟩
      · simp only [List.mem_cons, List.not_mem_nil, or_false] at hd
        rcases hd with rfl | rfl | rfl
        · exact ⟨_, rfl, A2, trivial⟩
        · exact ⟨_, rfl, trivial, trivial⟩
        · exact ⟨_, rfl, A2, trivial⟩
      · simp only [PRow.d] at pd
        unfold F_law_row b_law_row runF
        simp only [List.length_cons, List.length_nil, List.map_cons, List.map_nil, List.replicate, List.cons_append, List.nil_append, if_true]
        rw [v_seq, un]
        simp [cpL_plain, hst, i0, i1, i2, i3, i6, i7, v_modI, q0, q1, q2, pm1, px1, pmc, pxc, pms, pxs, c0, s0, e2, e3, p, pX, pd, -Int.emod_emod_of_dvd]
    by_cases q3 : x0 % 23 < 22
    · refine ⟨(PRow.ifr (.x s1) n).d, ⟨_, rfl, trivial, hn⟩, ?_⟩
      unfold F_law_row b_law_row runF
      simp only [List.length_cons, List.length_nil, List.map_cons, List.map_nil, List.replicate, List.cons_append, List.nil_append, if_true]
      rw [v_seq, un]
      simp [cpL_plain, hst, i0, i1, i2, i3, i6, i7, v_modI, q0, q1, q2, q3, pm1, px1, pmc, pxc, pms, pxs, c0, s0, e2, e3, p, pX, hled, PRow.d, Atm.d]
    · obtain ⟨d, hd, pd⟩ := pickN (x5 / 64) [(PRow.endr a2).d, (PRow.say a3).d, (PRow.go n).d] 3 (by decide) rfl
      refine ⟨d, ?_, ?_⟩
      · simp only [List.mem_cons, List.not_mem_nil, or_false] at hd
        rcases hd with rfl | rfl | rfl
        · exact ⟨_, rfl, A2, trivial⟩
        · exact ⟨_, rfl, A3, trivial⟩
        · exact ⟨_, rfl, trivial, hn⟩
      · simp only [PRow.d] at pd
        unfold F_law_row b_law_row runF
        simp only [List.length_cons, List.length_nil, List.map_cons, List.map_nil, List.replicate, List.cons_append, List.nil_append, if_true]
        rw [v_seq, un]
        simp [cpL_plain, hst, i0, i1, i2, i3, i5, i6, i7, v_modI, v_divI, q0, q1, q2, q3, pm1, px1, pmc, pxc, pms, pxs, c0, s0, e2, e3, p, pX, pd, hled]
  obtain ⟨d, ⟨r, rfl, h1, h2⟩, e⟩ := key
  exact ⟨r, pureOf_of e PRow.plain_d, h1, h2⟩
end Lk76

namespace Lk76
open PySem PySem.Spec PyProof.Rows L2 Dn
/-! ### the law's world, program and cutting -/
abbrev nm12 (c : Int) : List Str := [nmK c 0, nmK c 1, nmK c 2, nmK c 3, nmK c 4, nmK c 5, nmK c 6, nmK c 7, nmK c 8, nmK c 9, nmK c 10, nmK c 11]
theorem md {a b : Int} (h : 0 < b) : 0 ≤ a % b ∧ a % b < b := ⟨Int.emod_nonneg _ (by omega), Int.emod_lt_of_pos _ h⟩
theorem names12_eq (c : Int) : pureOf F_law_names [.int c, .int 12] = some (.lst .own ((nm12 c).map .str)) := names_eq c 12 (by decide)
structure Wld (c : Int) (bl : List Str) (cells shelves : List Thing) (lets : List Int) : Prop where
  b : bl = [nmK c 6, nmK c 7, nmK c 8, nmK c 9]
  c0 : 0 < cells.length
  c3 : cells.length ≤ 3
  s0 : 0 < shelves.length
  s2 : shelves.length ≤ 2
  nd : ((cells ++ shelves).map (·.1)).Nodup
  cv : ∀ c ∈ cells, In40 c.2.1
  sz : ∀ s ∈ shelves, 1 ≤ s.2.1 ∧ s.2.1 ≤ 8
  li : ∀ v ∈ lets, In40 v
  ll : lets.length ≤ 6
  nm : ∀ x ∈ cells ++ shelves, ∃ k, x.1 = nmK c k
theorem nm_at {c : Int} {k : Nat} (h : k < 12) {S : Sto} : pIx (.lst .own ((nm12 c).map .str)) (.int (k : Nat)) S = some (.str (nmK c k), S) :=
  Dn.ix_seq (atD_nat (by
    have e : (nm12 c).map DV.str = ((List.range 12).map fun k => nmK c k).map .str := rfl
    rw [e, List.getElem?_map, List.getElem?_map, List.getElem?_range h]
    rfl))
theorem world_ok (ns : List Int) : ∃ bl cells shelves lets, Wld (ns.getD 0 0) bl cells shelves lets ∧ pureOf F_law_world [.lst .ext (ns.map DV.int)] = some (worldD bl cells shelves lets) := by
  let Sc : DV := .lst .ext (ns.map DV.int)
  have pSc : plain Sc = true := by simp [Sc]
  have cellE : ∀ (k : Nat) {ρ : List (Option DV)} {S : Sto} {e : DE}, dVar 0 ρ S = some (Sc, S) → e ρ S = some (.int (k : Nat), S) → dPrim (cP (pureOf F_law_cell_at) []) (aCons (dVar 0) (aCons e aNil)) ρ S = some (.int (ns.getD k 0), S) :=
    fun k {ρ S e} h he => callPP (args2 h he) (by rw [plainL_cons, pSc] <;> rfl) at_cell
  generalize hc : ns.getD 0 0 = c at *
  obtain ⟨xs, hx, hx0, hxs⟩ := stream_eq (ns.getD 1 0) 12 (by decide)
  have xv : ∀ {k : Nat} {e : DE} {ρ : List (Option DV)}, k < 12 → dVar 2 ρ ([] : Sto) = some (.lst .own (xs.map .int), []) → e ρ ([] : Sto) = some (.int (k : Nat), []) → dBin pIx (dVar 2) e ρ ([] : Sto) = some (.int (xs.getD k 0), []) := fun {k e ρ} h h1 h2 => bin_of h1 h2 (xs_at (by omega))
  have m3 := md (a := xs.getD 6 0) (b := 3) (by decide)
  have m2 := md (a := xs.getD 7 0) (b := 2) (by decide)
  have m7 := md (a := xs.getD 8 0) (b := 7) (by decide)
  obtain ⟨nc, hnc⟩ : ∃ a : Nat, 1 + xs.getD 6 0 % 3 = (a : Nat) := ⟨(1 + xs.getD 6 0 % 3).toNat, by omega⟩
  obtain ⟨nsh, hns⟩ : ∃ a : Nat, 1 + xs.getD 7 0 % 2 = (a : Nat) := ⟨(1 + xs.getD 7 0 % 2).toNat, by omega⟩
  obtain ⟨nl, hnl⟩ : ∃ a : Nat, xs.getD 8 0 % 7 = (a : Nat) := ⟨(xs.getD 8 0 % 7).toNat, by omega⟩
  obtain ⟨ys, hy, hy0, hys⟩ := stream_eq (ns.getD 2 0) nl (by omega)
  let cellK : Nat → Thing := fun k => (nmK c k, vb (xs.getD k 0), decide (xs.getD k 0 / 5 % 2 = 0))
  let shK : Nat → Thing := fun k => (nmK c (4 + k), 1 + xs.getD (4 + k) 0 % 8, decide (xs.getD (4 + k) 0 / 8 % 2 = 0))
  let cells := (List.range nc).map cellK
  let shelves := (List.range nsh).map shK
  let lets := ys.map vb
  have W : Wld c [nmK c 6, nmK c 7, nmK c 8, nmK c 9] cells shelves lets := by
    refine ⟨rfl, by simp [cells]; omega, by simp [cells]; omega, by simp [shelves]; omega, by simp [shelves]; omega, ?_, ?_, ?_, ?_, by simp [lets, hy]; omega, ?_⟩
    · have e : (cells ++ shelves).map (·.1) = (List.range nc).map (fun k => nmK c (0 + k)) ++ (List.range nsh).map (fun k => nmK c (4 + k)) := by
        simp only [cells, shelves, List.map_append, List.map_map]
        congr 1
        exact List.map_congr_left fun k _ => by show nmK c k = nmK c (0 + k); rw [Nat.zero_add]
      rw [e]
      refine List.nodup_append.mpr ⟨nm_nodup c 0 nc (by omega), nm_nodup c 4 nsh (by omega), fun a ha b hb => ?_⟩
      obtain ⟨i, hi, rfl⟩ := List.mem_map.mp ha
      obtain ⟨j, hj, rfl⟩ := List.mem_map.mp hb
      have := List.mem_range.mp hi
      have := List.mem_range.mp hj
      exact fun q => by have := nm_inj (by omega) (by omega) q; omega
    · intro s hs
      obtain ⟨k, _, rfl⟩ := List.mem_map.mp hs
      exact vb_40 _
    · intro s hs
      obtain ⟨k, _, rfl⟩ := List.mem_map.mp hs
      have := md (a := xs.getD (4 + k) 0) (b := 8) (by decide)
      exact ⟨by show 1 ≤ 1 + xs.getD (4 + k) 0 % 8; omega, by show 1 + xs.getD (4 + k) 0 % 8 ≤ 8; omega⟩
    · intro v hv
      obtain ⟨z, _, rfl⟩ := List.mem_map.mp hv
      exact vb_40 z
    · intro x hx
      rcases List.mem_append.mp hx with h | h
      · obtain ⟨k, _, rfl⟩ := List.mem_map.mp h
        exact ⟨k, rfl⟩
      · obtain ⟨k, _, rfl⟩ := List.mem_map.mp h
        exact ⟨4 + k, rfl⟩
  refine ⟨_, cells, shelves, lets, W, ?_⟩
  let N (x1 x2 x3 x4 x5 x6 x7 : Option DV) : List (Option DV) := [some Sc, x1, x2, x3, x4, x5, x6, x7]
  let j1 := some (DV.lst .own ((nm12 c).map .str))
  let j2 := some (DV.lst .own (xs.map .int))
  let j3 := some (DV.lst .own (cells.map thD))
  let j4 := some (DV.lst .own (shelves.map thD))
  let j5 := some (DV.lst .own (lets.map .int))
  have s1 : dSet 1 (dPrim (cP (pureOf F_law_names) []) (aCons (dPrim (cP (pureOf F_law_cell_at) []) (aCons (dVar 0) (aCons (dC (.int 0)) aNil))) (aCons (dC (.int 12)) aNil))) (N none none none none none none none) ([] : Sto) = some (.nx (N j1 none none none none none none) []) := by
    have := cellE 0 (ρ := N none none none none none none none) (S := []) (e := dC (.int 0)) rfl rfl
    rw [hc] at this
    exact set_of (callPP (args2 this (y := .int (12 : Nat)) rfl) rfl (names12_eq c))
  have s2 : dSet 2 (dPrim (cP (pureOf F_law_stream) []) (aCons (dPrim (cP (pureOf F_law_cell_at) []) (aCons (dVar 0) (aCons (dC (.int 1)) aNil))) (aCons (dC (.int 12)) aNil))) (N j1 none none none none none none) ([] : Sto) = some (.nx (N j1 j2 none none none none none) []) :=
    set_of (callPP (args2 (cellE 1 rfl rfl) (y := .int (12 : Nat)) rfl) rfl hxs)
  have s3 : dSet 3 (dLc (iRange1 (aCons (dBin pAdd (dC (.int 1)) (dBin pMod (dBin pIx (dVar 2) (dC (.int 6))) (dC (.int 3)))) aNil)) (gSet 6) (dC (.bl true)) (dPrim pTup (aCons (dBin pIx (dVar 1) (dVar 6)) (aCons (dPrim (cP (pureOf F_law_value_by) []) (aCons (dBin pIx (dVar 2) (dVar 6)) aNil)) (aCons (dBin (pEq false) (dBin pMod (dBin pDiv (dBin pIx (dVar 2) (dVar 6)) (dC (.int 5))) (dC (.int 2))) (dC (.int 0))) aNil)))) [6]) (N j1 j2 none none none none none) ([] : Sto) = some (.nx (N j1 j2 j3 none none none none) []) := by
    refine set_of ((dLc_of (S1 := []) (S2 := []) (rgN_of (n := nc) ?_ (by omega)) (lc_all (D := fun (i : Nat) => DV.int i) (E := fun k => thD (cellK k)) (K := List.range nc) fun k hk => ?_) (size_ok (by rw [List.length_map, List.length_range]; omega))).trans ?_)
    · rw [← hnc]
      exact addI_of (a := 1) rfl (modI_of (xv (k := 6) (by decide) rfl rfl) (b := 3) rfl (by decide))
    · have hk := List.mem_range.mp hk
      let ρ1 := N j1 j2 none none none (some (.int (k : Nat))) none
      have vx := xv (k := k) (e := dVar 6) (ρ := ρ1) (by omega) rfl rfl
      refine ⟨ρ1, rfl, rfl, ?_⟩
      exact prim_of (args3 (bin_of (x := .lst .own ((nm12 c).map .str)) (y := .int (k : Nat)) rfl rfl (nm_at (by omega))) (callPP (args1 vx) rfl (vb_eq _)) (bin_of (bin_of (bin_of vx (y := .int 5) rfl (v_divI (by decide) (by decide))) (y := .int 2) rfl (v_modI (by decide))) (y := .int 0) rfl v_eqI)) rfl
    · rw [List.map_map]; rfl
  have s4 : dSet 4 (dLc (iRange1 (aCons (dBin pAdd (dC (.int 1)) (dBin pMod (dBin pIx (dVar 2) (dC (.int 7))) (dC (.int 2)))) aNil)) (gSet 6) (dC (.bl true)) (dPrim pTup (aCons (dBin pIx (dVar 1) (dBin pAdd (dC (.int 4)) (dVar 6))) (aCons (dBin pAdd (dC (.int 1)) (dBin pMod (dBin pIx (dVar 2) (dBin pAdd (dC (.int 4)) (dVar 6))) (dC (.int 8)))) (aCons (dBin (pEq false) (dBin pMod (dBin pDiv (dBin pIx (dVar 2) (dBin pAdd (dC (.int 4)) (dVar 6))) (dC (.int 8))) (dC (.int 2))) (dC (.int 0))) aNil)))) [6]) (N j1 j2 j3 none none none none) ([] : Sto) = some (.nx (N j1 j2 j3 j4 none none none) []) := by
    refine set_of ((dLc_of (S1 := []) (S2 := []) (rgN_of (n := nsh) ?_ (by omega)) (lc_all (D := fun (i : Nat) => DV.int i) (E := fun k => thD (shK k)) (K := List.range nsh) fun k hk => ?_) (size_ok (by rw [List.length_map, List.length_range]; omega))).trans ?_)
    · rw [← hns]
      exact addI_of (a := 1) rfl (modI_of (xv (k := 7) (by decide) rfl rfl) (b := 2) rfl (by decide))
    · have hk := List.mem_range.mp hk
      let ρ1 := N j1 j2 j3 none none (some (.int (k : Nat))) none
      have ix : dBin pAdd (dC (.int 4)) (dVar 6) ρ1 ([] : Sto) = some (.int ((4 + k : Nat) : Int), []) := (addI_of (a := 4) (b := (k : Nat)) rfl rfl).trans (by rw [show (4 + ((k : Nat) : Int)) = ((4 + k : Nat) : Int) by omega])
      have vx := xv (k := 4 + k) (ρ := ρ1) (by omega) rfl ix
      refine ⟨ρ1, rfl, rfl, ?_⟩
      exact prim_of (args3 (bin_of (x := .lst .own ((nm12 c).map .str)) rfl ix (nm_at (by omega))) (addI_of (a := 1) rfl (modI_of vx (b := 8) rfl (by decide))) (bin_of (bin_of (bin_of vx (y := .int 8) rfl (v_divI (by decide) (by decide))) (y := .int 2) rfl (v_modI (by decide))) (y := .int 0) rfl v_eqI)) rfl
    · rw [List.map_map]; rfl
  have s5 : dSet 5 (dLc (iSeq (dPrim (cP (pureOf F_law_stream) []) (aCons (dPrim (cP (pureOf F_law_cell_at) []) (aCons (dVar 0) (aCons (dC (.int 2)) aNil))) (aCons (dBin pMod (dBin pIx (dVar 2) (dC (.int 8))) (dC (.int 7))) aNil)))) (gSet 7) (dC (.bl true)) (dPrim (cP (pureOf F_law_value_by) []) (aCons (dVar 7) aNil)) [7]) (N j1 j2 j3 j4 none none none) ([] : Sto) = some (.nx (N j1 j2 j3 j4 j5 none none) []) := by
    have en : dBin pMod (dBin pIx (dVar 2) (dC (.int 8))) (dC (.int 7)) (N j1 j2 j3 j4 none none none) ([] : Sto) = some (.int (nl : Nat), []) := by
      rw [← hnl]
      exact modI_of (xv (k := 8) (by decide) rfl rfl) (b := 7) rfl (by decide)
    refine set_of ((dLc_of (S1 := []) (S2 := []) (iSeqL_of (callPP (args2 (cellE 2 rfl rfl) en) rfl hys)) (lc_all (D := fun (z : Int) => DV.int z) (E := fun z => DV.int (vb z)) (K := ys) fun z _ => ?_) (size_ok (by rw [List.length_map, hy]; omega))).trans ?_)
    · exact ⟨N j1 j2 j3 j4 none none (some (.int z)), rfl, rfl, callPP (args1 (x := .int z) rfl) rfl (vb_eq z)⟩
    · simp only [j5, lets, List.map_map]; rfl
  exact pureOf_of (S' := []) (run_rt rfl ((seq_nx s1).trans ((seq_nx s2).trans ((seq_nx s3).trans ((seq_nx s4).trans ((seq_nx s5).trans (ret_of (prim_of (argsC (x := .lst .own ([nmK c 6, nmK c 7, nmK c 8, nmK c 9].map .str)) rfl (args3 (x := .lst .own (cells.map thD)) (y := .lst .own (shelves.map thD)) (z := .lst .own (lets.map .int)) rfl rfl rfl)) rfl)))))))) world_plain
/-! ### some of the names -/
theorem v_shrI {a : Int} {b : Nat} {S : Sto} : pShr (.int a) (.int b) S = some (.int (a / 2 ^ b), S) := by
  show (match gShr a b with | some k => some (DV.int k, S) | none => none) = _
  unfold gShr
  rw [if_pos (by omega)]
  rfl
theorem some_eq (z : Int) (nl : List Str) (hl : nl.length < 64) : ∃ l : List Str, (∀ s ∈ l, s ∈ nl) ∧ l.length ≤ nl.length ∧ pureOf F_law_some [.int z, .lst .own (nl.map .str)] = some (bxD l) := by
  let p : Nat → Bool := fun k => decide (Builtin.bitAnd (z / 2 ^ k) 1 = 1)
  let m : List Str := ((List.range nl.length).filter p).map fun k => nl.getD k ""
  have ml : m.length ≤ nl.length := by
    have := List.length_filter_le p (List.range nl.length)
    rw [List.length_range] at this
    simp only [m, List.length_map]
    exact this
  have hm : ∀ s ∈ m, s ∈ nl := fun s hs => by
    obtain ⟨k, hk, rfl⟩ := List.mem_map.mp hs
    have hk := List.mem_range.mp (List.mem_filter.mp hk).1
    rw [List.getD_eq_getElem?_getD, List.getElem?_eq_getElem hk]
    exact List.getElem_mem hk
  refine ⟨sortS m, fun s hs => hm s ((sortS_perm m).mem_iff.mp hs), by rw [(sortS_perm m).length_eq]; exact ml, ?_⟩
  let ρ : List (Option DV) := [some (.int z), some (.lst .own (nl.map .str)), none]
  have e : dLc (iRange1 (aCons (dPrim pLen (aCons (dVar 1) aNil)) aNil)) (gSet 2) (dBin (pEq false) (dBin pAnd (dBin pShr (dVar 0) (dVar 2)) (dC (.int 1))) (dC (.int 1))) (dBin pIx (dVar 1) (dVar 2)) [2] ρ ([] : Sto) = some (.lst .own (m.map .str), []) := by
    have ln : dPrim pLen (aCons (dVar 1) aNil) ρ ([] : Sto) = some (.int (nl.length : Nat), []) := by
      have := lenL_of (f := dVar 1) (ρ := ρ) (S := []) (k := .own) (xs := nl.map .str) rfl
      rw [List.length_map] at this
      exact this
    refine (dLc_of (S1 := []) (S2 := []) (rgN_of ln (by omega)) (lc_filt (D := fun (i : Nat) => DV.int i) (E := fun k => DV.str (nl.getD k "")) (p := p) (K := List.range nl.length) fun k hk => ?_) ?_).trans ?_
    · have hk := List.mem_range.mp hk
      refine ⟨[some (.int z), some (.lst .own (nl.map .str)), some (.int (k : Nat))], rfl, ?_, fun _ => ?_⟩
      · exact bin_of (bin_of (bin_of (x := .int z) (y := .int (k : Nat)) rfl rfl v_shrI) (y := .int 1) rfl v_andI) (y := .int 1) rfl v_eqI
      · refine bin_of (x := .lst .own (nl.map .str)) (y := .int (k : Nat)) rfl rfl (ix_seq (atD_nat ?_))
        rw [List.getElem?_map, List.getD_eq_getElem?_getD, List.getElem?_eq_getElem hk]
        rfl
    · have := List.length_filter_le p (List.range nl.length)
      rw [List.length_range] at this
      exact size_ok (by rw [List.length_map]; omega)
    · simp only [m, List.map_map]; rfl
  exact pureOf_of (S' := []) (run_rt rfl (ret_of (tupL_of (sortedL_of e (by omega))))) (show plainL _ = true from plainL_strs)
theorem xs_last {xs : List Int} {n : Nat} (h : xs.length = n + 1) {S : Sto} : pIx (.lst .own (xs.map .int)) (.int (-1)) S = some (.int (xs.getD n 0), S) := by
  refine Dn.ix_seq ?_
  unfold atD
  have e : ixN (xs.map DV.int).length (-1) = some n := by
    unfold ixN
    rw [List.length_map, h]
    rw [if_neg (by omega), if_pos (by omega)]
    congr 1
    omega
  rw [e]
  show (List.map DV.int xs)[n]? = _
  rw [List.getElem?_map, List.getD_eq_getElem?_getD, List.getElem?_eq_getElem (by omega)]
  rfl
/-! ### the program -/
theorem rows_plain (rows : List PRow) : plainL (rows.map PRow.d) = true := plainL_iff.mpr fun d hd => by
  obtain ⟨r, _, rfl⟩ := List.mem_map.mp hd
  exact PRow.plain_d
theorem program_ok {c : Int} {bl : List Str} {cells shelves : List Thing} {lets : List Int} (W : Wld c bl cells shelves lets) (zs : List Int) (hz : zs.length ≤ 60) {last : Atm} (hl : last.Ok) (k : LK) : ∃ rows : List PRow, rows.length = zs.length + 1 ∧ (∀ r ∈ rows, r.In (cells.map (·.1)) (shelves.map (·.1)) ∧ r.Led (zs.length + 1)) ∧ rows[zs.length]? = some (.endr last) ∧
    pureOf F_law_program [.lst k (zs.map .int), worldD bl cells shelves lets, last.d] = some (.tup [.tup (cells.map thD), .tup (shelves.map thD), .tup (rows.map PRow.d)]) := by
  have rk : ∀ i, i < zs.length → ∃ r : PRow, pureOf F_law_row [.int (zs.getD i 0), .int (i : Nat), .int ((zs.length + 1 : Nat) : Int), worldD bl cells shelves lets] = some r.d ∧ r.In (cells.map (·.1)) (shelves.map (·.1)) ∧ r.Led (zs.length + 1) := fun i hi =>
    row_ok (zs.getD i 0) i (zs.length + 1) (by omega) bl (by rw [W.b]; show 0 < 4; decide) cells W.c0 shelves W.s0 lets
  obtain ⟨f, hf⟩ := choose_lt (P := fun i (r : PRow) => pureOf F_law_row [.int (zs.getD i 0), .int (i : Nat), .int ((zs.length + 1 : Nat) : Int), worldD bl cells shelves lets] = some r.d ∧ r.In (cells.map (·.1)) (shelves.map (·.1)) ∧ r.Led (zs.length + 1)) (PRow.go 0) rk
  let Wd := worldD bl cells shelves lets
  let rows : List PRow := (List.range zs.length).map f ++ [.endr last]
  have rlen : ((List.range zs.length).map f).length = zs.length := by rw [List.length_map, List.length_range]
  refine ⟨rows, by simp only [rows, List.length_append, rlen, List.length_singleton], fun r hr => ?_, ?_, ?_⟩
  · rcases List.mem_append.mp hr with h | h
    · obtain ⟨i, hi, rfl⟩ := List.mem_map.mp h
      exact (hf i (List.mem_range.mp hi)).2
    · rw [List.mem_singleton.mp h]
      exact ⟨hl, trivial⟩
  · show ((List.range zs.length).map f ++ [PRow.endr last])[zs.length]? = _
    rw [List.getElem?_append_right (by rw [rlen]; exact Nat.le_refl _), rlen, Nat.sub_self]
    rfl
  · let N (x3 x4 : Option DV) : List (Option DV) := [some (.lst k (zs.map .int)), some Wd, some last.d, x3, x4]
    have ln : ∀ {x3 x4}, dPrim pLen (aCons (dVar 0) aNil) (N x3 x4) ([] : Sto) = some (.int (zs.length : Nat), []) := fun {x3 x4} => by
      have := lenL_of (f := dVar 0) (ρ := N x3 x4) (S := []) (k := k) (xs := zs.map .int) rfl
      rw [List.length_map] at this
      exact this
    have s1 : dSet 3 (dLc (iRange1 (aCons (dPrim pLen (aCons (dVar 0) aNil)) aNil)) (gSet 4) (dC (.bl true)) (dPrim (cP (pureOf F_law_row) []) (aCons (dBin pIx (dVar 0) (dVar 4)) (aCons (dVar 4) (aCons (dBin pAdd (dPrim pLen (aCons (dVar 0) aNil)) (dC (.int 1))) (aCons (dVar 1) aNil))))) [4]) (N none none) ([] : Sto) = some (.nx (N (some (.lst .own (((List.range zs.length).map f).map PRow.d))) none) []) := by
      refine set_of ((dLc_of (S1 := []) (S2 := []) (rgN_of ln (by omega)) (lc_all (D := fun (i : Nat) => DV.int i) (E := fun i => (f i).d) (K := List.range zs.length) fun i hi => ?_) (size_ok (by rw [List.length_map, List.length_range]; omega))).trans (by rw [List.map_map]; rfl))
      have hi := List.mem_range.mp hi
      refine ⟨N none (some (.int (i : Nat))), rfl, rfl, ?_⟩
      refine callPP (argsC (x := .int (zs.getD i 0)) (bin_of (x := .lst k (zs.map .int)) (y := .int (i : Nat)) rfl rfl (ix_seq (atD_nat ?_))) (args3 (x := .int (i : Nat)) (y := .int ((zs.length + 1 : Nat) : Int)) (z := Wd) rfl ?_ rfl)) ?_ (hf i hi).1
      · rw [List.getElem?_map, List.getD_eq_getElem?_getD, List.getElem?_eq_getElem hi]
        rfl
      · exact (addI_of ln (b := 1) rfl).trans (by rw [show (((zs.length : Nat) : Int) + 1) = ((zs.length + 1 : Nat) : Int) by omega])
      · show (true && (true && (true && (plain (worldD bl cells shelves lets) && true)))) = true
        rw [world_plain] <;> rfl
    have ca : dPrim pTuple (aCons (dBin pIx (dVar 1) (dC (.int 1))) aNil) (N (some (.lst .own (((List.range zs.length).map f).map PRow.d))) none) ([] : Sto) = some (.tup (cells.map thD), []) := tupL_of (k := .own) (bin_of (x := Wd) (y := .int 1) rfl rfl rfl)
    have cb : dPrim pTuple (aCons (dBin pIx (dVar 1) (dC (.int 2))) aNil) (N (some (.lst .own (((List.range zs.length).map f).map PRow.d))) none) ([] : Sto) = some (.tup (shelves.map thD), []) := tupL_of (k := .own) (bin_of (x := Wd) (y := .int 2) rfl rfl rfl)
    have cc : dBin pAdd (dPrim pTuple (aCons (dVar 3) aNil)) (dPrim pTup (aCons (dPrim pTup (aCons (dC (.str "end")) (aCons (dVar 2) aNil))) aNil)) (N (some (.lst .own (((List.range zs.length).map f).map PRow.d))) none) ([] : Sto) = some (.tup (rows.map PRow.d), []) := by
      refine bin_of (tupL_of (k := .own) (xs := ((List.range zs.length).map f).map PRow.d) rfl) (y := .tup [(PRow.endr last).d]) rfl ?_
      rw [v_addT, if_pos (size_ok (by rw [List.length_map, rlen, List.length_singleton]; omega))]
      show some (DV.tup (((List.range zs.length).map f).map PRow.d ++ [(PRow.endr last).d]), ([] : Sto)) = _
      rw [show rows.map PRow.d = ((List.range zs.length).map f).map PRow.d ++ [(PRow.endr last).d] from List.map_append]
    refine pureOf_of (S' := []) (run_rt rfl ((seq_nx s1).trans (ret_of (prim_of (args3 ca cb cc) rfl)))) ?_
    show (plainL (cells.map thD) && (plainL (shelves.map thD) && (plainL (rows.map PRow.d) && true))) = true
    rw [things_plain, things_plain, rows_plain] <;> rfl
end Lk76

namespace Lk76
open PySem PySem.Spec PyProof.Rows L2 Dn
/-! ### a box, the count, the answer, seen from outside -/
def isGo : Ph → Bool
  | .go _ => true
  | _ => false
def Hs.boxV (h : Hs) (x : Str) : Int := if isGo h.ph = true then h.worth (.x x) else 0
def Hs.countV (h : Hs) : Nat := if isGo h.ph = true then h.done else (h.page h.front).done
section
variable {Z : Hst} {S S0 : Sto} {L : HL} {h : Hs} {ρ : List (Option DV)}
theorem goes_c (A : AtS S (hsC Z L h)) {g : DE} (hg : g ρ S = some (.loc L.o, S)) : dIsC IT "Going" (dFld AT "phase" g) ρ S = some (.bl (isGo h.ph), S) := by
  have key : ∀ {t : Str × Str × Bool}, (IT.find? fun t => t.1 == phN h.ph && t.2.1 == ("Going" : Str)) = some t → t.2.2 = isGo h.ph → dIsC IT "Going" (dFld AT "phase" g) ρ S = some (.bl (isGo h.ph), S) := fun {t} ht e => by
    rw [← e]
    exact isC_at (fH A hg) (at_ph A) ht
  cases hp : h.ph with
  | up k => rw [hp] at key; exact key (t := ("Up", "Going", false)) rfl rfl
  | go k => rw [hp] at key; exact key (t := ("Going", "Going", true)) rfl rfl
  | keep r l k => rw [hp] at key; exact key (t := ("Keeping", "Going", false)) rfl rfl
  | rest => rw [hp] at key; exact key (t := ("Resting", "Going", false)) rfl rfl
theorem box_ok (A : AtS S (hsC Z L h)) (x : Str) : F_House_box [.loc L.o, .str x] S = some (.int (Hs.boxV h x), S) := by
  have c := goes_c (ρ := [some (.loc L.o), some (.str x)]) (g := dVar 0) A rfl
  unfold Hs.boxV
  cases q : isGo h.ph with
  | true =>
    rw [q] at c
    rw [if_pos rfl]
    exact run_rt rfl (seq_rt ((ifS_t c).trans (ret_of (held_get (o := dVar 0) A rfl rfl rfl))))
  | false =>
    rw [q] at c
    rw [if_neg (by decide)]
    exact run_rt rfl ((seq_nx ((ifS_f c).trans rfl)).trans (ret_of rfl))
theorem count_ok (A : AtS S (hsC Z L h)) : F_House_count [.loc L.o] S = some (.int (Hs.countV h : Nat), S) := by
  have c := goes_c (ρ := [some (.loc L.o)]) (g := dVar 0) A rfl
  unfold Hs.countV
  cases q : isGo h.ph with
  | true =>
    rw [q] at c
    rw [if_pos rfl]
    exact run_rt rfl (seq_rt ((ifS_t c).trans (ret_of (fH A rfl))))
  | false =>
    rw [q] at c
    rw [if_neg (by decide)]
    have e : dBin pIx (dMeth "House" "page" F_House_page [] (dVar 0) (aCons (dMeth "House" "face" F_House_face [] (dVar 0) aNil) aNil)) (dC (.int 1)) [some (.loc L.o)] S = some (.int ((h.page h.front).done : Nat), S) :=
      bin_of (mH A rfl (args1 (mH A rfl rfl (face_ok A))) (page_ok A h.front)) (y := .int 1) rfl rfl
    exact run_rt rfl ((seq_nx ((ifS_f c).trans rfl)).trans (ret_of e))
theorem answer_ok (A : AtS S (hsC Z L h)) : F_House_answer [.loc L.o] S = some (optI h.fin, S) := run_rt rfl (ret_of (mS A (fH A rfl) rfl (run_rt rfl (ret_of (fS A rfl)))))
end
end Lk76

namespace Lk76
open PySem PySem.Spec PyProof.Rows L2 Dn
/-! ### the cutting -/
theorem row_end {r : PRow} {S : Sto} {f : DE} {ρ : List (Option DV)} (h : f ρ S = some (r.d, S)) : dBin (pEq false) (dBin pIx f (dC (.int 0))) (dC (.str "end")) ρ S = some (.bl (isEnd r), S) := by
  have w : ∀ {s : Str} {b : Bool}, pIx r.d (.int 0) S = some (.str s, S) → pEq false (.str s) (.str "end") S = some (.bl b, S) → b = isEnd r → dBin (pEq false) (dBin pIx f (dC (.int 0))) (dC (.str "end")) ρ S = some (.bl (isEnd r), S) := fun {s b} h1 h2 e => by
    rw [← e]
    exact bin_of (bin_of h (y := .int 0) rfl h1) (y := .str "end") rfl h2
  cases r <;> exact w rfl rfl rfl
theorem codeD_plain (b : List Str) (ks : List (Nat × List Str)) : plain (codeD b ks) = true := by
  have e : plainL (ks.map fun k => DV.tup [.int (k.1 : Nat), bxD k.2]) = true := plainL_iff.mpr fun d hd => by
    obtain ⟨k, _, rfl⟩ := List.mem_map.mp hd
    show (true && (plainL (k.2.map .str) && true)) = true
    rw [plainL_strs] <;> rfl
  show (plainL (b.map .str) && (plainL (ks.map fun k => DV.tup [.int (k.1 : Nat), bxD k.2]) && true)) = true
  rw [plainL_strs, e] <;> rfl
/-- what is told of a cutting -/
structure CutOk (nl : List Str) (rows : List PRow) (b : List Str) (ks : List (Nat × List Str)) : Prop where
  bb : ∀ s ∈ b, s ∈ nl
  bz : b.length ≤ nl.length
  k : ∀ k ∈ ks, (∀ s ∈ k.2, s ∈ nl) ∧ k.2.length ≤ nl.length ∧ k.1 < rows.length
  kz : ks.length ≤ rows.length
  nd : (ks.map (·.1)).Nodup
  e : ∀ (i : Nat) (r : PRow), rows[i]? = some r → isEnd r = true → ∃ bs, (i, bs) ∈ ks
theorem cutting_ok {c s : DV} (pc : plain c = true) (ps : plain s = true) (rows : List PRow) (hr : rows.length ≤ 1000) (h0 : 0 < rows.length) (z : Int) (nl : List Str) (hl : nl.length < 64) :
    ∃ b ks, CutOk nl rows b ks ∧ pureOf F_law_cutting [.tup [c, s, .tup (rows.map PRow.d)], .int z, .lst .own (nl.map .str)] = some (codeD b ks) := by
  obtain ⟨xs, hx, hx0, hxs⟩ := stream_eq z (rows.length + 2) (by omega)
  let st : Int := [2, 3, 5].getD (xs.getD 0 0 % 3).toNat 0
  have m3 := md (a := xs.getD 0 0) (b := 3) (by decide)
  have st_ok : 0 < st ∧ ∀ {S : Sto}, pIx (.lst .own [.int 2, .int 3, .int 5]) (.int (xs.getD 0 0 % 3)) S = some (.int st, S) := by
    rcases (show xs.getD 0 0 % 3 = 0 ∨ xs.getD 0 0 % 3 = 1 ∨ xs.getD 0 0 % 3 = 2 by omega) with q | q | q <;> (simp only [st]; rw [q]; exact ⟨by decide, rfl⟩)
  obtain ⟨st0, stx⟩ := st_ok
  clear_value st
  have sm : ∀ w : Int, ∃ l : List Str, ((∀ s ∈ l, s ∈ nl) ∧ l.length ≤ nl.length) ∧ pureOf F_law_some [.int w, .lst .own (nl.map .str)] = some (bxD l) := fun w => by
    obtain ⟨l, h1, h2, h3⟩ := some_eq w nl hl
    exact ⟨l, ⟨h1, h2⟩, h3⟩
  obtain ⟨b, hb, eb⟩ := sm (xs.getD (rows.length + 1) 0)
  obtain ⟨lf, hlf⟩ := choose_lt (n := rows.length) (P := fun i (l : List Str) => ((∀ s ∈ l, s ∈ nl) ∧ l.length ≤ nl.length) ∧ pureOf F_law_some [.int (xs.getD (i + 1) 0 / 30), .lst .own (nl.map .str)] = some (bxD l)) [] fun i _ => sm _
  let p : Nat → Bool := fun i => (match rows[i]? with | some r => isEnd r | none => false) || decide (xs.getD (i + 1) 0 % st = 0)
  let ks : List (Nat × List Str) := ((List.range rows.length).filter p).map fun i => (i, lf i)
  have fl := List.length_filter_le p (List.range rows.length)
  rw [List.length_range] at fl
  refine ⟨b, ks, ⟨hb.1, hb.2, fun k hk => ?_, by simp only [ks, List.length_map]; exact fl, ?_, fun i r hi he => ?_⟩, ?_⟩
  · obtain ⟨i, hi, rfl⟩ := List.mem_map.mp hk
    have hi := List.mem_range.mp (List.mem_filter.mp hi).1
    exact ⟨(hlf i hi).1.1, (hlf i hi).1.2, hi⟩
  · have e : ks.map (·.1) = (List.range rows.length).filter p := by simp only [ks, List.map_map]; exact List.map_id _
    rw [e]
    exact List.Nodup.sublist List.filter_sublist List.nodup_range
  · have hi2 := (List.getElem?_eq_some_iff.mp hi).1
    refine ⟨lf i, List.mem_map.mpr ⟨i, List.mem_filter.mpr ⟨List.mem_range.mpr hi2, ?_⟩, rfl⟩⟩
    simp only [p, hi, he, Bool.true_or]
  · let P : DV := .tup [c, s, .tup (rows.map PRow.d)]
    let NL : DV := .lst .own (nl.map .str)
    let R : DV := .tup (rows.map PRow.d)
    let X : DV := .lst .own (xs.map .int)
    let N (x3 x4 x5 x6 x7 : Option DV) : List (Option DV) := [some P, some (.int z), some NL, x3, x4, x5, x6, x7]
    have s1 : dSet 3 (dBin pIx (dVar 0) (dC (.int 2))) (N none none none none none) ([] : Sto) = some (.nx (N (some R) none none none none) []) := rfl
    have ln : ∀ {x4 x5 x6 x7 S}, dPrim pLen (aCons (dVar 3) aNil) (N (some R) x4 x5 x6 x7) S = some (.int (rows.length : Nat), S) := fun {x4 x5 x6 x7 S} => by
      refine (prim_of (args1 (x := R) rfl) (r := some (.int ((rows.map PRow.d).length : Nat), S)) rfl).trans ?_
      rw [List.length_map]
    have s2 : dSet 4 (dPrim (cP (pureOf F_law_stream) []) (aCons (dVar 1) (aCons (dBin pAdd (dPrim pLen (aCons (dVar 3) aNil)) (dC (.int 2))) aNil))) (N (some R) none none none none) ([] : Sto) = some (.nx (N (some R) (some X) none none none) []) := by
      refine set_of (callPP (args2 (x := .int z) (y := .int ((rows.length + 2 : Nat) : Int)) rfl ?_) rfl hxs)
      exact (addI_of ln (b := 2) rfl).trans (by rw [show (((rows.length : Nat) : Int) + 2) = ((rows.length + 2 : Nat) : Int) by omega])
    have s3 : dSet 5 (dBin pIx (dPrim pLst (aCons (dC (.int 2)) (aCons (dC (.int 3)) (aCons (dC (.int 5)) aNil)))) (dBin pMod (dBin pIx (dVar 4) (dC (.int 0))) (dC (.int 3)))) (N (some R) (some X) none none none) ([] : Sto) = some (.nx (N (some R) (some X) (some (.int st)) none none) []) :=
      set_of (bin_of (x := .lst .own [.int 2, .int 3, .int 5]) rfl (modI_of (bin_of (x := X) (y := .int (0 : Nat)) rfl rfl (xs_at (by omega))) (b := 3) rfl (by decide)) stx)
    have s4 : dSet 6 (dPrim pLstM aNil) (N (some R) (some X) (some (.int st)) none none) ([] : Sto) = some (.nx (N (some R) (some X) (some (.int st)) (some (.loc 0)) none) [.lst []]) := rfl
    obtain ⟨ρ', e5, x7, rfl⟩ := for_filt (D := fun (i : Nat) => DV.int i) (E := fun i => DV.tup [.int (i : Nat), bxD (lf i)]) (p := p) (g := gSet 7) (body := dIfS (dOr (dBin (pEq false) (dBin pIx (dBin pIx (dVar 3) (dVar 7)) (dC (.int 0))) (dC (.str "end"))) (dBin (pEq false) (dBin pMod (dBin pIx (dVar 4) (dBin pAdd (dVar 7) (dC (.int 1)))) (dVar 5)) (dC (.int 0)))) (dExpr (dMt pAppend (dVar 6) (aCons (dPrim pTup (aCons (dVar 7) (aCons (dPrim (cP (pureOf F_law_some) []) (aCons (dBin pDiv (dBin pIx (dVar 4) (dBin pAdd (dVar 7) (dC (.int 1)))) (dC (.int 30))) (aCons (dVar 2) aNil))) aNil))) aNil))) dNext)
      (I := fun ρ => ∃ x7, ρ = N (some R) (some X) (some (.int st)) (some (.loc 0)) x7) (st := fun acc => [.lst acc]) 1000 (List.range rows.length) [] (N (some R) (some X) (some (.int st)) (some (.loc 0)) none) ⟨none, rfl⟩ (by rw [List.length_nil, List.length_range]; omega) (fun i hi acc ρ hacc hI => by
        obtain ⟨x7, rfl⟩ := hI
        have hi := List.mem_range.mp hi
        obtain ⟨r, hr2⟩ : ∃ r, rows[i]? = some r := ⟨_, List.getElem?_eq_getElem hi⟩
        let ρ1 := N (some R) (some X) (some (.int st)) (some (.loc 0)) (some (.int (i : Nat)))
        have cr : dBin pIx (dVar 3) (dVar 7) ρ1 [.lst acc] = some (r.d, [.lst acc]) := bin_of (x := R) (y := .int (i : Nat)) rfl rfl (ix_tup (atD_nat (by rw [List.getElem?_map, hr2]; rfl)))
        have ix : dBin pIx (dVar 4) (dBin pAdd (dVar 7) (dC (.int 1))) ρ1 [.lst acc] = some (.int (xs.getD (i + 1) 0), [.lst acc]) := by
          refine bin_of (x := X) (y := .int ((i + 1 : Nat) : Int)) rfl ?_ (xs_at (by omega))
          exact (addI_of (a := (i : Nat)) (b := 1) rfl rfl).trans (by rw [show (((i : Nat) : Int) + 1) = ((i + 1 : Nat) : Int) by omega])
        have c2 : dBin (pEq false) (dBin pMod (dBin pIx (dVar 4) (dBin pAdd (dVar 7) (dC (.int 1)))) (dVar 5)) (dC (.int 0)) ρ1 [.lst acc] = some (.bl (decide (xs.getD (i + 1) 0 % st = 0)), [.lst acc]) := bin_of (modI_of ix (b := st) rfl st0) (y := .int 0) rfl v_eqI
        have cc := or_b (row_end cr) c2
        have pe : p i = (isEnd r || decide (xs.getD (i + 1) 0 % st = 0)) := by simp only [p, hr2]
        refine ⟨ρ1, [.lst acc], ρ1, rfl, ?_, _, rfl⟩
        rw [← pe] at cc
        cases q : p i with
        | true =>
          rw [q] at cc
          rw [if_pos rfl]
          refine (ifS_t cc).trans ((append_of (f := dVar 6) (n := 0) rfl rfl (prim_of (args2 (x := .int (i : Nat)) rfl (callPP (args2 (bin_of ix (y := .int 30) rfl (v_divI (by decide) (by decide))) (y := NL) rfl) ?_ (hlf i hi).2)) rfl) (by omega)).trans ?_)
          · show (true && (plainL (nl.map .str) && true)) = true
            rw [plainL_strs] <;> rfl
          · rfl
        | false =>
          rw [q] at cc
          rw [if_neg (by decide)]
          exact (ifS_f cc).trans rfl)
    have fr : iRange1 (aCons (dPrim pLen (aCons (dVar 3) aNil)) aNil) (N (some R) (some X) (some (.int st)) (some (.loc 0)) none) [.lst []] = some ((List.range rows.length).map fun (i : Nat) => DV.int i, [.lst []]) := rgN_of ln (by omega)
    have e5' : ∀ {ks' : List DV}, [] ++ List.map (fun i => DV.tup [.int (i : Nat), bxD (lf i)]) ((List.range rows.length).filter p) = ks' → ks' = ks.map fun k => DV.tup [.int (k.1 : Nat), bxD k.2] := fun {ks'} h => by
      rw [← h, List.nil_append]
      simp only [ks, List.map_map]
      rfl
    rw [e5' rfl] at e5
    have s5 := for_of fr e5
    have cl : dPrim (cP (pureOf F_law_some) []) (aCons (dBin pIx (dVar 4) (dUn pNeg (dC (.int 1)))) (aCons (dVar 2) aNil)) (N (some R) (some X) (some (.int st)) (some (.loc 0)) x7) [.lst (ks.map fun k => DV.tup [.int (k.1 : Nat), bxD k.2])] = some (bxD b, [.lst (ks.map fun k => DV.tup [.int (k.1 : Nat), bxD k.2])]) := by
      refine callPP (args2 (x := .int (xs.getD (rows.length + 1) 0)) (bin_of (x := X) (y := .int (-1)) rfl rfl (xs_last (n := rows.length + 1) hx)) (y := NL) rfl) ?_ eb
      show (true && (plainL (nl.map .str) && true)) = true
      rw [plainL_strs] <;> rfl
    have tl : dPrim pTuple (aCons (dVar 6) aNil) (N (some R) (some X) (some (.int st)) (some (.loc 0)) x7) [.lst (ks.map fun k => DV.tup [.int (k.1 : Nat), bxD k.2])] = some (.tup (ks.map fun k => DV.tup [.int (k.1 : Nat), bxD k.2]), [.lst (ks.map fun k => DV.tup [.int (k.1 : Nat), bxD k.2])]) := prim_of (args1 (x := .loc 0) rfl) rfl
    exact pureOf_of (run_rt rfl ((seq_nx s1).trans ((seq_nx s2).trans ((seq_nx s3).trans ((seq_nx s4).trans ((seq_nx s5).trans (ret_of (prim_of (args2 cl tl) rfl)))))))) (codeD_plain b ks)
end Lk76

namespace Lk76
open PySem PySem.Spec PyProof.Rows L2 Dn
/-! ### steps, driven and by hand -/
theorem aug_of {i : Nat} {p : P2} {f : DE} {ρ : List (Option DV)} {S S1 S2 : Sto} {x y d : DV} (hx : ρ[i]? = some (some x)) (hf : f ρ S = some (y, S1)) (hp : p x y S1 = some (d, S2)) : dAug i p f ρ S = some (.nx (ρ.set i (some d)) S2) := by
  rw [v_aug, hx]
  simp only [hf, hp]
theorem min_of {f g : DE} {ρ : List (Option DV)} {S S1 S2 : Sto} {a b : Nat} (h1 : f ρ S = some (.int (a : Nat), S1)) (h2 : g ρ S1 = some (.int (b : Nat), S2)) : dPrim pMin (aCons f (aCons g aNil)) ρ S = some (.int (min a b : Nat), S2) := by
  refine prim_of (args2 h1 h2) ?_
  have e : pMin [.int (a : Nat), .int (b : Nat)] S2 = some (.int (if (b : Int) < (a : Int) then (b : Int) else (a : Int)), S2) := rfl
  rw [e]
  by_cases q : b < a
  · rw [if_pos (by omega), Nat.min_eq_right (by omega)]
  · rw [if_neg (by omega), Nat.min_eq_left (by omega)]
section
variable {Z : Hst} {S : Sto} {L : HL} {h : Hs} {N : Nat}
abbrev stpB : DS := dSeq (dExpr (dMeth "House" "step" F_House_step [] (dVar 0) aNil)) (dAug 2 pAddI (dC (.int 1)))
abbrev stpC : DE := dAnd (dBin pLt (dVar 2) (dVar 1)) (dNot (dMeth "House" "rests" F_House_rests [] (dVar 0) aNil))
theorem stepped_while (K : Z.Ok) : ∀ (m d fuel : Nat) {S : Sto} {L : HL} {h : Hs} {N : Nat}, m < fuel → AtS S (hsC Z L h) → h.Ok Z N → N + m ≤ 99999 → S.all notLok = true →
    ∃ S' L', whileL stpC stpB fuel [some (.loc L.o), some (.int ((d + m : Nat) : Int)), some (.int (d : Nat))] S = some (.nx [some (.loc L.o), some (.int ((d + m : Nat) : Int)), some (.int ((d + (handA Z m h).2 : Nat) : Int))] S') ∧ HSt Z S L h S' L' (handA Z m h).1
  | m, d, 0, S, L, h, N, hf, A, O, hN, nl => absurd hf (by omega)
  | 0, d, fuel + 1, S, L, h, N, hf, A, O, hN, nl => by
    refine ⟨S, L, ?_, HSt.refl A⟩
    have c : stpC [some (.loc L.o), some (.int ((d + 0 : Nat) : Int)), some (.int (d : Nat))] S = some (.bl false, S) := and_f ((bin_of (x := .int (d : Nat)) (y := .int ((d + 0 : Nat) : Int)) rfl rfl v_lt).trans (by rw [decide_eq_false (by omega)]))
    unfold whileL
    rw [c]
    rfl
  | m + 1, d, fuel + 1, S, L, h, N, hf, A, O, hN, nl => by
    have r : dMeth "House" "rests" F_House_rests [] (dVar 0) aNil [some (.loc L.o), some (.int ((d + (m + 1) : Nat) : Int)), some (.int (d : Nat))] S = some (.bl h.ph.isRest, S) := mH A rfl rfl (rests_ok A)
    have c : stpC [some (.loc L.o), some (.int ((d + (m + 1) : Nat) : Int)), some (.int (d : Nat))] S = some (.bl (!h.ph.isRest), S) := and_t ((bin_of (x := .int (d : Nat)) (y := .int ((d + (m + 1) : Nat) : Int)) rfl rfl v_lt).trans (by rw [decide_eq_true (by omega)])) (not_of r)
    cases hr : h.ph.isRest with
    | true =>
      rw [hr] at c
      rw [handA_rest hr]
      refine ⟨S, L, ?_, HSt.refl A⟩
      unfold whileL
      rw [c]
      rfl
    | false =>
      rw [hr] at c
      obtain ⟨S1, L1, e1, T1⟩ := step_ok A O (by omega) K nl
      obtain ⟨S', L', e2, T2⟩ := stepped_while K m (d + 1) fuel (by omega) T1.1.at_ (O.step K) (by omega) (T1.1.nl nl)
      rw [T1.2, show d + 1 + m = d + (m + 1) by omega] at e2
      have b : stpB [some (.loc L.o), some (.int ((d + (m + 1) : Nat) : Int)), some (.int (d : Nat))] S = some (.nx [some (.loc L.o), some (.int ((d + (m + 1) : Nat) : Int)), some (.int ((d + 1 : Nat) : Int))] S1) := by
        refine (seq_nx (expr_of (mH A rfl rfl e1))).trans ((aug_of (x := .int (d : Nat)) rfl rfl (show pAddI (.int (d : Nat)) (.int 1) S1 = some (.int ((d : Nat) + 1), S1) from rfl)).trans ?_)
        rw [show (((d : Nat) : Int) + 1) = ((d + 1 : Nat) : Int) by omega]
        rfl
      have en : (handA Z (m + 1) h).2 = (handA Z m (h.step Z)).2 + 1 := by
        show (handA Z m (h.step Z)).2 + (if h.ph.isRest = true then 0 else 1) = _
        rw [hr, if_neg (by decide)]
      refine ⟨S', L', ?_, T1.trans T2⟩
      rw [en]
      unfold whileL
      rw [c]
      simp only [Bool.not_false]
      rw [b]
      simp only
      rw [e2, show d + 1 + (handA Z m (h.step Z)).2 = d + ((handA Z m (h.step Z)).2 + 1) by omega]
theorem stepped_ok (A : AtS S (hsC Z L h)) (O : h.Ok Z N) (K : Z.Ok) (n : Nat) (hN : N + n ≤ 99999) (nl : S.all notLok = true) :
    ∃ S' L', F_stepped [.loc L.o, .int (n : Nat)] S = some (.int ((handA Z n h).2 : Nat), S') ∧ HSt Z S L h S' L' (handA Z n h).1 := by
  obtain ⟨S', L', e, T⟩ := stepped_while K n 0 100000 (by omega) A O hN nl
  rw [Nat.zero_add, Nat.zero_add] at e
  exact ⟨S', L', run_rt rfl ((seq_nx (ρ' := [some (.loc L.o), some (.int (n : Nat)), some (.int (0 : Nat))]) (S' := S) rfl).trans ((seq_nx e).trans (ret_of rfl))), T⟩
abbrev flD (q : Nat × Int) : DV := .tup [.int (q.1 : Nat), .int q.2]
abbrev drB : DS := (dSeq (dAug 3 pAddI (dPrim (cS F_stepped []) (aCons (dVar 0) (aCons (dPrim pMin (aCons (dVar 5) (aCons (dBin pSub (dVar 2) (dVar 4)) aNil))) aNil))))
  (dSeq (dAug 4 pAddI (dVar 5))
  (dSeq (dIfS (dBin pGt (dVar 4) (dVar 2)) (dRet (dVar 3)) dNext)
  (dExpr (dMeth "House" "fail" F_House_fail [] (dVar 0) (aCons (dVar 6) aNil))))))
abbrev drR : DS := dRet (dBin pAdd (dVar 3) (dPrim (cS F_stepped []) (aCons (dVar 0) (aCons (dBin pSub (dVar 2) (dVar 4)) aNil))))
theorem drive_loop (K : Z.Ok) (F : DV) : ∀ (l : List (Nat × Int)) (most asked left done : Nat) {S : Sto} {L : HL} {h : Hs} {N : Nat} (x5 x6 : Option DV), most = asked + left → (∀ q ∈ l, In40 q.2) → AtS S (hsC Z L h) → h.Ok Z N → N + left ≤ 99999 → S.all notLok = true →
    ∃ S' L', HSt Z S L h S' L' (drv Z l left h).1 ∧ dSeq (fun ρ S => forL (gTupD 2 (gsCons (gSet 5) (gsCons (gSet 6) gsNil))) drB (l.map flD) ρ S) drR [some (.loc L.o), some F, some (.int (most : Nat)), some (.int (done : Nat)), some (.int (asked : Nat)), x5, x6] S = some (.rt (.int ((done + (drv Z l left h).2 : Nat) : Int)) S')
  | [], most, asked, left, done, S, L, h, N, x5, x6, hm, hq, A, O, hN, nl => by
    obtain ⟨S', L', e, T⟩ := stepped_ok A O K left hN nl
    refine ⟨S', L', T, (seq_nx (ρ' := [some (.loc L.o), some F, some (.int (most : Nat)), some (.int (done : Nat)), some (.int (asked : Nat)), x5, x6]) (S' := S) rfl).trans (ret_of ((addI_of (a := (done : Nat)) (b := ((handA Z left h).2 : Nat)) rfl (callS (args2 (x := .loc L.o) (y := .int (left : Nat)) rfl ?_) e)).trans ?_))⟩
    · exact (subI_of (a := (most : Nat)) (b := (asked : Nat)) rfl rfl).trans (by rw [show ((most : Nat) : Int) - (asked : Nat) = ((left : Nat) : Int) by omega])
    · rw [show (((done : Nat) : Int) + ((handA Z left h).2 : Nat)) = ((done + (handA Z left h).2 : Nat) : Int) by omega]
      rfl
  | q :: l, most, asked, left, done, S, L, h, N, x5, x6, hm, hq, A, O, hN, nl => by
    obtain ⟨S1, L1, e1, T1⟩ := stepped_ok A O K (min q.1 left) (by omega) nl
    have hlen := handA_len (Z := Z) (min q.1 left) h
    let ρ (a b : Nat) : List (Option DV) := [some (.loc L.o), some F, some (.int (most : Nat)), some (.int (a : Nat)), some (.int (b : Nat)), some (.int (q.1 : Nat)), some (.int q.2)]
    have g : gTupD 2 (gsCons (gSet 5) (gsCons (gSet 6) gsNil)) (flD q) [some (.loc L.o), some F, some (.int (most : Nat)), some (.int (done : Nat)), some (.int (asked : Nat)), x5, x6] S = some (ρ done asked, S) := rfl
    have b1 : dAug 3 pAddI (dPrim (cS F_stepped []) (aCons (dVar 0) (aCons (dPrim pMin (aCons (dVar 5) (aCons (dBin pSub (dVar 2) (dVar 4)) aNil))) aNil))) (ρ done asked) S = some (.nx (ρ (done + (handA Z (min q.1 left) h).2) asked) S1) := by
      refine (aug_of (x := .int (done : Nat)) (y := .int ((handA Z (min q.1 left) h).2 : Nat)) rfl (callS (args2 (x := .loc L.o) (y := .int (min q.1 left : Nat)) rfl (min_of rfl ?_)) e1) (show pAddI (.int (done : Nat)) (.int ((handA Z (min q.1 left) h).2 : Nat)) S1 = some (.int ((done : Nat) + ((handA Z (min q.1 left) h).2 : Nat)), S1) from rfl)).trans ?_
      · exact (subI_of (a := (most : Nat)) (b := (asked : Nat)) rfl rfl).trans (by rw [show ((most : Nat) : Int) - (asked : Nat) = ((left : Nat) : Int) by omega])
      · rw [show (((done : Nat) : Int) + ((handA Z (min q.1 left) h).2 : Nat)) = ((done + (handA Z (min q.1 left) h).2 : Nat) : Int) by omega]
        rfl
    have b2 : dAug 4 pAddI (dVar 5) (ρ (done + (handA Z (min q.1 left) h).2) asked) S1 = some (.nx (ρ (done + (handA Z (min q.1 left) h).2) (asked + q.1)) S1) := by
      refine (aug_of (x := .int (asked : Nat)) (y := .int (q.1 : Nat)) rfl rfl (show pAddI (.int (asked : Nat)) (.int (q.1 : Nat)) S1 = some (.int ((asked : Nat) + (q.1 : Nat)), S1) from rfl)).trans ?_
      rw [show (((asked : Nat) : Int) + (q.1 : Nat)) = ((asked + q.1 : Nat) : Int) by omega]
      rfl
    have c3 : dBin pGt (dVar 4) (dVar 2) (ρ (done + (handA Z (min q.1 left) h).2) (asked + q.1)) S1 = some (.bl (decide (left < q.1)), S1) := (bin_of (x := .int ((asked + q.1 : Nat) : Int)) (y := .int (most : Nat)) rfl rfl v_gt).trans (by rw [show decide (((most : Nat) : Int) < ((asked + q.1 : Nat) : Int)) = decide (left < q.1) from decide_eq_decide.mpr (by omega)])
    by_cases c : left < q.1
    · rw [decide_eq_true c] at c3
      have ed : drv Z (q :: l) left h = handA Z (min q.1 left) h := if_pos c
      rw [ed]
      refine ⟨S1, L1, T1, seq_rt ?_⟩
      show forL _ drB (flD q :: l.map flD) _ S = _
      unfold forL
      rw [g]
      simp only
      rw [show drB (ρ done asked) S = some (.rt (.int ((done + (handA Z (min q.1 left) h).2 : Nat) : Int)) S1) from (seq_nx b1).trans ((seq_nx b2).trans (seq_rt ((ifS_t c3).trans (ret_of rfl))))]
    · rw [decide_eq_false c] at c3
      have ed : drv Z (q :: l) left h = ((drv Z l (left - q.1) ((handA Z (min q.1 left) h).1.fail q.2)).1, (handA Z (min q.1 left) h).2 + (drv Z l (left - q.1) ((handA Z (min q.1 left) h).1.fail q.2)).2) := if_neg c
      rw [ed]
      obtain ⟨S2, L2, e2, T2⟩ := fail_ok T1.1.at_ q.2
      have O1 := (handA_ok K (min q.1 left) O).fail (hq q List.mem_cons_self)
      obtain ⟨S', L', T3, e3⟩ := drive_loop K F l most (asked + q.1) (left - q.1) (done + (handA Z (min q.1 left) h).2) (some (.int (q.1 : Nat))) (some (.int q.2)) (by omega) (fun x hx => hq x (List.mem_cons_of_mem _ hx)) T2.1.at_ O1 (by omega) (T2.1.nl (T1.1.nl nl))
      rw [T2.2, T1.2] at e3
      refine ⟨S', L', (T1.trans T2).trans T3, ?_⟩
      rw [show done + ((handA Z (min q.1 left) h).2 + (drv Z l (left - q.1) ((handA Z (min q.1 left) h).1.fail q.2)).2) = done + (handA Z (min q.1 left) h).2 + (drv Z l (left - q.1) ((handA Z (min q.1 left) h).1.fail q.2)).2 by omega, ← e3]
      rw [v_seq, v_seq]
      have eb : drB (ρ done asked) S = some (.nx (ρ (done + (handA Z (min q.1 left) h).2) (asked + q.1)) S2) := (seq_nx b1).trans ((seq_nx b2).trans ((seq_nx ((ifS_f c3).trans rfl)).trans (expr_of (mH T1.1.at_ (by rw [T1.2]; rfl) (args1 (x := .int q.2) rfl) e2))))
      have ef : forL (gTupD 2 (gsCons (gSet 5) (gsCons (gSet 6) gsNil))) drB ((q :: l).map flD) [some (.loc L.o), some F, some (.int (most : Nat)), some (.int (done : Nat)), some (.int (asked : Nat)), x5, x6] S = forL (gTupD 2 (gsCons (gSet 5) (gsCons (gSet 6) gsNil))) drB (l.map flD) (ρ (done + (handA Z (min q.1 left) h).2) (asked + q.1)) S2 := by
        rw [List.map_cons]
        conv => lhs; unfold forL
        rw [g]
        simp only
        rw [eb]
      rw [ef]
theorem drive_ok (K : Z.Ok) {l : List (Nat × Int)} {most : Nat} {k : LK} (hq : ∀ q ∈ l, In40 q.2) (A : AtS S (hsC Z L h)) (O : h.Ok Z N) (hN : N + most ≤ 99999) (nl : S.all notLok = true) :
    ∃ S' L', F_drive [.loc L.o, .lst k (l.map flD), .int (most : Nat)] S = some (.int ((drv Z l most h).2 : Nat), S') ∧ HSt Z S L h S' L' (drv Z l most h).1 := by
  obtain ⟨S', L', T, e⟩ := drive_loop K (.lst k (l.map flD)) l most 0 most 0 none none (by omega) hq A O hN nl
  rw [Nat.zero_add] at e
  exact ⟨S', L', run_rt rfl ((seq_nx (ρ' := [some (.loc L.o), some (.lst k (l.map flD)), some (.int (most : Nat)), some (.int (0 : Nat)), none, none, none]) (S' := S) rfl).trans ((seq_nx (ρ' := [some (.loc L.o), some (.lst k (l.map flD)), some (.int (most : Nat)), some (.int (0 : Nat)), some (.int (0 : Nat)), none, none]) (S' := S) rfl).trans (by
    rw [v_seq] at e ⊢
    rw [show dFor (iSeq (dVar 1)) (gTupD 2 (gsCons (gSet 5) (gsCons (gSet 6) gsNil))) drB [some (.loc L.o), some (.lst k (l.map flD)), some (.int (most : Nat)), some (.int (0 : Nat)), some (.int (0 : Nat)), none, none] S = forL (gTupD 2 (gsCons (gSet 5) (gsCons (gSet 6) gsNil))) drB (l.map flD) [some (.loc L.o), some (.lst k (l.map flD)), some (.int (most : Nat)), some (.int (0 : Nat)), some (.int (0 : Nat)), none, none] S from for_of (iSeqL_of (k := k) rfl) rfl]
    exact e))), T⟩
/-! by hand -/
abbrev hdI : DS := (dSeq (dSet 3 (dBin pAdd (dVar 3) (dPrim pInt (aCons (dNot (dMeth "House" "rests" F_House_rests [] (dVar 0) aNil)) aNil))))
  (dExpr (dMeth "House" "step" F_House_step [] (dVar 0) aNil)))
theorem byh_inner (K : Z.Ok) (F M E : Option DV) (x6 x7 : Option DV) : ∀ (ds : List DV) (done : Nat) {S : Sto} {L : HL} {h : Hs} {N : Nat} (x5 : Option DV), AtS S (hsC Z L h) → h.Ok Z N → N + ds.length ≤ 99999 → S.all notLok = true →
    ∃ S' L' y5, HSt Z S L h S' L' (handA Z ds.length h).1 ∧ forL (gSet 5) hdI ds [some (.loc L.o), F, M, some (.int (done : Nat)), E, x5, x6, x7] S = some (.nx [some (.loc L.o), F, M, some (.int ((done + (handA Z ds.length h).2 : Nat) : Int)), E, y5, x6, x7] S')
  | [], done, S, L, h, N, x5, A, O, hN, nl => ⟨S, L, x5, HSt.refl A, rfl⟩
  | d :: ds, done, S, L, h, N, x5, A, O, hN, nl => by
    rw [List.length_cons] at hN ⊢
    let b : Nat := if h.ph.isRest = true then 0 else 1
    let ρ (a : Nat) : List (Option DV) := [some (.loc L.o), F, M, some (.int (a : Nat)), E, some d, x6, x7]
    have r : dMeth "House" "rests" F_House_rests [] (dVar 0) aNil (ρ done) S = some (.bl h.ph.isRest, S) := mH A rfl rfl (rests_ok A)
    have s1 : dSet 3 (dBin pAdd (dVar 3) (dPrim pInt (aCons (dNot (dMeth "House" "rests" F_House_rests [] (dVar 0) aNil)) aNil))) (ρ done) S = some (.nx (ρ (done + b)) S) := by
      refine set_of ((addI_of (a := (done : Nat)) (b := (b : Nat)) rfl ((prim_of (args1 (not_of r)) v_intB).trans ?_)).trans (by rw [show (((done : Nat) : Int) + (b : Nat)) = ((done + b : Nat) : Int) by omega]))
      show some (DV.int (if (!h.ph.isRest) = true then 1 else 0), S) = some (DV.int ((if h.ph.isRest = true then 0 else 1 : Nat) : Int), S)
      cases h.ph.isRest <;> rfl
    obtain ⟨S1, L1, e1, T1⟩ := step_ok A O (by omega) K nl
    obtain ⟨S', L', y5, T2, e2⟩ := byh_inner K F M E x6 x7 ds (done + b) (some d) T1.1.at_ (O.step K) (by omega) (T1.1.nl nl)
    rw [T1.2] at e2
    refine ⟨S', L', y5, T1.trans T2, ?_⟩
    have eb : hdI (ρ done) S = some (.nx (ρ (done + b)) S1) := (seq_nx s1).trans (expr_of (mH A rfl rfl e1))
    conv => lhs; unfold forL
    show (match hdI (ρ done) S with | some (.nx ρ2 S2) => _ | some (.ct ρ2 S2) => _ | some (.bk ρ2 S2) => _ | some (.rt v S2) => _ | none => _) = _
    rw [eb]
    simp only
    rw [e2]
    show some (Out.nx [some (.loc L.o), F, M, some (.int ((done + b + (handA Z ds.length (h.step Z)).2 : Nat) : Int)), E, y5, x6, x7] S') = some (Out.nx [some (.loc L.o), F, M, some (.int ((done + ((handA Z ds.length (h.step Z)).2 + b) : Nat) : Int)), E, y5, x6, x7] S')
    rw [show done + b + (handA Z ds.length (h.step Z)).2 = done + ((handA Z ds.length (h.step Z)).2 + b) by omega]
abbrev hdB : DS := (dSeq (dFor (iRange1 (aCons (dPrim pMin (aCons (dVar 6) (aCons (dVar 4) aNil))) aNil)) (gSet 5) hdI)
  (dSeq (dIfS (dBin pGt (dVar 6) (dVar 4)) (dRet (dVar 3)) dNext)
  (dSeq (dSet 4 (dBin pSub (dVar 4) (dVar 6)))
  (dExpr (dMeth "House" "fail" F_House_fail [] (dVar 0) (aCons (dVar 7) aNil))))))
abbrev hdR : DS := dSeq (dFor (iRange1 (aCons (dVar 4) aNil)) (gSet 5) hdI) (dRet (dVar 3))
theorem byh_loop (K : Z.Ok) (F M : Option DV) : ∀ (l : List (Nat × Int)) (left done : Nat) {S : Sto} {L : HL} {h : Hs} {N : Nat} (x5 x6 x7 : Option DV), (∀ q ∈ l, In40 q.2) → AtS S (hsC Z L h) → h.Ok Z N → N + left ≤ 99999 → S.all notLok = true →
    ∃ S' L', HSt Z S L h S' L' (drv Z l left h).1 ∧ dSeq (fun ρ S => forL (gTupD 2 (gsCons (gSet 6) (gsCons (gSet 7) gsNil))) hdB (l.map flD) ρ S) hdR [some (.loc L.o), F, M, some (.int (done : Nat)), some (.int (left : Nat)), x5, x6, x7] S = some (.rt (.int ((done + (drv Z l left h).2 : Nat) : Int)) S')
  | [], left, done, S, L, h, N, x5, x6, x7, hq, A, O, hN, nl => by
    have ln : ((List.range left).map fun (i : Nat) => DV.int i).length = left := by rw [List.length_map, List.length_range]
    obtain ⟨S', L', y5, T, e⟩ := byh_inner K F M (some (.int (left : Nat))) x6 x7 ((List.range left).map fun (i : Nat) => DV.int i) done x5 A O (by rw [ln]; exact hN) nl
    rw [ln] at T e
    exact ⟨S', L', T, (seq_nx (ρ' := [some (.loc L.o), F, M, some (.int (done : Nat)), some (.int (left : Nat)), x5, x6, x7]) (S' := S) rfl).trans ((seq_nx (for_of (rgN_of (n := left) rfl (by omega)) e)).trans (ret_of rfl))⟩
  | q :: l, left, done, S, L, h, N, x5, x6, x7, hq, A, O, hN, nl => by
    have ln : ((List.range (min q.1 left)).map fun (i : Nat) => DV.int i).length = min q.1 left := by rw [List.length_map, List.length_range]
    obtain ⟨S1, L1, y5, T1, e1⟩ := byh_inner K F M (some (.int (left : Nat))) (some (.int (q.1 : Nat))) (some (.int q.2)) ((List.range (min q.1 left)).map fun (i : Nat) => DV.int i) done x5 A O (by rw [ln]; omega) nl
    rw [ln] at T1 e1
    let ρ (a b : Nat) (x5 : Option DV) : List (Option DV) := [some (.loc L.o), F, M, some (.int (a : Nat)), some (.int (b : Nat)), x5, some (.int (q.1 : Nat)), some (.int q.2)]
    have g : gTupD 2 (gsCons (gSet 6) (gsCons (gSet 7) gsNil)) (flD q) [some (.loc L.o), F, M, some (.int (done : Nat)), some (.int (left : Nat)), x5, x6, x7] S = some (ρ done left x5, S) := rfl
    have b1 : dFor (iRange1 (aCons (dPrim pMin (aCons (dVar 6) (aCons (dVar 4) aNil))) aNil)) (gSet 5) hdI (ρ done left x5) S = some (.nx (ρ (done + (handA Z (min q.1 left) h).2) left y5) S1) := for_of (rgN_of (n := min q.1 left) (min_of rfl rfl) (by omega)) e1
    have c3 : dBin pGt (dVar 6) (dVar 4) (ρ (done + (handA Z (min q.1 left) h).2) left y5) S1 = some (.bl (decide (left < q.1)), S1) := (bin_of (x := .int (q.1 : Nat)) (y := .int (left : Nat)) rfl rfl v_gt).trans (by rw [show decide (((left : Nat) : Int) < ((q.1 : Nat) : Int)) = decide (left < q.1) from decide_eq_decide.mpr (by omega)])
    by_cases c : left < q.1
    · rw [decide_eq_true c] at c3
      have ed : drv Z (q :: l) left h = handA Z (min q.1 left) h := if_pos c
      rw [ed]
      refine ⟨S1, L1, T1, seq_rt ?_⟩
      show forL _ hdB (flD q :: l.map flD) _ S = _
      unfold forL
      rw [g]
      simp only
      rw [show hdB (ρ done left x5) S = some (.rt (.int ((done + (handA Z (min q.1 left) h).2 : Nat) : Int)) S1) from (seq_nx b1).trans (seq_rt ((ifS_t c3).trans (ret_of rfl)))]
    · rw [decide_eq_false c] at c3
      have ed : drv Z (q :: l) left h = ((drv Z l (left - q.1) ((handA Z (min q.1 left) h).1.fail q.2)).1, (handA Z (min q.1 left) h).2 + (drv Z l (left - q.1) ((handA Z (min q.1 left) h).1.fail q.2)).2) := if_neg c
      rw [ed]
      obtain ⟨S2, L2, e2, T2⟩ := fail_ok T1.1.at_ q.2
      have O1 := (handA_ok K (min q.1 left) O).fail (hq q List.mem_cons_self)
      obtain ⟨S', L', T3, e3⟩ := byh_loop K F M l (left - q.1) (done + (handA Z (min q.1 left) h).2) y5 (some (.int (q.1 : Nat))) (some (.int q.2)) (fun x hx => hq x (List.mem_cons_of_mem _ hx)) T2.1.at_ O1 (by omega) (T2.1.nl (T1.1.nl nl))
      rw [T2.2, T1.2] at e3
      refine ⟨S', L', (T1.trans T2).trans T3, ?_⟩
      rw [show done + ((handA Z (min q.1 left) h).2 + (drv Z l (left - q.1) ((handA Z (min q.1 left) h).1.fail q.2)).2) = done + (handA Z (min q.1 left) h).2 + (drv Z l (left - q.1) ((handA Z (min q.1 left) h).1.fail q.2)).2 by omega, ← e3]
      rw [v_seq, v_seq]
      have b3 : dSet 4 (dBin pSub (dVar 4) (dVar 6)) (ρ (done + (handA Z (min q.1 left) h).2) left y5) S1 = some (.nx (ρ (done + (handA Z (min q.1 left) h).2) (left - q.1) y5) S1) :=
        set_of ((subI_of (a := (left : Nat)) (b := (q.1 : Nat)) rfl rfl).trans (by rw [show ((left : Nat) : Int) - (q.1 : Nat) = ((left - q.1 : Nat) : Int) by omega]))
      have eb : hdB (ρ done left x5) S = some (.nx (ρ (done + (handA Z (min q.1 left) h).2) (left - q.1) y5) S2) := (seq_nx b1).trans ((seq_nx ((ifS_f c3).trans rfl)).trans ((seq_nx b3).trans (expr_of (mH T1.1.at_ (by rw [T1.2]; rfl) (args1 (x := .int q.2) rfl) e2))))
      have ef : forL (gTupD 2 (gsCons (gSet 6) (gsCons (gSet 7) gsNil))) hdB ((q :: l).map flD) [some (.loc L.o), F, M, some (.int (done : Nat)), some (.int (left : Nat)), x5, x6, x7] S = forL (gTupD 2 (gsCons (gSet 6) (gsCons (gSet 7) gsNil))) hdB (l.map flD) (ρ (done + (handA Z (min q.1 left) h).2) (left - q.1) y5) S2 := by
        rw [List.map_cons]
        conv => lhs; unfold forL
        rw [g]
        simp only
        rw [eb]
      rw [ef]
theorem hand_ok (K : Z.Ok) {l : List (Nat × Int)} {most : Nat} {k : LK} (hq : ∀ q ∈ l, In40 q.2) (A : AtS S (hsC Z L h)) (O : h.Ok Z N) (hN : N + most ≤ 99999) (nl : S.all notLok = true) :
    ∃ S' L', F_law_by_hand [.loc L.o, .lst k (l.map flD), .int (most : Nat)] S = some (.int ((drv Z l most h).2 : Nat), S') ∧ HSt Z S L h S' L' (drv Z l most h).1 := by
  obtain ⟨S', L', T, e⟩ := byh_loop K (some (.lst k (l.map flD))) (some (.int (most : Nat))) l most 0 none none none hq A O hN nl
  rw [Nat.zero_add] at e
  let N0 (x3 x4 : Option DV) : List (Option DV) := [some (.loc L.o), some (.lst k (l.map flD)), some (.int (most : Nat)), x3, x4, none, none, none]
  exact ⟨S', L', run_rt rfl ((seq_nx (ρ' := N0 (some (.int (0 : Nat))) none) (S' := S) rfl).trans ((seq_nx (ρ' := N0 (some (.int (0 : Nat))) (some (.int (most : Nat)))) (S' := S) rfl).trans (by
    rw [v_seq] at e ⊢
    rw [show dFor (iSeq (dVar 1)) (gTupD 2 (gsCons (gSet 6) (gsCons (gSet 7) gsNil))) hdB (N0 (some (.int (0 : Nat))) (some (.int (most : Nat)))) S = forL (gTupD 2 (gsCons (gSet 6) (gsCons (gSet 7) gsNil))) hdB (l.map flD) (N0 (some (.int (0 : Nat))) (some (.int (most : Nat)))) S from for_of (iSeqL_of (k := k) rfl) rfl]
    exact e))), T⟩
end
end Lk76

namespace Lk76
open PySem PySem.Spec PyProof.Rows L2 Dn
/-! ### the plain run of the law's program -/
theorem shN_d {l : List Thing} (h : ∀ c ∈ l, 1 ≤ c.2.1) : (shN l).map shelfD = l.map thD := by
  unfold shN
  rw [List.map_map]
  refine List.map_congr_left fun c hc => ?_
  have := h c hc
  show DV.tup [.str c.1, .int (c.2.1.toNat : Nat), .bl c.2.2] = .tup [.str c.1, .int c.2.1, .bl c.2.2]
  rw [Int.toNat_of_nonneg (by omega)]
theorem plain_made {Z : Hst} (R : Z.Rs) (S : Sto) (x : DV) (hL : ∀ T, itemsD (S ++ T) x = some (Z.coming.map .int)) :
    ∃ T L, F_Plain_init [.loc S.length, Z.PD, x] (S ++ [.ins "Plain" []]) = some (.non, S ++ T) ∧ L.o = S.length ∧ PlAt (S ++ T) L Z.rows Z.coming Z.pst ∧ (∀ i ∈ L.fp, S.length ≤ i) ∧ (S ++ T).length = S.length + 7 + Z.shelves.length := by
  have I := R.i
  obtain ⟨T, e, hl, A⟩ := pn_init_ok S Z.cells (shN Z.shelves) Z.rows Z.coming x hL I.nds.2.1 (by
    have : (shN Z.shelves).map (·.1) = Z.shelves.map (·.1) := by unfold shN; rw [List.map_map]; rfl
    rw [this]; exact I.nds.1) (by have := I.cz; omega) (by have := I.sz; unfold shN; rw [List.length_map]; omega) (fun c hc => by
      obtain ⟨d, hd, rfl⟩ := List.mem_map.mp hc
      have := I.sv d hd
      show d.2.1.toNat ≤ 1000
      omega) R.n1
  have eP : progD Z.cells (shN Z.shelves) Z.rows = Z.PD := by
    show DV.tup [.tup (Z.cells.map cellD), .tup ((shN Z.shelves).map shelfD), .tup (Z.rows.map PRow.d)] = _
    rw [shN_d fun c hc => (I.sv c hc).1]
    rfl
  rw [eP] at e
  have es : st0 Z.cells (shN Z.shelves) = Z.pst := by
    unfold st0 Hst.pst shN
    rw [List.map_map, List.map_map]
    rfl
  rw [es] at A
  have zl : (shN Z.shelves).length = Z.shelves.length := by unfold shN; rw [List.length_map]
  refine ⟨T, _, e, rfl, A, fun i hi => (L0_fp _ _ _ hi).1, ?_⟩
  rw [List.length_append, hl, zl]; omega
abbrev enB : DS := dExpr (dMeth "Plain" "step" F_Plain_step [] (dVar 2) aNil)
theorem ends_eq {Z : Hst} (R : Z.Rs) : ∃ b, pureOf F_law_ends [Z.PD, .lst .own (Z.coming.map .int)] = some (.bl b) := by
  obtain ⟨T, L, e1, eo, A, _, _⟩ := plain_made R [] (.lst .own (Z.coming.map .int)) (fun _ => rfl)
  let N (x3 : Option DV) : List (Option DV) := [some Z.PD, some (.lst .own (Z.coming.map .int)), some (.loc L.o), x3]
  have loop : ∀ (ds : List DV) (S : Sto) (st : PSt) (n : Nat) (x3 : Option DV), PlAt S L Z.rows Z.coming st → Z.Pl st n → n + ds.length < 1000 → ∃ S' st' y3, forL (gSet 3) enB ds (N x3) S = some (.nx (N y3) S') ∧ PlAt S' L Z.rows Z.coming st' := fun ds => by
    induction ds with
    | nil => intro S st n x3 A P hn; exact ⟨S, st, x3, rfl, A⟩
    | cons d ds ih =>
      intro S st n x3 A P hn
      rw [List.length_cons] at hn
      have dn := P.dn
      have cz := R.i.cz
      obtain ⟨S2, e2, A2, _⟩ := t_step (o := dVar 2) (ρ := N (some d)) (S0 := S) A P.ok (P.rok R) (by omega) (by rw [P.ck, List.length_map]; omega) (fun _ => P.at_) rfl
      obtain ⟨S', st', y3, e3, A3⟩ := ih S2 _ (n + 1) (some d) A2 (P.step R) (by omega)
      refine ⟨S', st', y3, ?_, A3⟩
      unfold forL
      show (match enB (N (some d)) S with | some (.nx ρ2 S2) => _ | some (.ct ρ2 S2) => _ | some (.bk ρ2 S2) => _ | some (.rt v S2) => _ | none => _) = _
      rw [show enB (N (some d)) S = some (.nx (N (some d)) S2) from expr_of e2]
      exact e3
  have len : ((List.range 60).map fun (i : Nat) => DV.int i).length = 60 := by rw [List.length_map, List.length_range]
  obtain ⟨S', st', y3, e3, A3⟩ := loop ((List.range 60).map fun (i : Nat) => DV.int i) _ _ 0 none A (pst_pl R) (by rw [len]; decide)
  have m : dSet 2 (dMake "Plain" F_Plain_init [] (aCons (dVar 0) (aCons (dVar 1) aNil))) [some Z.PD, some (.lst .own (Z.coming.map .int)), none, none] [] = some (.nx (N none) ([] ++ T)) := by
    show _ = some (Out.nx [some Z.PD, some (.lst .own (Z.coming.map .int)), some (.loc L.o), none] ([] ++ T))
    rw [eo]
    exact set_of (make_of (xs := [Z.PD, .lst .own (Z.coming.map .int)]) rfl e1)
  exact ⟨st'.res.isSome, pureOf_of (run_rt rfl ((seq_nx m).trans ((seq_nx (for_of (rgN_of (n := 60) rfl (by decide)) e3)).trans (ret_of (t_ended A3 rfl))))) rfl⟩
/-! ### the failings -/
theorem fl_plain (l : List (Nat × Int)) : plainL (l.map flD) = true := plainL_map fun _ _ => rfl
theorem failings_eq (k : LK) (zs : List Int) (hz : zs.length ≤ 1000) : ∃ l : List (Nat × Int), l.length = zs.length ∧ (∀ q ∈ l, q.1 < 100 ∧ In40 q.2) ∧ pureOf F_law_failings [.lst k (zs.map .int)] = some (.lst .own (l.map flD)) := by
  have one : ∀ z : Int, ∃ (xs : List Int) , (xs.length = 3) ∧ pureOf F_law_stream [.int z, .int 3] = some (.lst .own (xs.map .int)) := fun z => by
    obtain ⟨xs, h1, _, h3⟩ := stream_eq z 3 (by decide)
    exact ⟨xs, h1, h3⟩
  obtain ⟨fx, hf⟩ := choose_all one
  let f : Int → Nat × Int := fun z => ((if (fx z).getD 2 0 % 5 = 0 then (fx z).getD 0 0 % 100 else (fx z).getD 0 0 % 15).toNat, vb ((fx z).getD 1 0))
  refine ⟨zs.map f, by rw [List.length_map], fun q hq => ?_, ?_⟩
  · obtain ⟨z, _, rfl⟩ := List.mem_map.mp hq
    have m1 := md (a := (fx z).getD 0 0) (b := 100) (by decide)
    have m2 := md (a := (fx z).getD 0 0) (b := 15) (by decide)
    refine ⟨?_, vb_40 _⟩
    show (if (fx z).getD 2 0 % 5 = 0 then (fx z).getD 0 0 % 100 else (fx z).getD 0 0 % 15).toNat < 100
    split <;> omega
  · let N (x1 x2 x3 x4 : Option DV) : List (Option DV) := [some (.lst k (zs.map .int)), x1, x2, x3, x4]
    obtain ⟨ρ', e5, x2, x3, x4, rfl⟩ := for_app (D := fun (z : Int) => DV.int z) (E := fun z => flD (f z)) (g := gSet 2) (body := (dSeq (dSet 3 (dPrim (cP (pureOf F_law_stream) []) (aCons (dVar 2) (aCons (dC (.int 3)) aNil))))
  (dSeq (dSet 4 (dBin pMod (dBin pIx (dVar 3) (dC (.int 0))) (dC (.int 15))))
  (dSeq (dIfS (dBin (pEq false) (dBin pMod (dBin pIx (dVar 3) (dC (.int 2))) (dC (.int 5))) (dC (.int 0))) (dSet 4 (dBin pMod (dBin pIx (dVar 3) (dC (.int 0))) (dC (.int 100)))) dNext)
  (dExpr (dMt pAppend (dVar 1) (aCons (dPrim pTup (aCons (dVar 4) (aCons (dPrim (cP (pureOf F_law_value_by) []) (aCons (dBin pIx (dVar 3) (dC (.int 1))) aNil)) aNil))) aNil))))))) (I := fun ρ => ∃ x2 x3 x4, ρ = N (some (.loc 0)) x2 x3 x4) (st := fun acc => [.lst acc]) 1000 zs [] (N (some (.loc 0)) none none none) ⟨none, none, none, rfl⟩ (by rw [List.length_nil]; omega) (fun z _ acc ρ hacc hI => by
        obtain ⟨x2, x3, x4, rfl⟩ := hI
        let X : DV := .lst .own ((fx z).map .int)
        let ρ2 (x3 x4 : Option DV) := N (some (.loc 0)) (some (.int z)) x3 x4
        have hx := (hf z).1
        have b1 : dSet 3 (dPrim (cP (pureOf F_law_stream) []) (aCons (dVar 2) (aCons (dC (.int 3)) aNil))) (ρ2 x3 x4) [.lst acc] = some (.nx (ρ2 (some X) x4) [.lst acc]) := set_of (callPP (args2 (x := .int z) (y := .int 3) rfl rfl) rfl (hf z).2)
        have xv : ∀ (i : Nat) {e : DE} (y4 : Option DV), i < 3 → e (ρ2 (some X) y4) [.lst acc] = some (.int (i : Nat), [.lst acc]) → dBin pIx (dVar 3) e (ρ2 (some X) y4) [.lst acc] = some (.int ((fx z).getD i 0), [.lst acc]) := fun i {e} y4 hi he => bin_of (x := X) rfl he (xs_at (by omega))
        have m1 := md (a := (fx z).getD 0 0) (b := 100) (by decide)
        have m2 := md (a := (fx z).getD 0 0) (b := 15) (by decide)
        have b2 : dSet 4 (dBin pMod (dBin pIx (dVar 3) (dC (.int 0))) (dC (.int 15))) (ρ2 (some X) x4) [.lst acc] = some (.nx (ρ2 (some X) (some (.int ((fx z).getD 0 0 % 15)))) [.lst acc]) := set_of (modI_of (xv 0 x4 (by decide) rfl) (b := 15) rfl (by decide))
        have c3 : dBin (pEq false) (dBin pMod (dBin pIx (dVar 3) (dC (.int 2))) (dC (.int 5))) (dC (.int 0)) (ρ2 (some X) (some (.int ((fx z).getD 0 0 % 15)))) [.lst acc] = some (.bl (decide ((fx z).getD 2 0 % 5 = 0)), [.lst acc]) := bin_of (modI_of (xv 2 _ (by decide) rfl) (b := 5) rfl (by decide)) (y := .int 0) rfl v_eqI
        have b3 : dIfS (dBin (pEq false) (dBin pMod (dBin pIx (dVar 3) (dC (.int 2))) (dC (.int 5))) (dC (.int 0))) (dSet 4 (dBin pMod (dBin pIx (dVar 3) (dC (.int 0))) (dC (.int 100)))) dNext (ρ2 (some X) (some (.int ((fx z).getD 0 0 % 15)))) [.lst acc] = some (.nx (ρ2 (some X) (some (.int ((f z).1 : Nat)))) [.lst acc]) := by
          by_cases q : (fx z).getD 2 0 % 5 = 0
          · rw [decide_eq_true q] at c3
            have e : ((f z).1 : Int) = (fx z).getD 0 0 % 100 := by
              show (((if (fx z).getD 2 0 % 5 = 0 then (fx z).getD 0 0 % 100 else (fx z).getD 0 0 % 15).toNat : Nat) : Int) = _
              rw [if_pos q]; omega
            rw [e]
            exact (ifS_t c3).trans (set_of (modI_of (xv 0 _ (by decide) rfl) (b := 100) rfl (by decide)))
          · rw [decide_eq_false q] at c3
            have e : ((f z).1 : Int) = (fx z).getD 0 0 % 15 := by
              show (((if (fx z).getD 2 0 % 5 = 0 then (fx z).getD 0 0 % 100 else (fx z).getD 0 0 % 15).toNat : Nat) : Int) = _
              rw [if_neg q]; omega
            rw [e]
            exact (ifS_f c3).trans rfl
        refine ⟨ρ2 x3 x4, [.lst acc], ρ2 (some X) (some (.int ((f z).1 : Nat))), rfl, ?_, _, _, _, rfl⟩
        exact (seq_nx b1).trans ((seq_nx b2).trans ((seq_nx b3).trans ((append_of (f := dVar 1) (n := 0) rfl rfl (prim_of (args2 (x := .int ((f z).1 : Nat)) rfl (callPP (args1 (xv 1 _ (by decide) rfl)) rfl (vb_eq _))) rfl) (by omega)).trans rfl))))
    rw [List.nil_append] at e5
    have s1 : dSet 1 (dPrim pLstM aNil) (N none none none none) ([] : Sto) = some (.nx (N (some (.loc 0)) none none none) [.lst []]) := rfl
    rw [List.map_map]
    exact pureOf_loc (n := 0) (run_rt rfl ((seq_nx s1).trans ((seq_nx (for_of (iSeqL_of (k := k) rfl) e5)).trans (ret_of rfl)))) rfl (plainL_map fun _ _ => rfl)
end Lk76

namespace Lk76
open PySem PySem.Spec PyProof.Rows L2 Dn
/-! ### two houses that are the same -/
theorem nm_ok (c : Int) (k : Nat) : PyData.strOk (nmK c k) = true := by
  have key : ∀ s : Str, PyData.strOk s = true ↔ ∀ x ∈ s.cps.toList, x < 1114112 := fun s => by
    unfold PyData.strOk
    rw [← Array.all_toList, List.all_eq_true]
    exact ⟨fun h x hx => of_decide_eq_true (h x hx), fun h x hx => decide_eq_true (h x hx)⟩
  have cm : ∀ x ∈ commonL c, x < 1114112 := fun x hx => by
    unfold commonL at hx
    obtain ⟨k, _, rfl⟩ := List.mem_map.mp hx
    have := md (a := c / 37 + 11 * (k : Int) * (c % 2)) (b := 26) (by decide)
    omega
  have cut : ∀ (a b : Option Int), ∀ x ∈ (cutS (txt (commonL c)) a b).cps.toList, x < 1114112 := fun a b x hx => by
    unfold cutS at hx
    exact cm x (List.mem_of_mem_drop (List.mem_of_mem_take hx))
  rw [key]
  intro x hx
  unfold nmK at hx
  rw [app_list, app_list, one1_list, List.mem_append, List.mem_append] at hx
  rcases hx with (hx | hx) | hx
  · exact cut _ _ x hx
  · have := md (a := c / 42 + 5 * (k : Int)) (b := 26) (by decide)
    rw [List.mem_singleton.mp hx]
    omega
  · exact cut _ _ x hx
theorem eqqL {S : Sto} {ds : List DV} (hp : plainL ds = true) (hg : goodL ds = true) (hd : deepL ds ≤ 63) (neg : Bool) : pEq neg (.lst .own ds) (.lst .own ds) S = some (.bl (!neg), S) :=
  eqqP (d := .lst .own ds) (by rw [plain_own]; exact hp) hg (by show deepL ds + 1 ≤ 64; omega) rfl neg
theorem pg_plain (p : Pg) : plain (pgD p) = true := by
  show (true && (true && (true && (true && (plainL (p.held.map bvD) && (plainL (p.turned.map tnD) && true)))))) = true
  rw [plainL_map (f := bvD) fun _ _ => rfl, plainL_map (f := tnD) fun _ _ => rfl]
  rfl
theorem pg_good {p : Pg} (h1 : ∀ q ∈ p.held, PyData.strOk q.1 = true) (h2 : ∀ q ∈ p.turned, PyData.strOk q.1.1 = true) : good (pgD p) = true := by
  show (true && (true && (true && (true && (goodL (p.held.map bvD) && (goodL (p.turned.map tnD) && true)))))) = true
  rw [goodL_map (f := bvD) fun q hq => by show (PyData.strOk q.1 && (true && true)) = true; rw [h1 q hq]; rfl,
    goodL_map (f := tnD) fun q hq => by show ((PyData.strOk q.1.1 && (true && true)) && (true && true)) = true; rw [h2 q hq]; rfl]
  rfl
theorem pg_deep (p : Pg) : deep (pgD p) ≤ 64 := by
  have a := deepL_map (f := bvD) (l := p.held) (n := 1) fun q _ => by show max 0 (max 0 0) + 1 ≤ 1; decide
  have b := deepL_map (f := tnD) (l := p.turned) (n := 2) fun q _ => by show max (max 0 (max 0 0) + 1) (max 0 0) + 1 ≤ 2; decide
  show max 0 (max 0 (max 0 (max 0 (max (deepL (p.held.map bvD) + 1) (max (deepL (p.turned.map tnD) + 1) 0))))) + 1 ≤ 64
  omega
theorem eq_stands {p : Ph} {S : Sto} (neg : Bool) : pEq neg (standsD p) (standsD p) S = some (.bl (!neg), S) := by
  cases p with
  | go r => exact eq_int neg
  | _ => cases neg <;> rfl
theorem eq_bl {b : Bool} {S : Sto} (neg : Bool) : pEq neg (.bl b) (.bl b) S = some (.bl (!neg), S) := by
  cases b <;> cases neg <;> rfl
section
variable {Z : Hst} {S : Sto} {L1 L2 : HL} {h : Hs} {N : Nat} {P : Str → Prop}
theorem home_names {p : Pl} (I : Z.In) (h : Z.IsP p) : ∃ c ∈ Z.cells ++ Z.shelves, c.1 = p.1 := by
  unfold Hst.IsP Hst.homeK at h
  obtain ⟨q, hq, rfl⟩ := List.mem_map.mp h
  unfold Hst.homeL at hq
  exact fold_shelf_all (P := fun q => ∃ c ∈ Z.cells ++ Z.shelves, c.1 = q.1.1) Z.shelves _ (fold_apt_all (fun c : Thing => ((c.1, 0) : Pl)) (fun c => c.2.1) Z.cells [] (fun p hp => nomatch hp) fun c hc => ⟨c, List.mem_append_left _ hc, rfl⟩) (fun c hc k _ => ⟨c, List.mem_append_right _ hc, rfl⟩) q hq
abbrev sameW : DS := dIfS (dBin (pEq true) (dMeth "House" "page" F_House_page [] (dVar 0) (aCons (dVar 4) aNil)) (dMeth "House" "page" F_House_page [] (dVar 1) (aCons (dVar 4) aNil))) (dRet (dC (.bl false))) dNext
abbrev sameC : DS := dIfS (dBin (pEq true) (dMeth "House" "cell" F_House_cell [] (dVar 0) (aCons (dVar 5) aNil)) (dMeth "House" "cell" F_House_cell [] (dVar 1) (aCons (dVar 5) aNil))) (dRet (dC (.bl false))) dNext
abbrev sameS : DS := dIfS (dBin (pEq true) (dMeth "House" "shelf" F_House_shelf [] (dVar 0) (aCons (dVar 5) aNil)) (dMeth "House" "shelf" F_House_shelf [] (dVar 1) (aCons (dVar 5) aNil))) (dRet (dC (.bl false))) dNext
theorem same_ok (I : Z.In) (A1 : AtS S (hsC Z L1 h)) (A2 : AtS S (hsC Z L2 h)) (O : h.Ok Z N) (Y : h.Sy) (Hn : h.Hn P) (hz : h.bn.length ≤ 99999) (hP : ∀ x, P x → PyData.strOk x = true) (hT : ∀ c ∈ Z.cells ++ Z.shelves, PyData.strOk c.1 = true) (nl : List Str) (hnl : nl.length ≤ 1000) :
    ∃ T, T.all notLok = true ∧ F_law_same [.loc L1.o, .loc L2.o, Z.PD, .lst .own (nl.map .str)] S = some (.bl true, S ++ T) := by
  let E (x4 x5 x6 x7 x8 : Option DV) : List (Option DV) := [some (.loc L1.o), some (.loc L2.o), some Z.PD, some (.lst .own (nl.map .str)), x4, x5, x6, x7, x8]
  have gp : ∀ b, good (pgD (h.page b)) = true := fun b => pg_good (fun q hq => hP _ (Hn.page b q hq)) fun q hq => by
    obtain ⟨c, hc, e⟩ := home_names I ((O.page b).tp q hq)
    rw [← e]; exact hT c hc
  -- the pages
  have w1 : ∀ (b : Bool) (x5 x6 x7 x8 : Option DV), sameW (E (some (.int (frN b : Nat))) x5 x6 x7 x8) S = some (.nx (E (some (.int (frN b : Nat))) x5 x6 x7 x8) S) := fun b x5 x6 x7 x8 =>
    (ifS_f (bin_of (mH A1 rfl (args1 rfl) (page_ok A1 b)) (mH A2 rfl (args1 rfl) (page_ok A2 b)) (eqqP (pg_plain _) (gp b) (pg_deep _) rfl true))).trans rfl
  have s1 : dFor (iSeq (dPrim pTup (aCons (dC (.int 0)) (aCons (dC (.int 1)) aNil)))) (gSet 4) sameW (E none none none none none) S = some (.nx (E (some (.int 1)) none none none none) S) := by
    refine for_of (ds := [.int 0, .int 1]) rfl ?_
    unfold forL
    show (match sameW (E (some (.int (frN false : Nat))) none none none none) S with | some (.nx ρ2 S2) => _ | some (.ct ρ2 S2) => _ | some (.bk ρ2 S2) => _ | some (.rt v S2) => _ | none => _) = _
    rw [w1 false]
    simp only
    unfold forL
    show (match sameW (E (some (.int (frN true : Nat))) none none none none) S with | some (.nx ρ2 S2) => _ | some (.ct ρ2 S2) => _ | some (.bk ρ2 S2) => _ | some (.rt v S2) => _ | none => _) = _
    rw [w1 true]
    rfl
  -- face, letters, answer
  let LT : Cell := .lst (h.letters.map .int)
  let S1 := S ++ [LT]
  let S2 := S1 ++ [LT]
  have A1' : AtS S1 (hsC Z L1 h) := (Stp.junk A1 rfl).at_
  have A2' : AtS S1 (hsC Z L2 h) := (Stp.junk A2 rfl).at_
  have B1 : AtS S2 (hsC Z L1 h) := (Stp.junk A1' rfl).at_
  have B2 : AtS S2 (hsC Z L2 h) := (Stp.junk A2' rfl).at_
  have i1 : S2[S.length]? = some LT := by
    show (S ++ [LT] ++ [LT])[S.length]? = _
    rw [List.append_assoc, List.getElem?_append_right (Nat.le_refl _), Nat.sub_self]; rfl
  have i2 : S2[S1.length]? = some LT := by
    show (S1 ++ [LT])[S1.length]? = _
    rw [List.getElem?_append_right (Nat.le_refl _), Nat.sub_self]; rfl
  have gl : goodL (h.letters.map DV.int) = true := goodL_map fun _ _ => rfl
  have dl := deepL_map (f := DV.int) (l := h.letters) (n := 0) fun _ _ => Nat.le_refl _
  let ρ1 := E (some (.int 1)) none none none none
  have s2 : dIfS (dOr (dBin (pEq true) (dMeth "House" "face" F_House_face [] (dVar 0) aNil) (dMeth "House" "face" F_House_face [] (dVar 1) aNil)) (dOr (dBin (pEq true) (dMeth "House" "letters" F_House_letters [] (dVar 0) aNil) (dMeth "House" "letters" F_House_letters [] (dVar 1) aNil)) (dBin (pEq true) (dMeth "House" "answer" F_House_answer [] (dVar 0) aNil) (dMeth "House" "answer" F_House_answer [] (dVar 1) aNil)))) (dRet (dC (.bl false))) dNext ρ1 S = some (.nx ρ1 S2) := by
    have c1 : dBin (pEq true) (dMeth "House" "face" F_House_face [] (dVar 0) aNil) (dMeth "House" "face" F_House_face [] (dVar 1) aNil) ρ1 S = some (.bl false, S) := bin_of (mH A1 rfl rfl (face_ok A1)) (mH A2 rfl rfl (face_ok A2)) (eq_int true)
    have c2 : dBin (pEq true) (dMeth "House" "letters" F_House_letters [] (dVar 0) aNil) (dMeth "House" "letters" F_House_letters [] (dVar 1) aNil) ρ1 S = some (.bl false, S2) :=
      bin_of (mH A1 rfl rfl (letters_ok A1 Y hz)) (mH A2' rfl rfl (letters_ok A2' Y hz)) (eqq (d := .lst .bor (h.letters.map .int)) (cpD_loc i1 plainL_ints) (cpD_loc i2 plainL_ints) gl (by show deepL (h.letters.map DV.int) + 1 ≤ 64; omega) rfl true)
    have c3 : dBin (pEq true) (dMeth "House" "answer" F_House_answer [] (dVar 0) aNil) (dMeth "House" "answer" F_House_answer [] (dVar 1) aNil) ρ1 S2 = some (.bl false, S2) := bin_of (mH B1 rfl rfl (answer_ok B1)) (mH B2 rfl rfl (answer_ok B2)) (eq_opt true)
    exact (ifS_f (or_f c1 (or_f c2 c3))).trans rfl
  -- cells, shelves
  have lc : ∀ (l : List Thing) (x5 x6 x7 : Option DV), (∀ c ∈ l, c ∈ Z.cells) → ∃ y5 y6 y7, forL (gTupD 3 (gsCons (gSet 5) (gsCons (gSet 6) (gsCons (gSet 7) gsNil)))) sameC (l.map thD) (E (some (.int 1)) x5 x6 x7 none) S2 = some (.nx (E (some (.int 1)) y5 y6 y7 none) S2) := fun l => by
    induction l with
    | nil => intro x5 x6 x7 _; exact ⟨x5, x6, x7, rfl⟩
    | cons c l ih =>
      intro x5 x6 x7 hl
      obtain ⟨y5, y6, y7, e⟩ := ih (some (.str c.1)) (some (.int c.2.1)) (some (.bl c.2.2)) fun x hx => hl x (List.mem_cons_of_mem _ hx)
      have hp := (I.cell (hl c List.mem_cons_self)).pl
      let ρc := E (some (.int 1)) (some (.str c.1)) (some (.int c.2.1)) (some (.bl c.2.2)) none
      have b : sameC ρc S2 = some (.nx ρc S2) := (ifS_f (bin_of (mH B1 rfl (args1 (x := .str c.1) rfl) (cell_ok B1 O hp)) (mH B2 rfl (args1 (x := .str c.1) rfl) (cell_ok B2 O hp)) (eq_int true))).trans rfl
      refine ⟨y5, y6, y7, ?_⟩
      rw [List.map_cons]
      unfold forL
      rw [show gTupD 3 (gsCons (gSet 5) (gsCons (gSet 6) (gsCons (gSet 7) gsNil))) (thD c) (E (some (.int 1)) x5 x6 x7 none) S2 = some (ρc, S2) from rfl]
      simp only
      rw [b]
      exact e
  obtain ⟨y5, y6, y7, ec⟩ := lc Z.cells none none none fun _ h => h
  have s3 : dFor (iSeq (dBin pIx (dVar 2) (dC (.int 0)))) (gTupD 3 (gsCons (gSet 5) (gsCons (gSet 6) (gsCons (gSet 7) gsNil)))) sameC ρ1 S2 = some (.nx (E (some (.int 1)) y5 y6 y7 none) S2) := for_of (ds := Z.cells.map thD) rfl ec
  have ls : ∀ (l : List Thing) (x5 x8 x7 : Option DV), (∀ c ∈ l, c ∈ Z.shelves) → ∃ y5 y8 y7, forL (gTupD 3 (gsCons (gSet 5) (gsCons (gSet 8) (gsCons (gSet 7) gsNil)))) sameS (l.map thD) (E (some (.int 1)) x5 y6 x7 x8) S2 = some (.nx (E (some (.int 1)) y5 y6 y7 y8) S2) := fun l => by
    induction l with
    | nil => intro x5 x8 x7 _; exact ⟨x5, x8, x7, rfl⟩
    | cons c l ih =>
      intro x5 x8 x7 hl
      obtain ⟨z5, z8, z7, e⟩ := ih (some (.str c.1)) (some (.int c.2.1)) (some (.bl c.2.2)) fun x hx => hl x (List.mem_cons_of_mem _ hx)
      have hp := I.shelf (hl c List.mem_cons_self)
      let ρc := E (some (.int 1)) (some (.str c.1)) y6 (some (.bl c.2.2)) (some (.int c.2.1))
      have gsl : ∀ n : Nat, goodL ((List.range n).map fun (k : Nat) => DV.int (h.homeV (c.1, k))) = true := fun n => goodL_map fun _ _ => rfl
      have dsl : ∀ n : Nat, deepL ((List.range n).map fun (k : Nat) => DV.int (h.homeV (c.1, k))) ≤ 0 := fun n => deepL_map fun _ _ => Nat.le_refl _
      have q : pEq true (.lst .own ((List.range (Z.size c.1).toNat).map fun (k : Nat) => DV.int (h.homeV (c.1, k)))) (.lst .own ((List.range (Z.size c.1).toNat).map fun (k : Nat) => DV.int (h.homeV (c.1, k)))) S2 = some (.bl false, S2) :=
        eqqL (plainL_map fun _ _ => rfl) (gsl _) (Nat.le_trans (dsl _) (by decide)) true
      have b : sameS ρc S2 = some (.nx ρc S2) := (ifS_f (bin_of (mH B1 rfl (args1 (x := .str c.1) rfl) (shelf_ok B1 O hp)) (mH B2 rfl (args1 (x := .str c.1) rfl) (shelf_ok B2 O hp)) q)).trans rfl
      refine ⟨z5, z8, z7, ?_⟩
      rw [List.map_cons]
      unfold forL
      rw [show gTupD 3 (gsCons (gSet 5) (gsCons (gSet 8) (gsCons (gSet 7) gsNil))) (thD c) (E (some (.int 1)) x5 y6 x7 x8) S2 = some (ρc, S2) from rfl]
      simp only
      rw [b]
      exact e
  obtain ⟨z5, z8, z7, es⟩ := ls Z.shelves y5 none y7 fun _ h => h
  have s4 : dFor (iSeq (dBin pIx (dVar 2) (dC (.int 1)))) (gTupD 3 (gsCons (gSet 5) (gsCons (gSet 8) (gsCons (gSet 7) gsNil)))) sameS (E (some (.int 1)) y5 y6 y7 none) S2 = some (.nx (E (some (.int 1)) z5 y6 z7 z8) S2) := for_of (ds := Z.shelves.map thD) rfl es
  let ρ4 := E (some (.int 1)) z5 y6 z7 z8
  have s5 : dIfS (dOr (dBin (pEq true) (dMeth "House" "stands" F_House_stands [] (dVar 0) aNil) (dMeth "House" "stands" F_House_stands [] (dVar 1) aNil)) (dOr (dBin (pEq true) (dMeth "House" "count" F_House_count [] (dVar 0) aNil) (dMeth "House" "count" F_House_count [] (dVar 1) aNil)) (dBin (pEq true) (dMeth "House" "torn" F_House_torn [] (dVar 0) aNil) (dMeth "House" "torn" F_House_torn [] (dVar 1) aNil)))) (dRet (dC (.bl false))) dNext ρ4 S2 = some (.nx ρ4 S2) :=
    (ifS_f (or_f (bin_of (mH B1 rfl rfl (stands_ok B1)) (mH B2 rfl rfl (stands_ok B2)) (eq_stands true)) (or_f (bin_of (mH B1 rfl rfl (count_ok B1)) (mH B2 rfl rfl (count_ok B2)) (eq_int true)) (bin_of (mH B1 rfl rfl (torn_ok B1)) (mH B2 rfl rfl (torn_ok B2)) (eq_bl true))))).trans rfl
  have bx : ∀ (v : DE) (L : HL), AtS S2 (hsC Z L h) → (∀ ρ : List (Option DV), ρ[0]? = some (some (.loc L1.o)) → ρ[1]? = some (some (.loc L2.o)) → v ρ S2 = some (.loc L.o, S2)) → dLc (iSeq (dVar 3)) (gSet 5) (dC (.bl true)) (dMeth "House" "box" F_House_box [] v (aCons (dVar 5) aNil)) [5] ρ4 S2 = some (.lst .own (nl.map fun x => DV.int (Hs.boxV h x)), S2) := fun v L B hv =>
    dLc_of (iSeqL_of (k := .own) rfl) (lc_all (D := fun x => DV.str x) (E := fun x => DV.int (Hs.boxV h x)) (K := nl) fun x _ => ⟨E (some (.int 1)) (some (.str x)) y6 z7 z8, rfl, rfl, mH B (hv _ rfl rfl) (args1 (x := .str x) rfl) (box_ok B x)⟩) (size_ok (by rw [List.length_map]; omega))
  have c6 : dBin (pEq false) (dLc (iSeq (dVar 3)) (gSet 5) (dC (.bl true)) (dMeth "House" "box" F_House_box [] (dVar 0) (aCons (dVar 5) aNil)) [5]) (dLc (iSeq (dVar 3)) (gSet 5) (dC (.bl true)) (dMeth "House" "box" F_House_box [] (dVar 1) (aCons (dVar 5) aNil)) [5]) ρ4 S2 = some (.bl true, S2) := by
    have gb : goodL (nl.map fun x => DV.int (Hs.boxV h x)) = true := goodL_map fun _ _ => rfl
    have db := deepL_map (f := fun x => DV.int (Hs.boxV h x)) (l := nl) (n := 0) fun _ _ => Nat.le_refl _
    exact bin_of (bx (dVar 0) L1 B1 fun ρ h0 _ => by show (match ρ[0]? with | some (some d) => some (d, S2) | _ => none) = _; rw [h0]) (bx (dVar 1) L2 B2 fun ρ _ h1 => by show (match ρ[1]? with | some (some d) => some (d, S2) | _ => none) = _; rw [h1]) (eqqL (plainL_map fun _ _ => rfl) gb (Nat.le_trans db (by decide)) false)
  refine ⟨[LT] ++ [LT], rfl, ?_⟩
  have e2 : S2 = S ++ ([LT] ++ [LT]) := List.append_assoc _ _ _
  rw [← e2]
  exact run_rt rfl ((seq_nx s1).trans ((seq_nx s2).trans ((seq_nx s3).trans ((seq_nx s4).trans ((seq_nx s5).trans (ret_of c6))))))
end
end Lk76

namespace Lk76
open PySem PySem.Spec PyProof.Rows L2 Dn
/-! ### the law -/
theorem cut_ex (ns : List Int) (a b : Nat) : ∃ zs : List Int, zs.length ≤ b - a ∧ Dn.cutD (ns.map DV.int) (some (a : Int)) (some (b : Int)) = zs.map DV.int := by
  refine ⟨(ns.drop (min a ns.length)).take (min b ns.length - min a ns.length), ?_, ?_⟩
  · rw [List.length_take, List.length_drop]; omega
  · unfold Dn.cutD
    rw [HT.sIx_nat, HT.sIx_nat, List.length_map, List.map_take, List.map_drop]
theorem cut_to {xs : List DV} {a : Nat} : Dn.cutD xs none (some (a : Int)) = xs.take a := by
  unfold Dn.cutD
  have e : HT.sIx xs.length xs.length (some (a : Int)) = min a xs.length := HT.sIx_nat _ _ _
  rw [e, show HT.sIx xs.length 0 none = 0 from rfl, List.drop_zero, Nat.sub_zero]
  rcases Nat.le_total a xs.length with q | q
  · rw [Nat.min_eq_left q]
  · rw [Nat.min_eq_right q, List.take_of_length_le (Nat.le_refl _), List.take_of_length_le q]
theorem intsD_map (is : List Int) : intsD (is.map DV.int) = some is := by
  induction is with
  | nil => rfl
  | cons i is ih =>
    rw [List.map_cons]
    unfold intsD
    rw [ih]
theorem sl_to {f e : DE} {ρ : List (Option DV)} {S S1 S2 : Sto} {xs : List DV} {a : Nat} (h1 : f ρ S = some (.lst .own xs, S1)) (h2 : e ρ S1 = some (.int (a : Nat), S2)) : dSl pSl f oNone (oSome e) ρ S = some (.lst .own (xs.take a), S2) := by
  unfold dSl oNone oSome
  simp only [h1, h2]
  rw [← cut_to]
  rfl
theorem sum_of {f : DE} {ρ : List (Option DV)} {S S1 : Sto} {is : List Int} (h : f ρ S = some (.lst .own (is.map .int), S1)) : dPrim pSum (aCons f aNil) ρ S = some (.int is.sum, S1) := by
  refine prim_of (args1 h) ?_
  unfold pSum
  simp only [asL_lst, intsD_map]
theorem sum_nat (l : List (Nat × Int)) (h : ∀ q ∈ l, q.1 < 100) : ∃ n : Nat, n ≤ 100 * l.length ∧ (l.map fun q => ((q.1 : Nat) : Int)).sum = (n : Int) := by
  induction l with
  | nil => exact ⟨0, Nat.le_refl _, rfl⟩
  | cons q l ih =>
    obtain ⟨n, h1, h2⟩ := ih fun x hx => h x (List.mem_cons_of_mem _ hx)
    have := h q List.mem_cons_self
    refine ⟨q.1 + n, by rw [List.length_cons]; omega, ?_⟩
    rw [List.map_cons, List.sum_cons, h2]
    omega
theorem whole_eq (d : Nat) : pureOf F_law_whole [.int (d : Nat), .int (d : Nat)] = some (.bl true) := by
  have c : dAnd (dIsi .int (dVar 0)) (dAnd (dNot (dIsi .bool (dVar 0))) (dBin (pEq false) (dVar 0) (dVar 1))) [some (.int (d : Nat)), some (.int (d : Nat))] [] = some (.bl true, []) :=
    and_t rfl (and_t rfl (bin_of (x := .int (d : Nat)) (y := .int (d : Nat)) rfl rfl (eq_int false)))
  exact pureOf_of (S' := []) (run_rt rfl (ret_of c)) rfl
theorem pair_ok {Z : Hst} (I : Z.In) (K : Z.Ok) (P : Str → Prop) (hP : ∀ x, P x → PyData.strOk x = true) (hT : ∀ c ∈ Z.cells ++ Z.shelves, PyData.strOk c.1 = true) (hk : ∀ k ∈ Z.keeps, ∀ x ∈ k.2, P x) (hb : ∀ x ∈ Z.beg, P x)
    {l : List (Nat × Int)} {most : Nat} (hm : most ≤ 2000) (hq : ∀ q ∈ l, In40 q.2) (k1 k2 : LK) (nl : List Str) (hnl : nl.length ≤ 1000) (S : Sto) (nS : S.all notLok = true) :
    ∃ S1 S2 S3 S4 S5 d, F_House_init [.loc S.length, Z.PD, codeD Z.beg Z.keeps, .lst .own (Z.coming.map .int)] (S ++ [.ins "House" []]) = some (.non, S1) ∧
      F_House_init [.loc S1.length, Z.PD, codeD Z.beg Z.keeps, .lst .own (Z.coming.map .int)] (S1 ++ [.ins "House" []]) = some (.non, S2) ∧
      F_drive [.loc S.length, .lst k1 (l.map flD), .int (most : Nat)] S2 = some (.int (d : Nat), S3) ∧
      F_law_by_hand [.loc S1.length, .lst k2 (l.map flD), .int (most : Nat)] S3 = some (.int (d : Nat), S4) ∧
      F_law_same [.loc S.length, .loc S1.length, Z.PD, .lst .own (nl.map .str)] S4 = some (.bl true, S5) ∧ S5.all notLok = true := by
  obtain ⟨S1, L1, e1, T1, o1⟩ := house_made Z I.zs K (.lst .own (Z.coming.map .int)) S (fun S2 _ => rfl)
  have n1 := T1.nl nS
  obtain ⟨S2, L2, e2, T2, o2⟩ := house_made Z I.zs K (.lst .own (Z.coming.map .int)) S1 (fun S2 _ => rfl)
  have n2 := T2.nl n1
  have A1 : AtS S2 (hsC Z L1 Z.init) := T2.other T1.at_ (fun a _ h => nomatch h)
  have ap1 : ∀ a ∈ (hsC Z L1 Z.init).map (·.1), a ∉ (hsC Z L2 Z.init).map (·.1) := T2.apart T1.at_ (fun a _ h => nomatch h)
  have ap2 : ∀ a ∈ (hsC Z L2 Z.init).map (·.1), a ∉ (hsC Z L1 Z.init).map (·.1) := fun a ha h => ap1 a h ha
  have O := init_ok K
  obtain ⟨S3, L1', e3, T3⟩ := drive_ok (k := k1) K hq A1 O (show 1000 + most ≤ 99999 by omega) n2
  have n3 := T3.1.nl n2
  have A2 := T3.1.other T2.at_ ap2
  have ap3 := T3.1.apart T2.at_ ap2
  obtain ⟨S4, L2', e4, T4⟩ := hand_ok (k := k2) K hq A2 O (show 1000 + most ≤ 99999 by omega) n3
  have n4 := T4.1.nl n3
  have ap4 : ∀ a ∈ (hsC Z L1' (drv Z l most Z.init).1).map (·.1), a ∉ (hsC Z L2 Z.init).map (·.1) := fun a ha h => ap3 a h ha
  have A1' := T4.1.other T3.1.at_ ap4
  have O5 := drv_ok K l most O hq
  obtain ⟨T, t, e5⟩ := same_ok I A1' T4.1.at_ O5 (drv_sy l most init_sy) (drv_hn (P := P) K hk l most (init_hn hb)) (Nat.le_trans O5.bz (by omega)) hP hT nl hnl
  rw [o1] at e3
  rw [o2] at e4
  rw [T3.2, T4.2, o1, o2] at e5
  exact ⟨S1, S2, S3, S4, S4 ++ T, _, e1, e2, e3, e4, e5, by rw [List.all_append, n4, t]; rfl⟩
theorem law_true (ns : List Int) (hl : ns.length ≤ 63) : ∃ S', F_law [.lst .ext (ns.map DV.int)] [] = some (.bl true, S') := by
  let Sc : DV := .lst .ext (ns.map DV.int)
  have pSc : plain Sc = true := by simp [Sc]
  have cellE : ∀ (k : Nat) {ρ : List (Option DV)} {S : Sto} {e : DE}, dVar 0 ρ S = some (Sc, S) → e ρ S = some (.int (k : Nat), S) → dPrim (cP (pureOf F_law_cell_at) []) (aCons (dVar 0) (aCons e aNil)) ρ S = some (.int (ns.getD k 0), S) :=
    fun k {ρ S e} h he => callPP (args2 h he) (by rw [plainL_cons, pSc] <;> rfl) at_cell
  obtain ⟨bl, cells, shelves, lets, W, ew⟩ := world_ok ns
  let c : Int := ns.getD 0 0
  have W : Wld c bl cells shelves lets := W
  obtain ⟨zs, zl, ez⟩ := cut_ex ns 5 25
  obtain ⟨ys, yl, ey⟩ := cut_ex ns 25 45
  obtain ⟨last, ea, la⟩ := atom_ok (ns.getD 3 0 % 2147483629) bl (by rw [W.b]; show 0 < 4; decide)
  obtain ⟨rows, rl, rin, hlast, ep⟩ := program_ok W zs (by omega) la .own
  let nl6 : List Str := [nmK c 5, nmK c 6, nmK c 7, nmK c 8, nmK c 9, nmK c 10]
  obtain ⟨b, ks, C, ec⟩ := cutting_ok (c := .tup (cells.map thD)) (s := .tup (shelves.map thD)) (show plainL _ = true from things_plain) (show plainL _ = true from things_plain) rows (by omega) (by omega) (ns.getD 4 0) nl6 (by show 6 < 64; decide)
  obtain ⟨l, ll, lq, el⟩ := failings_eq .own ys (by omega)
  obtain ⟨xs, hx, hx0, hxs⟩ := stream_eq (ns.getD 3 0) 4 (by decide)
  let Z : Hst := ⟨rows, cells, shelves, ks, b, lets⟩
  have I : Z.In := ⟨W.nd, W.cv, W.sz, by have := W.c3; show cells.length ≤ 100; omega, by have := W.s2; show shelves.length ≤ 100; omega⟩
  have led : ∀ (i : Nat) (r : PRow), rows[i]? = some r → ∀ t ∈ r.led i, t < rows.length := fun i r hi t ht => by
    rw [rl]
    refine (rin r (List.mem_of_getElem? hi)).2.led (fun he => ?_) t ht
    have hlt := (List.getElem?_eq_some_iff.mp hi).1
    rcases Nat.lt_or_ge i zs.length with q | q
    · omega
    · exfalso
      have e : i = zs.length := by omega
      rw [e] at hi
      rw [hlast] at hi
      cases hi
      cases he
  have n6 : nl6.length = 6 := rfl
  have ll6 := W.ll
  have R : Z.Rs := ⟨I, fun r hr => (rin r hr).1, led, by show 0 < rows.length; omega, by show rows.length ≤ 1000; omega, W.li⟩
  have K : Z.Ok := I.ok (fun r hr => I.row (rin r hr).1) led (by show 0 < rows.length; omega) (by show rows.length ≤ 1000; omega) W.li (by show lets.length ≤ 1000; omega) (fun k hk => by have := (C.k k hk).2.1; omega) (by have := C.kz; show ks.length ≤ 1000; omega) (by have := C.bz; show b.length ≤ 1000; omega)
  obtain ⟨be, ebe⟩ := ends_eq R
  have nok : ∀ x ∈ nl6, PyData.strOk x = true := fun x hx => by
    simp only [nl6, List.mem_cons, List.not_mem_nil, or_false] at hx
    rcases hx with q | q | q | q | q | q <;> (rw [q]; exact nm_ok _ _)
  have hT : ∀ x ∈ Z.cells ++ Z.shelves, PyData.strOk x.1 = true := fun x hx => by
    obtain ⟨k, e⟩ := W.nm x hx
    rw [e]; exact nm_ok _ _
  have hk : ∀ k ∈ Z.keeps, ∀ x ∈ k.2, x ∈ nl6 := fun k hk => (C.k k hk).1
  have lq2 : ∀ q ∈ l, In40 q.2 := fun q hq => (lq q hq).2
  have m151 := md (a := xs.getD 0 0) (b := 151) (by decide)
  have m5 := md (a := xs.getD 2 0) (b := 5) (by decide)
  obtain ⟨t5, ht5⟩ : ∃ n : Nat, xs.getD 2 0 % 5 = (n : Int) := ⟨(xs.getD 2 0 % 5).toNat, by omega⟩
  obtain ⟨sm, hsm, esm⟩ := sum_nat (l.take t5) fun q hq => (lq q (List.mem_of_mem_take hq)).1
  let W0 : DV := worldD bl cells shelves lets
  let CD : DV := codeD b ks
  let FL : DV := .lst .own (l.map flD)
  let N (x1 x2 x3 x4 x5 x6 x7 x8 x9 x10 x11 x12 x13 : Option DV) : List (Option DV) := [some Sc, x1, x2, x3, x4, x5, x6, x7, x8, x9, x10, x11, x12, x13]
  let o := (none : Option DV)
  let j1 := some W0
  let j2 := some (DV.lst .own ((nm12 c).map .str))
  let j3 := some Z.PD
  let j4 := some CD
  let j5 := some FL
  let j6 := some (DV.lst .own (xs.map .int))
  have s1 : dSet 1 (dPrim (cP (pureOf F_law_world) []) (aCons (dVar 0) aNil)) (N o o o o o o o o o o o o o) ([] : Sto) = some (.nx (N j1 o o o o o o o o o o o o) []) := set_of (callPP (args1 (x := Sc) rfl) (by rw [plainL_cons, pSc] <;> rfl) ew)
  have s2 : dSet 2 (dPrim (cP (pureOf F_law_names) []) (aCons (dPrim (cP (pureOf F_law_cell_at) []) (aCons (dVar 0) (aCons (dC (.int 0)) aNil))) (aCons (dC (.int 12)) aNil))) (N j1 o o o o o o o o o o o o) ([] : Sto) = some (.nx (N j1 j2 o o o o o o o o o o o) []) :=
    set_of (callPP (args2 (cellE 0 rfl rfl) (y := .int (12 : Nat)) rfl) rfl (names12_eq c))
  have s3 : dSet 3 (dPrim (cP (pureOf F_law_program) []) (aCons (dSl pSl (dVar 0) (oSome (dC (.int 5))) (oSome (dC (.int 25)))) (aCons (dVar 1) (aCons (dPrim (cP (pureOf F_law_atom) []) (aCons (dBin pMod (dPrim (cP (pureOf F_law_cell_at) []) (aCons (dVar 0) (aCons (dC (.int 3)) aNil))) (dC (.int 2147483629))) (aCons (dBin pIx (dVar 1) (dC (.int 0))) aNil))) aNil)))) (N j1 j2 o o o o o o o o o o o) ([] : Sto) = some (.nx (N j1 j2 j3 o o o o o o o o o o) []) := by
    have e0 : dSl pSl (dVar 0) (oSome (dC (.int 5))) (oSome (dC (.int 25))) (N j1 j2 o o o o o o o o o o o) ([] : Sto) = some (.lst .own (zs.map .int), []) := by
      rw [← ez]; rfl
    have e2 : dPrim (cP (pureOf F_law_atom) []) (aCons (dBin pMod (dPrim (cP (pureOf F_law_cell_at) []) (aCons (dVar 0) (aCons (dC (.int 3)) aNil))) (dC (.int 2147483629))) (aCons (dBin pIx (dVar 1) (dC (.int 0))) aNil)) (N j1 j2 o o o o o o o o o o o) ([] : Sto) = some (last.d, []) :=
      callPP (args2 (modI_of (cellE 3 rfl rfl) (b := 2147483629) rfl (by decide)) (bin_of (x := W0) (y := .int 0) rfl rfl rfl)) (by show (true && (plainL (bl.map .str) && true)) = true; rw [plainL_strs] <;> rfl) ea
    exact set_of (callPP (args3 e0 (y := W0) rfl e2) (by show (plainL (zs.map .int) && (plain W0 && (plain last.d && true))) = true; rw [plainL_ints, world_plain, Atm.plain_d] <;> rfl) ep)
  have s4 : dSet 4 (dPrim (cP (pureOf F_law_cutting) []) (aCons (dVar 3) (aCons (dPrim (cP (pureOf F_law_cell_at) []) (aCons (dVar 0) (aCons (dC (.int 4)) aNil))) (aCons (dSl pSl (dVar 2) (oSome (dC (.int 5))) (oSome (dC (.int 11)))) aNil)))) (N j1 j2 j3 o o o o o o o o o o) ([] : Sto) = some (.nx (N j1 j2 j3 j4 o o o o o o o o o) []) :=
    set_of (callPP (args3 (x := Z.PD) rfl (cellE 4 rfl rfl) (z := .lst .own (nl6.map .str)) rfl) (by show (plain Z.PD && (true && (true && true))) = true; rw [PD_plain] <;> rfl) ec)
  have s5 : dSet 5 (dPrim (cP (pureOf F_law_failings) []) (aCons (dSl pSl (dVar 0) (oSome (dC (.int 25))) (oSome (dC (.int 45)))) aNil)) (N j1 j2 j3 j4 o o o o o o o o o) ([] : Sto) = some (.nx (N j1 j2 j3 j4 j5 o o o o o o o o) []) := by
    have e0 : dSl pSl (dVar 0) (oSome (dC (.int 25))) (oSome (dC (.int 45))) (N j1 j2 j3 j4 o o o o o o o o o) ([] : Sto) = some (.lst .own (ys.map .int), []) := by
      rw [← ey]; rfl
    exact set_of (callPP (args1 e0) (by show (plainL (ys.map .int) && true) = true; rw [plainL_ints] <;> rfl) el)
  have s6 : dSet 6 (dPrim (cP (pureOf F_law_stream) []) (aCons (dPrim (cP (pureOf F_law_cell_at) []) (aCons (dVar 0) (aCons (dC (.int 3)) aNil))) (aCons (dC (.int 4)) aNil))) (N j1 j2 j3 j4 j5 o o o o o o o o) ([] : Sto) = some (.nx (N j1 j2 j3 j4 j5 j6 o o o o o o o) []) :=
    set_of (callPP (args2 (cellE 3 rfl rfl) (y := .int (4 : Nat)) rfl) rfl hxs)
  have xv : ∀ (k : Nat) {e : DE} (x7 : Option DV), k < 4 → e (N j1 j2 j3 j4 j5 j6 x7 o o o o o o) ([] : Sto) = some (.int (k : Nat), []) → dBin pIx (dVar 6) e (N j1 j2 j3 j4 j5 j6 x7 o o o o o o) ([] : Sto) = some (.int (xs.getD k 0), []) := fun k {e} x7 hk he => bin_of (x := .lst .own (xs.map .int)) rfl he (xs_at (by omega))
  have s7 : dSet 7 (dBin pMod (dBin pIx (dVar 6) (dC (.int 0))) (dC (.int 151))) (N j1 j2 j3 j4 j5 j6 o o o o o o o) ([] : Sto) = some (.nx (N j1 j2 j3 j4 j5 j6 (some (.int (xs.getD 0 0 % 151))) o o o o o o) []) := set_of (modI_of (xv 0 o (by decide) rfl) (b := 151) rfl (by decide))
  obtain ⟨most, hmost, s8⟩ : ∃ most : Nat, most ≤ 1000 ∧ dIfS (dBin (pEq false) (dBin pMod (dBin pIx (dVar 6) (dC (.int 1))) (dC (.int 2))) (dC (.int 0))) (dSet 7 (dPrim pSum (aCons (dLc (iSeq (dSl pSl (dVar 5) oNone (oSome (dBin pMod (dBin pIx (dVar 6) (dC (.int 2))) (dC (.int 5)))))) (gTupD 2 (gsCons (gSet 12) (gsCons (gSet 13) gsNil))) (dC (.bl true)) (dVar 12) [12, 13]) aNil))) dNext (N j1 j2 j3 j4 j5 j6 (some (.int (xs.getD 0 0 % 151))) o o o o o o) ([] : Sto) = some (.nx (N j1 j2 j3 j4 j5 j6 (some (.int (most : Nat))) o o o o o o) []) := by
    have cc : dBin (pEq false) (dBin pMod (dBin pIx (dVar 6) (dC (.int 1))) (dC (.int 2))) (dC (.int 0)) (N j1 j2 j3 j4 j5 j6 (some (.int (xs.getD 0 0 % 151))) o o o o o o) ([] : Sto) = some (.bl (decide (xs.getD 1 0 % 2 = 0)), []) := bin_of (modI_of (xv 1 _ (by decide) rfl) (b := 2) rfl (by decide)) (y := .int 0) rfl v_eqI
    by_cases q : xs.getD 1 0 % 2 = 0
    · rw [decide_eq_true q] at cc
      have tl : (l.take t5).length ≤ 4 := by rw [List.length_take]; omega
      refine ⟨sm, by omega, (ifS_t cc).trans (set_of ?_)⟩
      rw [← esm]
      refine sum_of (is := (l.take t5).map fun q => ((q.1 : Nat) : Int)) ?_
      have es : dSl pSl (dVar 5) oNone (oSome (dBin pMod (dBin pIx (dVar 6) (dC (.int 2))) (dC (.int 5)))) (N j1 j2 j3 j4 j5 j6 (some (.int (xs.getD 0 0 % 151))) o o o o o o) ([] : Sto) = some (.lst .own ((l.take t5).map flD), []) := by
        have e5 : dBin pMod (dBin pIx (dVar 6) (dC (.int 2))) (dC (.int 5)) (N j1 j2 j3 j4 j5 j6 (some (.int (xs.getD 0 0 % 151))) o o o o o o) ([] : Sto) = some (.int (t5 : Nat), []) := by
          rw [← ht5]
          exact modI_of (xv 2 _ (by decide) rfl) (b := 5) rfl (by decide)
        rw [List.map_take]
        exact sl_to rfl e5
      refine (dLc_of (iSeqL_of es) (lc_all (D := flD) (E := fun q => DV.int (q.1 : Nat)) (K := l.take t5) fun q _ => ⟨N j1 j2 j3 j4 j5 j6 (some (.int (xs.getD 0 0 % 151))) o o o o (some (.int (q.1 : Nat))) (some (.int q.2)), rfl, rfl, rfl⟩) (size_ok (by rw [List.length_map]; omega))).trans ?_
      rw [List.map_map]; rfl
    · rw [decide_eq_false q] at cc
      refine ⟨(xs.getD 0 0 % 151).toNat, by omega, (ifS_f cc).trans ?_⟩
      rw [Int.toNat_of_nonneg m151.1]
      rfl
  let j7 := some (DV.int (most : Nat))
  have s9 : dSet 8 (dPrim pList (aCons (dVar 5) aNil)) (N j1 j2 j3 j4 j5 j6 j7 o o o o o o) ([] : Sto) = some (.nx (N j1 j2 j3 j4 j5 j6 j7 j5 o o o o o) []) := rfl
  let M (x9 x10 x11 : Option DV) := N j1 j2 j3 j4 j5 j6 j7 j5 x9 x10 x11 o o
  have mk : ∀ {x9 x10 x11 : Option DV} {S S1 : Sto}, F_House_init [.loc S.length, Z.PD, codeD Z.beg Z.keeps, .lst .own (Z.coming.map .int)] (S ++ [.ins "House" []]) = some (.non, S1) → dMake "House" F_House_init [] (aCons (dVar 3) (aCons (dVar 4) (aCons (dBin pIx (dVar 1) (dC (.int 3))) aNil))) (M x9 x10 x11) S = some (.loc S.length, S1) := fun {x9 x10 x11 S S1} e => make_of (xs := [Z.PD, CD, .lst .own (lets.map .int)]) (args3 (x := Z.PD) (y := CD) rfl rfl (bin_of (x := W0) (y := .int 3) rfl rfl rfl)) e
  obtain ⟨S1, S2, S3, S4, S5, d, p1, p2, p3, p4, p5, n5⟩ := pair_ok (l := l) (most := most) I K (· ∈ nl6) nok hT hk C.bb (by omega) lq2 .own .own (nm12 c) (by show 12 ≤ 1000; decide) [] rfl
  have s10 : dSet 9 (dMake "House" F_House_init [] (aCons (dVar 3) (aCons (dVar 4) (aCons (dBin pIx (dVar 1) (dC (.int 3))) aNil)))) (M o o o) ([] : Sto) = some (.nx (M (some (.loc ([] : Sto).length)) o o) S1) := set_of (mk p1)
  have s11 : dSet 10 (dMake "House" F_House_init [] (aCons (dVar 3) (aCons (dVar 4) (aCons (dBin pIx (dVar 1) (dC (.int 3))) aNil)))) (M (some (.loc ([] : Sto).length)) o o) S1 = some (.nx (M (some (.loc ([] : Sto).length)) (some (.loc S1.length)) o) S2) := set_of (mk p2)
  let ρ11 := M (some (.loc ([] : Sto).length)) (some (.loc S1.length))
  have s12 : dSet 11 (dPrim (cS F_drive []) (aCons (dVar 9) (aCons (dVar 8) (aCons (dVar 7) aNil)))) (ρ11 o) S2 = some (.nx (ρ11 (some (.int (d : Nat)))) S3) := set_of (callS (args3 (x := .loc ([] : Sto).length) (y := FL) (z := .int (most : Nat)) rfl rfl rfl) p3)
  have wh : ∀ {f : DE} {ρ : List (Option DV)} {S S' : Sto} {d : Nat}, dVar 11 ρ S = some (.int (d : Nat), S) → f ρ S = some (.int (d : Nat), S') → dPrim (cP (pureOf F_law_whole) []) (aCons (dVar 11) (aCons f aNil)) ρ S = some (.bl true, S') := fun {f ρ S S' d} h1 h2 => callPP (args2 h1 h2) rfl (whole_eq d)
  have s13 : dIfS (dOr (dNot (dPrim (cP (pureOf F_law_whole) []) (aCons (dVar 11) (aCons (dPrim (cS F_law_by_hand []) (aCons (dVar 10) (aCons (dVar 5) (aCons (dVar 7) aNil)))) aNil)))) (dNot (dPrim (cS F_law_same []) (aCons (dVar 9) (aCons (dVar 10) (aCons (dVar 3) (aCons (dVar 2) aNil))))))) (dRet (dC (.bl false))) dNext (ρ11 (some (.int (d : Nat)))) S3 = some (.nx (ρ11 (some (.int (d : Nat)))) S5) := by
    have c1 := not_of (wh (f := dPrim (cS F_law_by_hand []) (aCons (dVar 10) (aCons (dVar 5) (aCons (dVar 7) aNil)))) (ρ := ρ11 (some (.int (d : Nat)))) (S := S3) rfl (callS (args3 (x := .loc S1.length) (y := FL) (z := .int (most : Nat)) rfl rfl rfl) p4))
    have c2 := not_of (callS (F := F_law_same) (ρ := ρ11 (some (.int (d : Nat)))) (S := S4) (fa := aCons (dVar 9) (aCons (dVar 10) (aCons (dVar 3) (aCons (dVar 2) aNil)))) (argsC (x := .loc ([] : Sto).length) rfl (args3 (x := .loc S1.length) (y := Z.PD) (z := .lst .own ((nm12 c).map .str)) rfl rfl rfl)) p5)
    exact (ifS_f (or_f c1 c2)).trans rfl
  have flg : goodL (l.map flD) = true := goodL_map fun _ _ => rfl
  have fld : deepL (l.map flD) ≤ 1 := deepL_map fun q _ => by show max 0 (max 0 0) + 1 ≤ 1; decide
  have same : ∀ (x9 x10 x11 : Option DV) (S : Sto), dBin (pEq false) (dVar 8) (dVar 5) (M x9 x10 x11) S = some (.bl true, S) := fun x9 x10 x11 S => bin_of (x := FL) (y := FL) rfl rfl (eqqL (fl_plain l) flg (by omega) false)
  have ce : ∀ (x9 x10 x11 : Option DV) (S : Sto), dNot (dPrim (cP (pureOf F_law_ends) []) (aCons (dVar 3) (aCons (dBin pIx (dVar 1) (dC (.int 3))) aNil))) (M x9 x10 x11) S = some (.bl (!be), S) := fun x9 x10 x11 S =>
    not_of (callPP (args2 (x := Z.PD) rfl (bin_of (x := W0) (y := .int 3) rfl rfl (r := some (.lst .own (lets.map .int), S)) rfl)) (by show (plain Z.PD && (plainL (lets.map .int) && true)) = true; rw [PD_plain, plainL_ints] <;> rfl) ebe)
  have begin_ := fun (t : DS) (r : Option Out) (hh : t (ρ11 (some (.int (d : Nat)))) S5 = r) => (seq_nx s1).trans ((seq_nx s2).trans ((seq_nx s3).trans ((seq_nx s4).trans ((seq_nx s5).trans ((seq_nx s6).trans ((seq_nx s7).trans ((seq_nx s8).trans ((seq_nx s9).trans ((seq_nx s10).trans ((seq_nx s11).trans ((seq_nx s12).trans ((seq_nx s13).trans hh))))))))))))
  cases be with
  | false =>
    have s14 : ∀ {t : DS}, dSeq (dIfS (dNot (dPrim (cP (pureOf F_law_ends) []) (aCons (dVar 3) (aCons (dBin pIx (dVar 1) (dC (.int 3))) aNil)))) (dRet (dBin (pEq false) (dVar 8) (dVar 5))) dNext) t (ρ11 (some (.int (d : Nat)))) S5 = some (.rt (.bl true) S5) := fun {t} => seq_rt ((ifS_t (ce _ _ _ _)).trans (ret_of (same _ _ _ _)))
    exact ⟨S5, run_rt rfl (begin_ _ _ s14)⟩
  | true =>
    have s14 : dIfS (dNot (dPrim (cP (pureOf F_law_ends) []) (aCons (dVar 3) (aCons (dBin pIx (dVar 1) (dC (.int 3))) aNil)))) (dRet (dBin (pEq false) (dVar 8) (dVar 5))) dNext (ρ11 (some (.int (d : Nat)))) S5 = some (.nx (ρ11 (some (.int (d : Nat)))) S5) := (ifS_f (ce _ _ _ _)).trans rfl
    obtain ⟨Q1, Q2, Q3, Q4, Q5, d2, q1, q2, q3, q4, q5, m5⟩ := pair_ok (l := l.take 4) (most := 1000) I K (· ∈ nl6) nok hT hk C.bb (by decide) (fun q hq => lq2 q (List.mem_of_mem_take hq)) .own .own (nm12 c) (by show 12 ≤ 1000; decide) S5 n5
    have s15 : dSet 9 (dMake "House" F_House_init [] (aCons (dVar 3) (aCons (dVar 4) (aCons (dBin pIx (dVar 1) (dC (.int 3))) aNil)))) (ρ11 (some (.int (d : Nat)))) S5 = some (.nx (M (some (.loc S5.length)) (some (.loc S1.length)) (some (.int (d : Nat)))) Q1) := set_of (mk q1)
    have s16 : dSet 10 (dMake "House" F_House_init [] (aCons (dVar 3) (aCons (dVar 4) (aCons (dBin pIx (dVar 1) (dC (.int 3))) aNil)))) (M (some (.loc S5.length)) (some (.loc S1.length)) (some (.int (d : Nat)))) Q1 = some (.nx (M (some (.loc S5.length)) (some (.loc Q1.length)) (some (.int (d : Nat)))) Q2) := set_of (mk q2)
    let ρ16 := M (some (.loc S5.length)) (some (.loc Q1.length))
    have sl4 : ∀ (v : Nat) {S : Sto} {x : Option DV}, dVar v (ρ16 x) S = some (FL, S) → dSl pSl (dVar v) oNone (oSome (dC (.int 4))) (ρ16 x) S = some (.lst .own ((l.take 4).map flD), S) := fun v {S x} hv => by
      rw [List.map_take]
      exact sl_to hv (a := 4) rfl
    have s17 : dSet 11 (dPrim (cS F_drive [.int 1000]) (aCons (dVar 9) (aCons (dSl pSl (dVar 8) oNone (oSome (dC (.int 4)))) aNil))) (ρ16 (some (.int (d : Nat)))) Q2 = some (.nx (ρ16 (some (.int (d2 : Nat)))) Q3) := by
      refine set_of (prim_of (args2 (x := .loc S5.length) rfl (sl4 8 rfl)) ?_)
      exact q3
    have s18 : dIfS (dNot (dPrim (cP (pureOf F_law_whole) []) (aCons (dVar 11) (aCons (dPrim (cS F_law_by_hand []) (aCons (dVar 10) (aCons (dSl pSl (dVar 5) oNone (oSome (dC (.int 4)))) (aCons (dC (.int 1000)) aNil)))) aNil)))) (dRet (dC (.bl false))) dNext (ρ16 (some (.int (d2 : Nat)))) Q3 = some (.nx (ρ16 (some (.int (d2 : Nat)))) Q4) :=
      (ifS_f (not_of (wh (ρ := ρ16 (some (.int (d2 : Nat)))) (S := Q3) rfl (callS (args3 (x := .loc Q1.length) rfl (sl4 5 rfl) (z := .int (1000 : Nat)) rfl) q4)))).trans rfl
    have c19 : dAnd (dPrim (cS F_law_same []) (aCons (dVar 9) (aCons (dVar 10) (aCons (dVar 3) (aCons (dVar 2) aNil))))) (dBin (pEq false) (dVar 8) (dVar 5)) (ρ16 (some (.int (d2 : Nat)))) Q4 = some (.bl true, Q5) :=
      and_t (callS (argsC (x := .loc S5.length) rfl (args3 (x := .loc Q1.length) (y := Z.PD) (z := .lst .own ((nm12 c).map .str)) rfl rfl rfl)) q5) (same _ _ _ _)
    exact ⟨Q5, run_rt rfl (begin_ _ _ ((seq_nx s14).trans ((seq_nx s15).trans ((seq_nx s16).trans ((seq_nx s17).trans ((seq_nx s18).trans (ret_of c19)))))))⟩
end Lk76

namespace Lk76
open PySem PySem.Spec PyProof.Rows L2 Dn
/-! ### the head -/
abbrev R : PySem.W.OpenRow := PySem.W.OpenLaw.row PySem.Challenge.rw_dimhouse_k76_driven
abbrev hk : PySem.W.Hook := hookX 4 fa fn ex
def ob (s : PySem.W.SharedT) : AlX := obsX 4 fa fn ex (HandSHeadRun.getT s)
theorem ob_eq (s : PySem.W.SharedT) : ob s = hk.obs s.abs := obsX_eq (HandSHeadRun.getT_eq s)
def lo0 : List Str := ["ways_of", "ways", "value", "twins_of", "stepped", "drive", "_law_cell_at", "_law_stream", "_law_names", "_law_value_by", "_law_atom", "_law_world", "_law_led", "_law_row", "_law_program", "_law_some", "_law_cutting", "_law_failings", "_law_by_hand", "_law_same", "_law_whole", "_law_ends", "Hand", "Phase", "Resting", "Up", "Going", "Keeping", "Page", "Store"]
def lo1 : List Str := ["House", "Plain", "WIDE"]
def loose : List Str := lo0 ++ lo1
theorem run (w : World) : HandSHeadRun.RunEq R (PySem.W.view R.prog [40]) hk ob 20000 loose w := by
  intro os
  kernel_rfl
theorem walk_law {P : Program} {w : World} {K : PySem.W.Frag} {h : Heap} {mg : Str → Option Value} {f : Addr} (X : K.In h) (G : h.Ns mainGlobals mg) (hfa : mg ("law" : Str) = some (.ref f)) (c : He.SaysD fa fn K) (e : ex K = true) :
    ∃ fd : FuncData, (∀ (s : Shared) (v : Value), BindsTo s fd ⟨[v], []⟩ [("_law_script", v)]) ∧ ∀ base : Heap, K.In base → base.Ns mainGlobals mg → FnOk P w K mg base CX0 9 f fd ["_law_script"] (spS K 1 F_law) := by
  have Y : Fx K mg := ⟨⟨h, X, G⟩, c, e⟩
  obtain ⟨fd, FD⟩ := Y.c.def_ 82 (d := d_law) rfl
  have e0 := hfa.symm.trans (Y.glo 22)
  cases e0
  have b := FunD.bindsA (ps := ["_law_script"]) FD fun _ _ _ _ _ _ us hl => match us, hl with | [_], _ => rfl
  exact ⟨fd, fun s v => b s [v] rfl, fun base _ _ => ok_law_fn FD Y⟩
end Lk76
open PySem PySem.W PySem.Calls PyProof.Rows
set_option maxHeartbeats 0 in
theorem PySem.Challenge.cw_dimhouse_k76_driven_holds : PySem.Challenge.rw_dimhouse_k76_driven.Holds := by
  w_on; o_law
  refine HandSHeadRun.head_any (r := OpenLaw.row PySem.Challenge.rw_dimhouse_k76_driven) (q := view (OpenLaw.row PySem.Challenge.rw_dimhouse_k76_driven).prog [40]) (H := Lk76.hk) (ob := Lk76.ob) (M := 20000) (loose := Lk76.loose) (d := HandSHeadRun.topDef (OpenLaw.row PySem.Challenge.rw_dimhouse_k76_driven).prog 40) (kwd := []) Lk76.ob_eq
    (by kernel_rfl) (fun s => by kernel_rfl) Lk76.run (by kernel_rfl) (by kernel_rfl) (by kernel_rfl) (by rfl) (by first | assumption | decide +kernel) (by decide +kernel) ⟨rfl, rfl, rfl, rfl, rfl, by decide +kernel⟩ ?hw ?hc
  case hw => w_witness2
  case hc =>
    refine L2.walk_ofE (l := PySem.Challenge.rw_dimhouse_k76_driven) (n := 63) (k := 9) (x := "_law_script") (CX := L2.CX0) rfl (by decide) (by kernel_rfl) ⟨rfl, by decide, by decide⟩ ?F (fun _ _ _ _ z => z)
    intro w mg fa h Y G hmg0
    obtain ⟨K, KX, c, e⟩ := Y
    have hmg : mg ("law" : PySem.Str) = some (.ref fa) := by
      have e : (HandSHeadRun.topDef (OpenLaw.row PySem.Challenge.rw_dimhouse_k76_driven).prog 40).name = ("law" : PySem.Str) := by kernel_rfl
      rw [← e]
      exact hmg0
    obtain ⟨fd, hb, hF⟩ := Lk76.walk_law (P := (PySem.Challenge.rw_dimhouse_k76_driven).prog) (w := w) KX G hmg c e
    exact ⟨K, fd, Dn.spS K 1 Lk76.F_law, KX, hb, fun H a ns hl _ hS => Dn.spS_law hS (Lk76.law_true ns hl), hF⟩
