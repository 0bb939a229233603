import PyProof.Rows.All
import Wide.All
import OpenK.AllK
import Wide.FinOn
import HandS.ForMost
import HandS.HeadHook1
import HandS.Defaults
import HandS.TupAny
import HandS.IsInst
import HandS.Wide
import HandS.Style
import HandS.TupLen
import HandS.RevRange
import HandS.Deep
import HandS.RaiseMore
import HandS.Conv
import HandS.More
import HandS.Walk
import HandS.Rev
import HandS.Zip
import HandS.NoneIn
import HandS.SortInts
import KE.KStateDown
import HandS.HeadHook2
import HandS.Head0
import HandS.Head1
import HandS.Head2
import HandS.HeadEnd
import HandS.Words
import KE.GoesMore
import KE.GoesEnum
import HandS.Iter
import HandS.Text
import KE.OsArith
import HandS.TryOnly
import PySem.Challenge.RW_dimhouse_k24_whole_plain_runs
set_option Elab.async false
set_option linter.all false
set_option maxRecDepth 100000
set_option maxHeartbeats 0
/-! A denotation layer over the hand layer: data values, a store of cells, and one rule for each construct. -/
namespace Dn
open PySem L2

/-! ### values -/
inductive LK where
  | own | bor | ext
  deriving DecidableEq
inductive DV where
  | non | bl (b : Bool) | int (i : Int) | str (s : Str)
  | tup (xs : List DV)
  | tupx (xs : List DV)
  | lst (k : LK) (xs : List DV)
  | dik (k : LK) (ks : List Key) (vs : List DV)
  | dit (k : LK) (ks : List (List Key)) (vs : List DV)
  | loc (n : Nat)
/-- a cell of the store -/
inductive Cell where
  | lst (xs : List DV)
  | dik (ks : List Key) (vs : List DV)
  | dit (ks : List (List Key)) (vs : List DV)
  | ins (C : Str) (fs : List (Str × DV))
  | frz (d : DV)
  | lok (ks : List Key) (vs : List DV)
  | gone
abbrev Sto := List Cell
def Cell.live : Cell → Bool
  | .frz _ => false
  | .lok _ _ => false
  | .gone => false
  | _ => true
/-- where data lies: frozen objects G, borrowed ones B, the cells' addresses -/
structure Fm where
  K : PySem.W.Frag
  G : Hp
  B : Hp
  /-- protected: it stays, but no data leans on it -/
  P : Hp
  lm : List Addr
def Fm.free (F : Fm) (a : Addr) : Prop := F.B a = none ∧ F.P a = none

mutual
def Rel (F : Fm) : DV → V → Prop
  | .non, v => v = .non
  | .bl b, v => v = .bl b
  | .int i, v => v = .int i
  | .str s, v => v = .str s
  | .tup ds, v => ∃ a xs, v = .ref a ∧ F.G a = some (.tup xs) ∧ RelL F ds xs
  | .tupx ds, v => ∃ a xs, v = .ref a ∧ SqT F.K F.G a xs ∧ RelL F ds xs
  | .lst .own ds, v => ∃ a xs, v = .ref a ∧ F.G a = some (.lst xs) ∧ RelL F ds xs
  | .lst .bor ds, v => ∃ a xs, v = .ref a ∧ (F.B a = some (.lst xs) ∨ F.G a = some (.lst xs)) ∧ RelL F ds xs
  | .lst .ext ds, v => ∃ a xs, v = .ref a ∧ SqL F.K F.G a xs ∧ RelL F ds xs
  | .dik k ks ds, v => ∃ a xs, v = .ref a ∧ ks.length = ds.length ∧ (F.G a = some (.dK (ks.zip xs)) ∨ (k ≠ .own ∧ F.B a = some (.dK (ks.zip xs)))) ∧ RelL F ds xs
  | .dit k ks ds, v => ∃ a xs, v = .ref a ∧ ks.length = ds.length ∧ (F.G a = some (.dT (ks.zip xs)) ∨ (k ≠ .own ∧ F.B a = some (.dT (ks.zip xs)))) ∧ RelL F ds xs
  | .loc n, v => ∃ a, F.lm[n]? = some a ∧ v = .ref a
def RelL (F : Fm) : List DV → List V → Prop
  | [], xs => xs = []
  | d :: ds, xs => ∃ x r, xs = x :: r ∧ Rel F d x ∧ RelL F ds r
end

structure Le (F F' : Fm) : Prop where
  k : F'.K = F.K
  b : F'.B = F.B
  p : F'.P = F.P
  g : Same F.G F'.G
  n : ∀ a o, F'.G a = some o → F.G a = some o ∨ F.free a
  m : F.lm <+: F'.lm
theorem Le.refl (F : Fm) : Le F F := ⟨rfl, rfl, rfl, Same.refl _, fun _ _ h => .inl h, List.prefix_refl _⟩
theorem Le.trans {F F1 F2 : Fm} (a : Le F F1) (b : Le F1 F2) : Le F F2 :=
  ⟨b.k.trans a.k, b.b.trans a.b, b.p.trans a.p, a.g.trans b.g, fun x o h => (b.n x o h).elim (fun h => a.n x o h) fun h => .inr ⟨by rw [← a.b]; exact h.1, by rw [← a.p]; exact h.2⟩, a.m.trans b.m⟩
theorem prefix_get {α : Type} {l l' : List α} (h : l <+: l') {n : Nat} {a : α} (e : l[n]? = some a) : l'[n]? = some a := by
  obtain ⟨t, rfl⟩ := h
  rw [List.getElem?_append_left (List.getElem?_eq_some_iff.mp e).1]
  exact e
theorem sqL_same {K : PySem.W.Frag} {H H' : Hp} {a : Addr} {xs : List V} (e : Same H H') (h : SqL K H a xs) : SqL K H' a xs := e.seq h
theorem sqT_same {K : PySem.W.Frag} {H H' : Hp} {a : Addr} {xs : List V} (e : Same H H') (h : SqT K H a xs) : SqT K H' a xs := by
  rcases h with h | h
  · rcases h with h | ⟨o, h⟩
    · exact .inl (.inl (e _ _ h))
    · exact .inl (.inr ⟨o, e _ _ h⟩)
  · exact .inr h

/-- monotone in all but what is put in and taken out -/
structure Wk (F F' : Fm) : Prop where
  k : F'.K = F.K
  b : Same F.B F'.B
  g : Same F.G F'.G
  m : F.lm <+: F'.lm
theorem Le.wk {F F' : Fm} (h : Le F F') : Wk F F' := ⟨h.k, by rw [h.b]; exact Same.refl _, h.g, h.m⟩
mutual
theorem Rel.wk {F F' : Fm} (w : Wk F F') : ∀ (d : DV) (v : V), Rel F d v → Rel F' d v
  | .non, v, h => h
  | .bl b, v, h => h
  | .int i, v, h => h
  | .str s, v, h => h
  | .tup ds, v, h => by
    obtain ⟨a, xs, e, hs, hl⟩ := h
    exact ⟨a, xs, e, w.g _ _ hs, RelL.wk w ds xs hl⟩
  | .tupx ds, v, h => by
    obtain ⟨a, xs, e, hs, hl⟩ := h
    exact ⟨a, xs, e, by rw [w.k]; exact sqT_same w.g hs, RelL.wk w ds xs hl⟩
  | .lst .own ds, v, h => by
    obtain ⟨a, xs, e, hs, hl⟩ := h
    exact ⟨a, xs, e, w.g _ _ hs, RelL.wk w ds xs hl⟩
  | .lst .bor ds, v, h => by
    obtain ⟨a, xs, e, hs, hl⟩ := h
    exact ⟨a, xs, e, hs.elim (fun h => .inl (w.b _ _ h)) fun h => .inr (w.g _ _ h), RelL.wk w ds xs hl⟩
  | .lst .ext ds, v, h => by
    obtain ⟨a, xs, e, hs, hl⟩ := h
    exact ⟨a, xs, e, by rw [w.k]; exact sqL_same w.g hs, RelL.wk w ds xs hl⟩
  | .dik k ks ds, v, h => by
    obtain ⟨a, xs, e, hn, hs, hl⟩ := h
    exact ⟨a, xs, e, hn, hs.elim (fun h => .inl (w.g _ _ h)) fun h => .inr ⟨h.1, w.b _ _ h.2⟩, RelL.wk w ds xs hl⟩
  | .dit k ks ds, v, h => by
    obtain ⟨a, xs, e, hn, hs, hl⟩ := h
    exact ⟨a, xs, e, hn, hs.elim (fun h => .inl (w.g _ _ h)) fun h => .inr ⟨h.1, w.b _ _ h.2⟩, RelL.wk w ds xs hl⟩
  | .loc n, v, h => by
    obtain ⟨a, e, hv⟩ := h
    exact ⟨a, prefix_get w.m e, hv⟩
theorem RelL.wk {F F' : Fm} (w : Wk F F') : ∀ (ds : List DV) (xs : List V), RelL F ds xs → RelL F' ds xs
  | [], xs, h => h
  | d :: ds, xs, h => by
    obtain ⟨x, r, e, h1, h2⟩ := h
    exact ⟨x, r, e, Rel.wk w d x h1, RelL.wk w ds r h2⟩
end
theorem Rel.le {F F' : Fm} (w : Le F F') {d : DV} {v : V} (h : Rel F d v) : Rel F' d v := Rel.wk w.wk d v h
theorem RelL.le {F F' : Fm} (w : Le F F') {ds : List DV} {vs : List V} (h : RelL F ds vs) : RelL F' ds vs := RelL.wk w.wk ds vs h
theorem RelL.length {F : Fm} : ∀ {ds : List DV} {vs : List V}, RelL F ds vs → ds.length = vs.length
  | [], vs, h => by
    have e : vs = [] := h
    rw [e] <;> rfl
  | d :: ds, vs, h => by
    obtain ⟨x, r, rfl, _, h2⟩ := h
    rw [List.length_cons, List.length_cons, h2.length]
theorem RelL.nil {F : Fm} {vs : List V} (h : RelL F [] vs) : vs = [] := h
theorem RelL.cons {F : Fm} {d : DV} {v : V} {ds : List DV} {vs : List V} (h1 : Rel F d v) (h2 : RelL F ds vs) : RelL F (d :: ds) (v :: vs) := ⟨v, vs, rfl, h1, h2⟩
theorem RelL.get {F : Fm} : ∀ {ds : List DV} {vs : List V} {i : Nat} {d : DV}, RelL F ds vs → ds[i]? = some d → ∃ v, vs[i]? = some v ∧ Rel F d v
  | [], vs, i, d, h, e => by simp at e
  | d0 :: ds, vs, 0, d, h, e => by
    obtain ⟨x, r, rfl, h1, h2⟩ := h
    have e' : d0 = d := by simpa using e
    subst e'
    exact ⟨x, rfl, h1⟩
  | d0 :: ds, vs, i + 1, d, h, e => by
    obtain ⟨x, r, rfl, h1, h2⟩ := h
    obtain ⟨v, e1, e2⟩ := RelL.get (i := i) h2 (by simpa using e)
    exact ⟨v, by simpa using e1, e2⟩
theorem RelL.get' {F : Fm} {ds : List DV} {vs : List V} {i : Nat} {v : V} (h : RelL F ds vs) (e : vs[i]? = some v) : ∃ d, ds[i]? = some d ∧ Rel F d v := by
  have hl := h.length
  have hi := (List.getElem?_eq_some_iff.mp e).1
  obtain ⟨v', e1, e2⟩ := h.get (i := i) (d := ds[i]'(by omega)) (List.getElem?_eq_getElem (by omega))
  rw [e] at e1
  cases e1
  exact ⟨_, List.getElem?_eq_getElem (by omega), e2⟩
theorem RelL.append {F : Fm} : ∀ {ds es : List DV} {vs us : List V}, RelL F ds vs → RelL F es us → RelL F (ds ++ es) (vs ++ us)
  | [], es, vs, us, h, k => by
    have e : vs = [] := h
    rw [e]
    exact k
  | d :: ds, es, vs, us, h, k => by
    obtain ⟨x, r, rfl, h1, h2⟩ := h
    exact ⟨x, r ++ us, rfl, h1, RelL.append h2 k⟩
theorem RelL.set {F : Fm} {d : DV} {v : V} (r : Rel F d v) : ∀ {ds : List DV} {vs : List V} (i : Nat), RelL F ds vs → RelL F (ds.set i d) (vs.set i v)
  | [], vs, i, h => by
    have e : vs = [] := h
    rw [e]
    exact rfl
  | d0 :: ds, vs, 0, h => by
    obtain ⟨x, r', rfl, h1, h2⟩ := h
    exact ⟨v, r', rfl, r, h2⟩
  | d0 :: ds, vs, i + 1, h => by
    obtain ⟨x, r', rfl, h1, h2⟩ := h
    exact ⟨x, r'.set i v, rfl, h1, RelL.set r i h2⟩
theorem RelL.take {F : Fm} : ∀ {ds : List DV} {vs : List V} (n : Nat), RelL F ds vs → RelL F (ds.take n) (vs.take n)
  | [], vs, n, h => by
    have e : vs = [] := h
    rw [e, List.take_nil, List.take_nil]
    exact rfl
  | d0 :: ds, vs, 0, h => by
    rw [List.take_zero, List.take_zero]
    exact rfl
  | d0 :: ds, vs, n + 1, h => by
    obtain ⟨x, r', rfl, h1, h2⟩ := h
    exact ⟨x, r'.take n, rfl, h1, RelL.take n h2⟩
theorem RelL.drop {F : Fm} : ∀ {ds : List DV} {vs : List V} (n : Nat), RelL F ds vs → RelL F (ds.drop n) (vs.drop n)
  | [], vs, n, h => by
    have e : vs = [] := h
    rw [e, List.drop_nil, List.drop_nil]
    exact rfl
  | d0 :: ds, vs, 0, h => h
  | d0 :: ds, vs, n + 1, h => by
    obtain ⟨x, r', rfl, h1, h2⟩ := h
    exact RelL.drop n h2
theorem RelL.rev {F : Fm} : ∀ {ds : List DV} {vs : List V}, RelL F ds vs → RelL F ds.reverse vs.reverse
  | [], vs, h => by
    have e : vs = [] := h
    rw [e]
    exact rfl
  | d0 :: ds, vs, h => by
    obtain ⟨x, r', rfl, h1, h2⟩ := h
    rw [List.reverse_cons, List.reverse_cons]
    exact RelL.append (RelL.rev h2) ⟨x, [], rfl, h1, rfl⟩
theorem RelL.eraseIdx {F : Fm} : ∀ {ds : List DV} {vs : List V} (n : Nat), RelL F ds vs → RelL F (ds.eraseIdx n) (vs.eraseIdx n)
  | [], vs, n, h => by
    have e : vs = [] := h
    rw [e, List.eraseIdx_nil, List.eraseIdx_nil]
    exact rfl
  | d0 :: ds, vs, 0, h => by
    obtain ⟨x, r', rfl, h1, h2⟩ := h
    exact h2
  | d0 :: ds, vs, n + 1, h => by
    obtain ⟨x, r', rfl, h1, h2⟩ := h
    exact ⟨x, r'.eraseIdx n, rfl, h1, RelL.eraseIdx n h2⟩

/-! ### worlds -/
def CellOk (F : Fm) (H : Hp) (a : Addr) : Cell → Prop
  | .lst ds => ∃ xs, H a = some (.lst xs) ∧ RelL F ds xs
  | .dik ks ds => ∃ xs, ks.length = ds.length ∧ H a = some (.dK (ks.zip xs)) ∧ RelL F ds xs
  | .dit ks ds => ∃ xs, ks.length = ds.length ∧ H a = some (.dT (ks.zip xs)) ∧ RelL F ds xs
  | .ins C fs => ∃ dx xs, H a = some (.ins (He.ga F.K C) dx ((fs.map (·.1)).zip xs)) ∧ RelL F (fs.map (·.2)) xs
  | .frz d => Rel F d (.ref a)
  | .lok ks ds => ∃ o xs, ks.length = ds.length ∧ F.P a = some (.frz o (.dK (ks.zip xs))) ∧ RelL F ds xs
  | .gone => True
/-- what is locked stays locked -/
def PF (F F' : Fm) : Prop := ∀ a o u, F.P a = some (.frz o u) → F'.P a = some (.frz o u)
theorem Le.pf {F F' : Fm} (h : Le F F') : PF F F' := fun a o u e => by rw [h.p]; exact e
structure Rep (F : Fm) (S : Sto) (H : Hp) : Prop where
  g : Same F.G H
  b : Same F.B H
  p : Same F.P H
  tup : ∀ a xs, H a = some (.tup xs) → F.G a = some (.tup xs)
  len : F.lm.length = S.length
  cell : ∀ (n : Nat) (c : Cell) (a : Addr), S[n]? = some c → F.lm[n]? = some a → CellOk F H a c ∧ (c.live = true → F.G a = none ∧ F.free a)
  inj : ∀ (n m : Nat) (c c' : Cell) (a : Addr), S[n]? = some c → S[m]? = some c' → c.live = true → c'.live = true → F.lm[n]? = some a → F.lm[m]? = some a → n = m

theorem CellOk.wk {F F' : Fm} (w : Wk F F') (pf : PF F F') {H H' : Hp} {a : Addr} : ∀ {c : Cell}, CellOk F H a c → (c.live = true → H' a = H a) → CellOk F' H' a c
  | .lst ds, ⟨xs, e, r⟩, h => ⟨xs, (h rfl).trans e, RelL.wk w _ _ r⟩
  | .dik ks ds, ⟨xs, z, e, r⟩, h => ⟨xs, z, (h rfl).trans e, RelL.wk w _ _ r⟩
  | .dit ks ds, ⟨xs, z, e, r⟩, h => ⟨xs, z, (h rfl).trans e, RelL.wk w _ _ r⟩
  | .ins C fs, ⟨dx, xs, e, r⟩, h => ⟨dx, xs, by rw [w.k]; exact (h rfl).trans e, RelL.wk w _ _ r⟩
  | .frz d, r, _ => Rel.wk w _ _ r
  | .lok ks ds, ⟨o, xs, z, e, r⟩, _ => ⟨o, xs, z, pf _ _ _ e, RelL.wk w _ _ r⟩
  | .gone, _, _ => trivial
theorem CellOk.some {F : Fm} {H : Hp} {a : Addr} : ∀ {c : Cell}, CellOk F H a c → c.live = true → ∃ o, H a = some o ∧ ∀ xs, o ≠ .tup xs
  | .lst ds, ⟨xs, e, r⟩, _ => ⟨_, e, fun _ q => nomatch q⟩
  | .dik ks ds, ⟨xs, z, e, r⟩, _ => ⟨_, e, fun _ q => nomatch q⟩
  | .dit ks ds, ⟨xs, z, e, r⟩, _ => ⟨_, e, fun _ q => nomatch q⟩
  | .ins C fs, ⟨dx, xs, e, r⟩, _ => ⟨_, e, fun _ q => nomatch q⟩
  | .frz d, r, h => nomatch h
  | .lok _ _, r, h => nomatch h
  | .gone, _, h => nomatch h
theorem Rep.at {F : Fm} {S : Sto} {H : Hp} (R : Rep F S H) {n : Nat} {c : Cell} (h : S[n]? = some c) : ∃ a, F.lm[n]? = some a ∧ CellOk F H a c ∧ (c.live = true → F.G a = none ∧ F.free a) := by
  have h1 := (List.getElem?_eq_some_iff.mp h).1
  have e : F.lm[n]? = some (F.lm[n]'(by rw [R.len]; exact h1)) := List.getElem?_eq_getElem _
  exact ⟨_, e, R.cell n c _ h e⟩
theorem same_new {H : Hp} {p : Addr} {o : HO} (h : H p = none) : Same H (upd H p o) := fun a u e => by
  rw [upd_ne (ne_of_none e h)]
  exact e
theorem same_mono {G H : Hp} (s : Same G H) {p : Addr} {o : HO} (h : G p = none) : Same G (upd H p o) := fun a u e => by
  rw [upd_ne (ne_of_none e h)]
  exact s _ _ e
theorem Same.none {G H : Hp} (s : Same G H) {p : Addr} (h : H p = none) : G p = none := s.free h

/-- a new frozen object -/
abbrev Fm.add (F : Fm) (p : Addr) (o : HO) : Fm := { F with G := upd F.G p o }
theorem Fm.add_le {F : Fm} {p : Addr} {o : HO} (h : F.G p = none) (hb : F.free p) : Le F (F.add p o) :=
  ⟨rfl, rfl, rfl, same_new h, fun a u e => by
    by_cases q : a = p
    · exact .inr (by rw [q]; exact hb)
    · have e2 : upd F.G p o a = some u := e
      rw [upd_ne q] at e2
      exact .inl e2, List.prefix_refl _⟩
theorem Rep.add {F : Fm} {S : Sto} {H : Hp} (R : Rep F S H) {p : Addr} {o : HO} (hp : H p = none) : Rep (F.add p o) S (upd H p o) ∧ Le F (F.add p o) := by
  have gp : F.G p = none := R.g.free hp
  have bp : F.free p := ⟨R.b.free hp, R.p.free hp⟩
  have le := Fm.add_le (F := F) (o := o) gp bp
  refine ⟨⟨fun a u e => ?_, same_mono R.b bp.1, same_mono R.p bp.2, fun a xs e => ?_, R.len, fun n c a h e => ?_, R.inj⟩, le⟩
  · by_cases q : a = p
    · subst q
      have e2 : upd F.G a o a = some u := e
      rw [upd_same] at e2 ⊢
      exact e2
    · have e2 : upd F.G p o a = some u := e
      rw [upd_ne q] at e2 ⊢
      exact R.g _ _ e2
  · show upd F.G p o a = _
    by_cases q : a = p
    · subst q
      rw [upd_same] at e ⊢
      exact e
    · rw [upd_ne q] at e ⊢
      exact R.tup _ _ e
  · obtain ⟨k1, k2⟩ := R.cell n c a h e
    refine ⟨k1.wk le.wk le.pf fun hl => ?_, fun hl => ?_⟩
    · obtain ⟨o', e', _⟩ := k1.some hl
      exact upd_ne (ne_of_none e' hp)
    · obtain ⟨o', e', _⟩ := k1.some hl
      refine ⟨?_, (k2 hl).2⟩
      show upd F.G p o a = none
      rw [upd_ne (ne_of_none e' hp)]
      exact (k2 hl).1
/-- a new object beside all this -/
theorem Rep.beside {F : Fm} {S : Sto} {H : Hp} (R : Rep F S H) {p : Addr} {o : HO} (hp : H p = none) (ht : ∀ xs, o ≠ .tup xs) : Rep F S (upd H p o) := by
  have gp : F.G p = none := R.g.free hp
  have bp : F.B p = none := R.b.free hp
  refine ⟨same_mono R.g gp, same_mono R.b bp, same_mono R.p (R.p.free hp), fun a xs e => ?_, R.len, fun n c a h e => ?_, R.inj⟩
  · by_cases q : a = p
    · subst q
      rw [upd_same] at e
      exact absurd (Option.some.inj e) (ht xs)
    · rw [upd_ne q] at e
      exact R.tup _ _ e
  · obtain ⟨k1, k2⟩ := R.cell n c a h e
    refine ⟨k1.wk (Le.refl F).wk (Le.refl F).pf fun hl => ?_, k2⟩
    obtain ⟨o', e', _⟩ := k1.some hl
    exact upd_ne (ne_of_none e' hp)
/-- a new cell for an object that is beside all this -/
abbrev Fm.cell (F : Fm) (p : Addr) : Fm := { F with lm := F.lm ++ [p] }
theorem Fm.cell_le (F : Fm) (p : Addr) : Le F (F.cell p) := ⟨rfl, rfl, rfl, Same.refl _, fun _ _ h => .inl h, List.prefix_append _ _⟩
theorem get_snoc {α : Type} {l : List α} {x y : α} {n : Nat} (h : (l ++ [x])[n]? = some y) : l[n]? = some y ∨ (n = l.length ∧ y = x) := by
  by_cases q : n < l.length
  · rw [List.getElem?_append_left q] at h
    exact .inl h
  · rw [List.getElem?_append_right (by omega)] at h
    by_cases q2 : n - l.length = 0
    · rw [q2] at h
      exact .inr ⟨by omega, (Option.some.inj h).symm⟩
    · rw [List.getElem?_eq_none (by simp; omega)] at h
      cases h
theorem Rep.cell_new {F : Fm} {S : Sto} {H : Hp} (R : Rep F S H) {p : Addr} {c : Cell} (hc : CellOk (F.cell p) H p c) (gp : F.G p = none) (bp : F.free p)
    (hn : ∀ (n : Nat) (c : Cell), S[n]? = some c → c.live = true → F.lm[n]? ≠ some p) : Rep (F.cell p) (S ++ [c]) H := by
  refine ⟨R.g, R.b, R.p, R.tup, by simp [R.len], fun n c' a h e => ?_, fun n m c1 c2 a h1 h2 l1 l2 e1 e2 => ?_⟩
  · rcases get_snoc h with h | ⟨hn2, hh⟩
    · have hlt := (List.getElem?_eq_some_iff.mp h).1
      have e' : F.lm[n]? = some a := by
        have e0 : (F.lm ++ [p])[n]? = some a := e
        rw [List.getElem?_append_left (by rw [R.len]; exact hlt)] at e0
        exact e0
      obtain ⟨k1, k2⟩ := R.cell n c' a h e'
      exact ⟨k1.wk (F.cell_le p).wk (F.cell_le p).pf fun _ => rfl, k2⟩
    · subst hh
      have e0 : (F.lm ++ [p])[n]? = some a := e
      rw [hn2, ← R.len] at e0
      simp at e0
      subst e0
      exact ⟨hc, fun _ => ⟨gp, bp⟩⟩
  · have r1 : ∀ {n : Nat} {c : Cell}, (S ++ [c])[n]? = some c → True := fun _ => trivial
    have e1' : (F.lm ++ [p])[n]? = some a := e1
    have e2' : (F.lm ++ [p])[m]? = some a := e2
    have old : ∀ {n : Nat} {c' : Cell}, S[n]? = some c' → (F.lm ++ [p])[n]? = some a → F.lm[n]? = some a := fun {n c'} h e0 => by
      rw [List.getElem?_append_left (by rw [R.len]; exact (List.getElem?_eq_some_iff.mp h).1)] at e0
      exact e0
    have new : ∀ {n : Nat}, n = S.length → (F.lm ++ [p])[n]? = some a → a = p := fun {n} h e0 => by
      rw [h, ← R.len] at e0
      simp at e0
      exact e0.symm
    rcases get_snoc h1 with h1 | ⟨h1, hh1⟩
    · rcases get_snoc h2 with h2 | ⟨h2, hh2⟩
      · exact R.inj n m c1 c2 a h1 h2 l1 l2 (old h1 e1') (old h2 e2')
      · have := new h2 e2'
        subst this
        exact absurd (old h1 e1') (hn n c1 h1 l1)
    · rcases get_snoc h2 with h2 | ⟨h2, hh2⟩
      · have := new h1 e1'
        subst this
        exact absurd (old h2 e2') (hn m c2 h2 l2)
      · rw [h1, h2]
theorem Rep.noCell {F : Fm} {S : Sto} {H : Hp} (R : Rep F S H) {p : Addr} (hp : H p = none) : ∀ (n : Nat) (c : Cell), S[n]? = some c → c.live = true → F.lm[n]? ≠ some p := fun n c h l e => by
  obtain ⟨k1, _⟩ := R.cell n c p h e
  obtain ⟨o, e', _⟩ := k1.some l
  rw [hp] at e'
  cases e'
theorem Rep.alloc {F : Fm} {S : Sto} {H : Hp} (R : Rep F S H) {p : Addr} {o : HO} {c : Cell} (hp : H p = none) (ht : ∀ xs, o ≠ .tup xs) (hc : CellOk (F.cell p) (upd H p o) p c) : Rep (F.cell p) (S ++ [c]) (upd H p o) :=
  (R.beside hp ht).cell_new hc (R.g.free hp) ⟨R.b.free hp, R.p.free hp⟩ (R.noCell hp)
/-- a live cell is written -/
theorem Rep.write {F : Fm} {S : Sto} {H : Hp} (R : Rep F S H) {n : Nat} {c c' : Cell} {a : Addr} {o : HO} (h : S[n]? = some c) (l : c.live = true) (e : F.lm[n]? = some a) (ht : ∀ xs, o ≠ .tup xs) (l' : c'.live = true)
    (hc : CellOk F (upd H a o) a c') : Rep F (S.set n c') (upd H a o) := by
  obtain ⟨k1, k2⟩ := R.cell n c a h e
  obtain ⟨ga, ba⟩ := k2 l
  obtain ⟨o0, e0, t0⟩ := k1.some l
  have hlt := (List.getElem?_eq_some_iff.mp h).1
  refine ⟨same_mono R.g ga, same_mono R.b ba.1, same_mono R.p ba.2, fun b xs q => ?_, by simp [R.len], fun m cm b hm em => ?_, fun m1 m2 c1 c2 b h1 h2 l1 l2 e1 e2 => ?_⟩
  · by_cases z : b = a
    · subst z
      rw [upd_same] at q
      exact absurd (Option.some.inj q) (ht xs)
    · rw [upd_ne z] at q
      exact R.tup _ _ q
  · by_cases z : m = n
    · subst z
      rw [List.getElem?_set_self hlt] at hm
      cases hm
      rw [e] at em
      cases em
      exact ⟨hc, fun _ => ⟨ga, ba⟩⟩
    · rw [List.getElem?_set_ne (fun q => z q.symm)] at hm
      obtain ⟨j1, j2⟩ := R.cell m cm b hm em
      refine ⟨j1.wk (Le.refl F).wk (Le.refl F).pf fun lm => ?_, j2⟩
      refine upd_ne fun q => ?_
      subst q
      exact z (R.inj m n cm c b hm h lm l em e)
  · have old : ∀ {m : Nat} {cm : Cell}, (S.set n c')[m]? = some cm → cm.live = true → ∃ cm', S[m]? = some cm' ∧ cm'.live = true := fun {m cm} hm lm => by
      by_cases z : m = n
      · subst z
        exact ⟨c, h, l⟩
      · rw [List.getElem?_set_ne (fun q => z q.symm)] at hm
        exact ⟨cm, hm, lm⟩
    obtain ⟨d1, x1, y1⟩ := old h1 l1
    obtain ⟨d2, x2, y2⟩ := old h2 l2
    exact R.inj m1 m2 d1 d2 b x1 x2 y1 y2 e1 e2
/-- a cell that dies -/
theorem Rep.kill {F : Fm} {S : Sto} {H : Hp} (R : Rep F S H) {n : Nat} {c' : Cell} (l' : c'.live = false) (hc : ∀ a, F.lm[n]? = some a → CellOk F H a c') : Rep F (S.set n c') H := by
  refine ⟨R.g, R.b, R.p, R.tup, by simp [R.len], fun m cm b hm em => ?_, fun m1 m2 c1 c2 b h1 h2 l1 l2 e1 e2 => ?_⟩
  · by_cases z : m = n
    · subst z
      have hlt := (List.getElem?_eq_some_iff.mp hm).1
      rw [List.length_set] at hlt
      rw [List.getElem?_set_self hlt] at hm
      cases hm
      exact ⟨hc b em, fun q => by rw [l'] at q; cases q⟩
    · rw [List.getElem?_set_ne (fun q => z q.symm)] at hm
      exact R.cell m cm b hm em
  · have old : ∀ {m : Nat} {cm : Cell}, (S.set n c')[m]? = some cm → cm.live = true → S[m]? = some cm := fun {m cm} hm lm => by
      by_cases z : m = n
      · subst z
        have hlt := (List.getElem?_eq_some_iff.mp hm).1
        rw [List.length_set] at hlt
        rw [List.getElem?_set_self hlt] at hm
        cases hm
        rw [l'] at lm
        cases lm
      · rw [List.getElem?_set_ne (fun q => z q.symm)] at hm
        exact hm
    exact R.inj m1 m2 c1 c2 b (old h1 l1) (old h2 l2) l1 l2 e1 e2
/-- a live cell is frozen -/
theorem Rep.freeze {F : Fm} {S : Sto} {H : Hp} (R : Rep F S H) {n : Nat} {c : Cell} {a : Addr} {o : HO} {d : DV} (h : S[n]? = some c) (l : c.live = true) (e : F.lm[n]? = some a) (ho : H a = some o)
    (hd : Rel (F.add a o) d (.ref a)) : Rep (F.add a o) (S.set n (.frz d)) H ∧ Le F (F.add a o) := by
  obtain ⟨k1, k2⟩ := R.cell n c a h e
  obtain ⟨ga, ba⟩ := k2 l
  have le := Fm.add_le (F := F) (o := o) ga ba
  have hlt := (List.getElem?_eq_some_iff.mp h).1
  refine ⟨⟨fun b u q => ?_, R.b, R.p, fun b xs q => ?_, by simp [R.len], fun m cm b hm em => ?_, fun m1 m2 c1 c2 b h1 h2 l1 l2 e1 e2 => ?_⟩, le⟩
  · by_cases z : b = a
    · subst z
      have q2 : upd F.G b o b = some u := q
      rw [upd_same] at q2
      rw [ho]
      exact q2
    · have q2 : upd F.G a o b = some u := q
      rw [upd_ne z] at q2
      exact R.g _ _ q2
  · show upd F.G a o b = _
    by_cases z : b = a
    · subst z
      rw [upd_same, ← ho]
      exact q
    · rw [upd_ne z]
      exact R.tup _ _ q
  · by_cases z : m = n
    · subst z
      rw [List.getElem?_set_self hlt] at hm
      cases hm
      have em' : F.lm[m]? = some b := em
      rw [e] at em'
      cases em'
      exact ⟨hd, fun q => nomatch q⟩
    · rw [List.getElem?_set_ne (fun q => z q.symm)] at hm
      obtain ⟨j1, j2⟩ := R.cell m cm b hm em
      refine ⟨j1.wk le.wk le.pf fun _ => rfl, fun lm => ⟨?_, (j2 lm).2⟩⟩
      show upd F.G a o b = none
      rw [upd_ne fun q => z (R.inj m n cm c a hm h lm l (by rw [← q]; exact em) e)]
      exact (j2 lm).1
  · have old : ∀ {m : Nat} {cm : Cell}, (S.set n (.frz d))[m]? = some cm → cm.live = true → S[m]? = some cm := fun {m cm} hm lm => by
      by_cases z : m = n
      · subst z
        rw [List.getElem?_set_self hlt] at hm
        cases hm
        cases lm
      · rw [List.getElem?_set_ne (fun q => z q.symm)] at hm
        exact hm
    exact R.inj m1 m2 c1 c2 b (old h1 l1) (old h2 l2) l1 l2 e1 e2
end Dn

namespace Dn
open PySem L2

/-! ### readings by denotations -/
abbrev Ev := List (Option DV)
abbrev DE := Ev → Sto → Option (DV × Sto)
abbrev DA := Ev → Sto → Option (List DV × Sto)
abbrev DG := DV → Ev → Sto → Option (Ev × Sto)
inductive Out where
  | nx (ρ : Ev) (S : Sto)
  | rt (d : DV) (S : Sto)
  | bk (ρ : Ev) (S : Sto)
  | ct (ρ : Ev) (S : Sto)
def Out.S : Out → Sto
  | .nx _ S => S
  | .rt _ S => S
  | .bk _ S => S
  | .ct _ S => S
abbrev DS := Ev → Sto → Option Out
structure RelE (F : Fm) (ρ : Ev) (σ : St) : Prop where
  len : ρ.length = σ.length
  at_ : ∀ (i : Nat) (d : DV), ρ[i]? = some (some d) → ∃ v, σ[i]? = some (some v) ∧ Rel F d v
theorem RelE.wk {F F' : Fm} (w : Wk F F') {ρ : Ev} {σ : St} (r : RelE F ρ σ) : RelE F' ρ σ := ⟨r.len, fun i d e => by
  obtain ⟨v, h1, h2⟩ := r.at_ i d e
  exact ⟨v, h1, Rel.wk w _ _ h2⟩⟩
theorem RelE.le {F F' : Fm} (w : Le F F') {ρ : Ev} {σ : St} (r : RelE F ρ σ) : RelE F' ρ σ := r.wk w.wk
theorem RelE.set {F : Fm} {ρ : Ev} {σ : St} (r : RelE F ρ σ) (i : Nat) {d : DV} {v : V} (h : Rel F d v) : RelE F (ρ.set i (some d)) (σ.set i (some v)) := by
  refine ⟨by simp [r.len], fun j e hj => ?_⟩
  by_cases q : j = i
  · subst q
    have hlt := (List.getElem?_eq_some_iff.mp hj).1
    rw [List.length_set] at hlt
    rw [List.getElem?_set_self hlt] at hj
    cases hj
    exact ⟨v, List.getElem?_set_self (by rw [← r.len]; exact hlt), h⟩
  · rw [List.getElem?_set_ne (fun z => q z.symm)] at hj
    rw [List.getElem?_set_ne (fun z => q z.symm)]
    exact r.at_ j e hj
theorem RelE.unset {F : Fm} {ρ : Ev} {σ : St} (r : RelE F ρ σ) (i : Nat) : RelE F (ρ.set i none) σ := by
  refine ⟨by simp [r.len], fun j e hj => ?_⟩
  by_cases q : j = i
  · subst q
    have hlt := (List.getElem?_eq_some_iff.mp hj).1
    rw [List.length_set] at hlt
    rw [List.getElem?_set_self hlt] at hj
    cases hj
  · rw [List.getElem?_set_ne (fun z => q z.symm)] at hj
    exact r.at_ j e hj

def PostE (F : Fm) (S : Sto) (d : DV) (Q : VK) : Prop := ∀ F' H' v, Le F F' → Rep F' S H' → Rel F' d v → Q v H'
def PostT (F : Fm) (S : Sto) (b : Bool) (Q : Bool → Hp → Prop) : Prop := ∀ F' H', Le F F' → Rep F' S H' → Q b H'
def PostA (F : Fm) (S : Sto) (ds : List DV) (Q : List V → Hp → Prop) : Prop := ∀ F' H' vs, Le F F' → Rep F' S H' → RelL F' ds vs → Q vs H'
def PostO (F : Fm) (D : Ends) (H : Hp) : Out → Prop
  | .nx ρ _ => ∀ σ, RelE F ρ σ → D.nx σ H
  | .rt d _ => ∀ v, Rel F d v → D.rt v H
  | .bk ρ _ => ∀ σ, RelE F ρ σ → D.bk σ H
  | .ct ρ _ => ∀ σ, RelE F ρ σ → D.ct σ H
def PostS (F : Fm) (o : Out) (D : Ends) : Prop := ∀ F' H', Le F F' → Rep F' o.S H' → PostO F' D H' o
theorem PostE.le {F F' : Fm} {S : Sto} {d : DV} {Q : VK} (h : PostE F S d Q) (w : Le F F') : PostE F' S d Q := fun F2 H2 v w2 => h F2 H2 v (w.trans w2)
theorem PostS.le {F F' : Fm} {o : Out} {D : Ends} (h : PostS F o D) (w : Le F F') : PostS F' o D := fun F2 H2 w2 => h F2 H2 (w.trans w2)
def rdE (K : PySem.W.Frag) (f : DE) : TE := fun σ H Q => ∃ F S ρ d S', F.K = K ∧ Rep F S H ∧ RelE F ρ σ ∧ f ρ S = some (d, S') ∧ PostE F S' d Q
def rdT (K : PySem.W.Frag) (f : DE) : TT := fun σ H Q => ∃ F S ρ b S', F.K = K ∧ Rep F S H ∧ RelE F ρ σ ∧ f ρ S = some (.bl b, S') ∧ PostT F S' b Q
def rdA (K : PySem.W.Frag) (f : DA) : TA := fun σ H Q => ∃ F S ρ ds S', F.K = K ∧ Rep F S H ∧ RelE F ρ σ ∧ f ρ S = some (ds, S') ∧ PostA F S' ds Q
def rdS (K : PySem.W.Frag) (f : DS) : TS := fun D σ H => ∃ F S ρ o, F.K = K ∧ Rep F S H ∧ RelE F ρ σ ∧ f ρ S = some o ∧ PostS F o D
def rdG (K : PySem.W.Frag) (g : DG) : TG := fun v σ H Q => ∃ F S ρ d ρ' S', F.K = K ∧ Rep F S H ∧ RelE F ρ σ ∧ Rel F d v ∧ g d ρ S = some (ρ', S') ∧ ∀ F' H' σ', Le F F' → Rep F' S' H' → RelE F' ρ' σ' → Q σ' H'
structure ED (X : Cx) (e : Expr) (f : DE) : Prop where
  pe : PE X e (rdE X.K f)
structure TD (X : Cx) (e : Expr) (f : DE) : Prop where
  pt : PT X e (rdT X.K f)
structure TDW (X : Cx) (e : Expr) (f : DE) : Prop where
  pw : PW X e (rdT X.K f)
structure AD (X : Cx) (es : List Expr) (f : DA) : Prop where
  pa : PA X es (rdA X.K f)
structure SD (X : Cx) (st : Stmt) (f : DS) : Prop where
  ps : PS X st (rdS X.K f)
structure SDs (X : Cx) (st : List Stmt) (f : DS) : Prop where
  ps : PSs X st (rdS X.K f)
structure GD (X : Cx) (e : Expr) (g : DG) : Prop where
  pg : PG X e (rdG X.K g)
section
variable {X : Cx} {e : Expr}
theorem ED.of {t : TE} {f : DE} (h : PE X e t) (m : ∀ F S H ρ σ d S' Q, F.K = X.K → Rep F S H → RelE F ρ σ → f ρ S = some (d, S') → PostE F S' d Q → t σ H Q) : ED X e f :=
  ⟨⟨fun pins s σ H Q I ⟨F, S, ρ, d, S', hk, R, r, hf, hq⟩ => h.run pins s σ H Q I (m F S H ρ σ d S' Q hk R r hf hq)⟩⟩
theorem TD.of {t : TT} {f : DE} (h : PT X e t) (m : ∀ F S H ρ σ b S' Q, F.K = X.K → Rep F S H → RelE F ρ σ → f ρ S = some (.bl b, S') → PostT F S' b Q → t σ H Q) : TD X e f :=
  ⟨⟨fun pins s σ H Q I ⟨F, S, ρ, d, S', hk, R, r, hf, hq⟩ => h.run pins s σ H Q I (m F S H ρ σ d S' Q hk R r hf hq)⟩⟩
theorem TDW.of {t : TT} {f : DE} (h : PW X e t) (m : ∀ F S H ρ σ b S' Q, F.K = X.K → Rep F S H → RelE F ρ σ → f ρ S = some (.bl b, S') → PostT F S' b Q → t σ H Q) : TDW X e f :=
  ⟨⟨fun whole pins s σ H Q I ⟨F, S, ρ, d, S', hk, R, r, hf, hq⟩ => h.run whole pins s σ H Q I (m F S H ρ σ d S' Q hk R r hf hq)⟩⟩
theorem AD.of {es : List Expr} {t : TA} {f : DA} (h : PA X es t) (m : ∀ F S H ρ σ d S' Q, F.K = X.K → Rep F S H → RelE F ρ σ → f ρ S = some (d, S') → PostA F S' d Q → t σ H Q) : AD X es f :=
  ⟨⟨fun pos pins s σ H Q I ⟨F, S, ρ, d, S', hk, R, r, hf, hq⟩ => h.run pos pins s σ H Q I (m F S H ρ σ d S' Q hk R r hf hq)⟩⟩
theorem SD.of {st : Stmt} {t : TS} {f : DS} (h : PS X st t) (m : ∀ F S H ρ σ o D, F.K = X.K → Rep F S H → RelE F ρ σ → f ρ S = some o → PostS F o D → t D σ H) : SD X st f :=
  ⟨⟨fun pins s σ H D I ⟨F, S, ρ, o, hk, R, r, hf, hq⟩ => h.run pins s σ H D I (m F S H ρ σ o D hk R r hf hq)⟩⟩
theorem SDs.of {st : List Stmt} {t : TS} {f : DS} (h : PSs X st t) (m : ∀ F S H ρ σ o D, F.K = X.K → Rep F S H → RelE F ρ σ → f ρ S = some o → PostS F o D → t D σ H) : SDs X st f :=
  ⟨⟨fun pins s σ H D I ⟨F, S, ρ, o, hk, R, r, hf, hq⟩ => h.run pins s σ H D I (m F S H ρ σ o D hk R r hf hq)⟩⟩
theorem GD.of {t : TG} {g : DG} (h : PG X e t) (m : ∀ F S H ρ σ d v ρ' S' Q, F.K = X.K → Rep F S H → RelE F ρ σ → Rel F d v → g d ρ S = some (ρ', S') → (∀ F' H' σ', Le F F' → Rep F' S' H' → RelE F' ρ' σ' → Q σ' H') → t v σ H Q) : GD X e g :=
  ⟨⟨fun pins s σ H v u Q I rv ⟨F, S, ρ, d, ρ', S', hk, R, r, rd, hf, hq⟩ => h.run pins s σ H v u Q I rv (m F S H ρ σ d v ρ' S' Q hk R r rd hf hq)⟩⟩
end
section
variable {K : PySem.W.Frag} {F : Fm} {S S' S1 : Sto} {H : Hp} {ρ : Ev} {σ : St} {d : DV} {Q : VK}
/-- a part is run: what is behind it -/
theorem rdE.go {f : DE} (hk : F.K = K) (R : Rep F S H) (r : RelE F ρ σ) (hf : f ρ S = some (d, S1)) (k : ∀ F' H' v, Le F F' → F'.K = K → Rep F' S1 H' → RelE F' ρ σ → Rel F' d v → Q v H') : rdE K f σ H Q :=
  ⟨F, S, ρ, d, S1, hk, R, r, hf, fun F' H' v le R' r' => k F' H' v le (le.k.trans hk) R' (r.le le) r'⟩
theorem rdT.go {f : DE} {b : Bool} {Q : Bool → Hp → Prop} (hk : F.K = K) (R : Rep F S H) (r : RelE F ρ σ) (hf : f ρ S = some (.bl b, S1)) (k : ∀ F' H', Le F F' → F'.K = K → Rep F' S1 H' → RelE F' ρ σ → Q b H') : rdT K f σ H Q :=
  ⟨F, S, ρ, b, S1, hk, R, r, hf, fun F' H' le R' => k F' H' le (le.k.trans hk) R' (r.le le)⟩
theorem rdA.go {f : DA} {ds : List DV} {Q : List V → Hp → Prop} (hk : F.K = K) (R : Rep F S H) (r : RelE F ρ σ) (hf : f ρ S = some (ds, S1)) (k : ∀ F' H' vs, Le F F' → F'.K = K → Rep F' S1 H' → RelE F' ρ σ → RelL F' ds vs → Q vs H') : rdA K f σ H Q :=
  ⟨F, S, ρ, ds, S1, hk, R, r, hf, fun F' H' v le R' r' => k F' H' v le (le.k.trans hk) R' (r.le le) r'⟩
end

/-! ### names, constants -/
section
variable {X : Cx} {e a b : Expr} {pos : Pos}
def dVar (i : Nat) : DE := fun ρ S => match ρ[i]? with
  | some (some d) => some (d, S)
  | _ => none
theorem dVar_some {i : Nat} {ρ : Ev} {S : Sto} {d : DV} {S' : Sto} (h : dVar i ρ S = some (d, S')) : ρ[i]? = some (some d) ∧ S' = S := by
  unfold dVar at h
  split at h
  · rename_i d' e
    cases h
    exact ⟨e, rfl⟩
  · cases h
theorem ed_var {i : Nat} (h : PE X e (tVar i)) : ED X e (dVar i) := .of h fun F S H ρ σ d S' Q hk R r hf hq => by
  obtain ⟨h1, rfl⟩ := dVar_some hf
  obtain ⟨v, e1, e2⟩ := r.at_ i d h1
  exact ⟨v, e1, hq F H v (.refl F) R e2⟩
def dC (d : DV) : DE := fun _ S => some (d, S)
theorem ed_c {d : DV} {v : V} (h : PE X e (tC v)) (hr : ∀ F : Fm, Rel F d v) : ED X e (dC d) := .of h fun F S H ρ σ d' S' Q hk R r hf hq => by
  have e : some (d, S) = some (d', S') := hf
  cases e
  exact hq F H v (.refl F) R (hr F)
theorem ed_int {i : Int} {j : Nat} : ED X (.Constant (.int i) j pos) (dC (.int i)) := ed_c pe_int fun _ => rfl
theorem ed_bl {i : Bool} {j : Nat} : ED X (.Constant (.bool i) j pos) (dC (.bl i)) := ed_c pe_bl fun _ => rfl
theorem ed_non {j : Nat} : ED X (.Constant .none j pos) (dC .non) := ed_c pe_non fun _ => rfl
theorem ed_str {i : Str} {j : Nat} : ED X (.Constant (.str i) j pos) (dC (.str i)) := ed_c pe_str fun _ => rfl

/-! ### operators -/
abbrev P1 := DV → Sto → Option (DV × Sto)
abbrev P2 := DV → DV → Sto → Option (DV × Sto)
abbrev PL := List DV → Sto → Option (DV × Sto)
def dUn (p : P1) (f : DE) : DE := fun ρ S => match f ρ S with
  | some (x, S1) => p x S1
  | none => none
def dBin (p : P2) (f g : DE) : DE := fun ρ S => match f ρ S with
  | some (x, S1) => (match g ρ S1 with
    | some (y, S2) => p x y S2
    | none => none)
  | none => none
def Ok1 (K : PySem.W.Frag) (p : P1) (r : V → Hp → VK → Prop) : Prop := ∀ F S H x vx d S' Q, F.K = K → Rep F S H → Rel F x vx → p x S = some (d, S') → PostE F S' d Q → r vx H Q
def Ok2 (K : PySem.W.Frag) (p : P2) (r : R2) : Prop := ∀ F S H x y vx vy d S' Q, F.K = K → Rep F S H → Rel F x vx → Rel F y vy → p x y S = some (d, S') → PostE F S' d Q → r vx vy H Q
def OkL (K : PySem.W.Frag) (p : PL) (r : List V → Hp → VK → Prop) : Prop := ∀ F S H xs vs d S' Q, F.K = K → Rep F S H → RelL F xs vs → p xs S = some (d, S') → PostE F S' d Q → r vs H Q
theorem dUn_some {p : P1} {f : DE} {ρ : Ev} {S : Sto} {z : DV × Sto} (h : dUn p f ρ S = some z) : ∃ x S1, f ρ S = some (x, S1) ∧ p x S1 = some z := by
  unfold dUn at h
  split at h
  · exact ⟨_, _, by assumption, h⟩
  · cases h
theorem dBin_some {p : P2} {f g : DE} {ρ : Ev} {S : Sto} {z : DV × Sto} (h : dBin p f g ρ S = some z) : ∃ x S1 y S2, f ρ S = some (x, S1) ∧ g ρ S1 = some (y, S2) ∧ p x y S2 = some z := by
  unfold dBin at h
  split at h
  · split at h
    · exact ⟨_, _, _, _, by assumption, by assumption, h⟩
    · cases h
  · cases h
theorem un_go {p : P1} {f : DE} {r : V → Hp → VK → Prop} (hp : Ok1 X.K p r) {F : Fm} {S S' : Sto} {H : Hp} {ρ : Ev} {σ : St} {d : DV} {Q : VK} (hk : F.K = X.K) (R : Rep F S H) (rr : RelE F ρ σ) (hf : dUn p f ρ S = some (d, S')) (hq : PostE F S' d Q) : tUn r (rdE X.K f) σ H Q := by
  obtain ⟨x, S1, h1, h2⟩ := dUn_some hf
  exact rdE.go hk R rr h1 fun F1 H1 v le hk1 R1 r1 rx => hp F1 S1 H1 x v d S' Q hk1 R1 rx h2 (hq.le le)
theorem bin_go {p : P2} {f g : DE} {r : R2} (hp : Ok2 X.K p r) {F : Fm} {S S' : Sto} {H : Hp} {ρ : Ev} {σ : St} {d : DV} {Q : VK} (hk : F.K = X.K) (R : Rep F S H) (rr : RelE F ρ σ) (hf : dBin p f g ρ S = some (d, S')) (hq : PostE F S' d Q) : tOp r (rdE X.K f) (rdE X.K g) σ H Q := by
  obtain ⟨x, S1, y, S2, h1, h2, h3⟩ := dBin_some hf
  exact rdE.go hk R rr h1 fun F1 H1 v le hk1 R1 r1 rx => rdE.go hk1 R1 r1 h2 fun F2 H2 u le2 hk2 R2 r2 ry => hp F2 S2 H2 x y v u d S' Q hk2 R2 (rx.le le2) ry h3 (hq.le (le.trans le2))
theorem ed_bin {op : Operator} {r : R2} {p : P2} {f g : DE} (ho : OpR X (binaryOp op) r) (hp : Ok2 X.K p r) (ha : ED X a f) (hb : ED X b g) : ED X (.BinOp a op b pos) (dBin p f g) :=
  .of (pe_op ho ha.pe hb.pe) fun F S H ρ σ d S' Q hk R rr hf hq => bin_go hp hk R rr hf hq
theorem ed_un {op : UnaryOp} {r : V → Hp → VK → Prop} {p : P1} {f : DE} (ho : UnR X (unaryOp op) r) (hp : Ok1 X.K p r) (ha : ED X a f) : ED X (.UnaryOp op a pos) (dUn p f) :=
  .of (pe_un ho ha.pe) fun F S H ρ σ d S' Q hk R rr hf hq => un_go hp hk R rr hf hq
theorem ed_cmp {op : CmpOp} {r : R2} {p : P2} {f g : DE} (ho : OpR X (compareOp op) r) (hp : Ok2 X.K p r) (ha : ED X a f) (hb : ED X b g) (hm : behindInMarks op b = false) : ED X (.Compare a [op] [b] pos) (dBin p f g) :=
  .of (pe_cmpR ho ha.pe hb.pe hm) fun F S H ρ σ d S' Q hk R rr hf hq => bin_go hp hk R rr hf hq
theorem td_cmp {op : CmpOp} {r : R2} {p : P2} {f g : DE} (ho : OpR X (compareOp op) r) (hp : Ok2 X.K p r) (ha : ED X a f) (hb : ED X b g) (hm : behindInMarks op b = false) : TD X (.Compare a [op] [b] pos) (dBin p f g) :=
  .of (pt_cmpR ho ha.pe hb.pe hm) fun F S H ρ σ d S' Q hk R rr hf hq => bin_go hp hk R rr hf fun F' H' v le R' rv => by
    have e : v = .bl d := rv
    exact ⟨d, e, hq F' H' le R'⟩
/-- a < b < c, b asked once -/
def dChain (p q : P2) (f g h : DE) : DE := fun ρ S => match f ρ S with
  | some (x, S1) => (match g ρ S1 with
    | some (y, S2) => (match p x y S2 with
      | some (.bl true, S3) => (match h ρ S3 with
        | some (z, S4) => q y z S4
        | none => none)
      | some (.bl false, S3) => some (.bl false, S3)
      | _ => none)
    | none => none)
  | none => none

/-! ### and, or, not, if else -/
def dAnd (f g : DE) : DE := fun ρ S => match f ρ S with
  | some (.bl true, S1) => g ρ S1
  | some (.bl false, S1) => some (.bl false, S1)
  | _ => none
def dOr (f g : DE) : DE := fun ρ S => match f ρ S with
  | some (.bl true, S1) => some (.bl true, S1)
  | some (.bl false, S1) => g ρ S1
  | _ => none
def dNot (f : DE) : DE := fun ρ S => match f ρ S with
  | some (.bl c, S1) => some (.bl (!c), S1)
  | _ => none
def dIf (c f g : DE) : DE := fun ρ S => match c ρ S with
  | some (.bl true, S1) => f ρ S1
  | some (.bl false, S1) => g ρ S1
  | _ => none
theorem dAnd_some {f g : DE} {ρ : Ev} {S : Sto} {z : DV × Sto} (h : dAnd f g ρ S = some z) : (∃ S1, f ρ S = some (.bl true, S1) ∧ g ρ S1 = some z) ∨ (∃ S1, f ρ S = some (.bl false, S1) ∧ z = (.bl false, S1)) := by
  unfold dAnd at h
  split at h
  · exact .inl ⟨_, by assumption, h⟩
  · exact .inr ⟨_, by assumption, (Option.some.inj h).symm⟩
  · cases h
theorem dOr_some {f g : DE} {ρ : Ev} {S : Sto} {z : DV × Sto} (h : dOr f g ρ S = some z) : (∃ S1, f ρ S = some (.bl true, S1) ∧ z = (.bl true, S1)) ∨ (∃ S1, f ρ S = some (.bl false, S1) ∧ g ρ S1 = some z) := by
  unfold dOr at h
  split at h
  · exact .inl ⟨_, by assumption, (Option.some.inj h).symm⟩
  · exact .inr ⟨_, by assumption, h⟩
  · cases h
theorem dNot_some {f : DE} {ρ : Ev} {S : Sto} {z : DV × Sto} (h : dNot f ρ S = some z) : ∃ c S1, f ρ S = some (.bl c, S1) ∧ z = (.bl (!c), S1) := by
  unfold dNot at h
  split at h
  · exact ⟨_, _, by assumption, (Option.some.inj h).symm⟩
  · cases h
theorem dIf_some {c f g : DE} {ρ : Ev} {S : Sto} {z : DV × Sto} (h : dIf c f g ρ S = some z) : (∃ S1, c ρ S = some (.bl true, S1) ∧ f ρ S1 = some z) ∨ (∃ S1, c ρ S = some (.bl false, S1) ∧ g ρ S1 = some z) := by
  unfold dIf at h
  split at h
  · exact .inl ⟨_, by assumption, h⟩
  · exact .inr ⟨_, by assumption, h⟩
  · cases h
variable {rest : List Expr} {f g : DE}
theorem td_val (h : ED X e f) (he : ∀ whole, isTrue e X.env whole = (do let v ← whole; standAt e.pos; holding [v] (truthy v)) := by intro _; rfl) : TD X e f :=
  .of (pt_val h.pe he) fun F S H ρ σ b S' Q hk R rr hf hq => rdE.go hk R rr hf fun F' H' v le _ R' _ rv => by
    have e : v = .bl b := rv
    exact ⟨b, e, hq F' H' le R'⟩
theorem TDW.td (h : TDW X e f) : TD X e f := ⟨h.pw.pt⟩
theorem tw_and1 (h : TD X a f) : TDW X (.BoolOp .And [a] pos) f := ⟨pw_and1 h.pt⟩
theorem tw_or1 (h : TD X a f) : TDW X (.BoolOp .Or [a] pos) f := ⟨pw_or1 h.pt⟩
theorem and_go {F : Fm} {S S' : Sto} {H : Hp} {ρ : Ev} {σ : St} {c : Bool} {Q : Bool → Hp → Prop} (hk : F.K = X.K) (R : Rep F S H) (rr : RelE F ρ σ) (hf : dAnd f g ρ S = some (.bl c, S')) (hq : PostT F S' c Q) : tAnd (rdT X.K f) (rdT X.K g) σ H Q := by
  rcases dAnd_some hf with ⟨S1, h1, h2⟩ | ⟨S1, h1, h2⟩
  · refine rdT.go hk R rr h1 fun F1 H1 le hk1 R1 r1 => ?_
    rw [if_pos rfl]
    exact rdT.go hk1 R1 r1 h2 fun F2 H2 le2 hk2 R2 _ => hq F2 H2 (le.trans le2) R2
  · cases h2
    refine rdT.go hk R rr h1 fun F1 H1 le hk1 R1 r1 => ?_
    rw [if_neg Bool.false_ne_true]
    exact hq F1 H1 le R1
theorem or_go {F : Fm} {S S' : Sto} {H : Hp} {ρ : Ev} {σ : St} {c : Bool} {Q : Bool → Hp → Prop} (hk : F.K = X.K) (R : Rep F S H) (rr : RelE F ρ σ) (hf : dOr f g ρ S = some (.bl c, S')) (hq : PostT F S' c Q) : tOr (rdT X.K f) (rdT X.K g) σ H Q := by
  rcases dOr_some hf with ⟨S1, h1, h2⟩ | ⟨S1, h1, h2⟩
  · cases h2
    refine rdT.go hk R rr h1 fun F1 H1 le hk1 R1 r1 => ?_
    rw [if_pos rfl]
    exact hq F1 H1 le R1
  · refine rdT.go hk R rr h1 fun F1 H1 le hk1 R1 r1 => ?_
    rw [if_neg Bool.false_ne_true]
    exact rdT.go hk1 R1 r1 h2 fun F2 H2 le2 hk2 R2 _ => hq F2 H2 (le.trans le2) R2
theorem tw_and (ha : TD X a f) (hb : TDW X (.BoolOp .And (b :: rest) pos) g) : TDW X (.BoolOp .And (a :: b :: rest) pos) (dAnd f g) :=
  .of (pw_and ha.pt hb.pw) fun F S H ρ σ c S' Q hk R rr hf hq => and_go hk R rr hf hq
theorem tw_or (ha : TD X a f) (hb : TDW X (.BoolOp .Or (b :: rest) pos) g) : TDW X (.BoolOp .Or (a :: b :: rest) pos) (dOr f g) :=
  .of (pw_or ha.pt hb.pw) fun F S H ρ σ c S' Q hk R rr hf hq => or_go hk R rr hf hq
theorem td_not (ha : TD X a f) : TD X (.UnaryOp .Not a pos) (dNot f) :=
  .of (pt_not ha.pt) fun F S H ρ σ c S' Q hk R rr hf hq => by
    obtain ⟨c', S1, h1, h2⟩ := dNot_some hf
    cases h2
    exact rdT.go hk R rr h1 fun F1 H1 le hk1 R1 r1 => hq F1 H1 le R1
theorem ed_one {op : BoolOp} (h : ED X a f) : ED X (.BoolOp op [a] pos) f := ⟨pe_one h.pe⟩
theorem ed_and (ha : ED X a f) (hb : ED X (.BoolOp .And (b :: rest) pos) g) : ED X (.BoolOp .And (a :: b :: rest) pos) (dAnd f g) :=
  .of (pe_and ha.pe hb.pe) fun F S H ρ σ d S' Q hk R rr hf hq => by
    rcases dAnd_some hf with ⟨S1, h1, h2⟩ | ⟨S1, h1, h2⟩
    · refine rdE.go hk R rr h1 fun F1 H1 v le hk1 R1 r1 rv => ⟨true, rv, ?_⟩
      rw [if_pos rfl]
      exact rdE.go hk1 R1 r1 h2 fun F2 H2 v le2 hk2 R2 _ rv => hq F2 H2 v (le.trans le2) R2 rv
    · cases h2
      refine rdE.go hk R rr h1 fun F1 H1 v le hk1 R1 r1 rv => ⟨false, rv, ?_⟩
      rw [if_neg Bool.false_ne_true]
      exact hq F1 H1 _ le R1 rfl
theorem ed_or (ha : ED X a f) (hb : ED X (.BoolOp .Or (b :: rest) pos) g) : ED X (.BoolOp .Or (a :: b :: rest) pos) (dOr f g) :=
  .of (pe_or ha.pe hb.pe) fun F S H ρ σ d S' Q hk R rr hf hq => by
    rcases dOr_some hf with ⟨S1, h1, h2⟩ | ⟨S1, h1, h2⟩
    · cases h2
      refine rdE.go hk R rr h1 fun F1 H1 v le hk1 R1 r1 rv => ⟨true, rv, ?_⟩
      rw [if_pos rfl]
      exact hq F1 H1 _ le R1 rfl
    · refine rdE.go hk R rr h1 fun F1 H1 v le hk1 R1 r1 rv => ⟨false, rv, ?_⟩
      rw [if_neg Bool.false_ne_true]
      exact rdE.go hk1 R1 r1 h2 fun F2 H2 v le2 hk2 R2 _ rv => hq F2 H2 v (le.trans le2) R2 rv
theorem ed_not (ha : ED X a f) : ED X (.UnaryOp .Not a pos) (dNot f) :=
  .of (pe_not ha.pe) fun F S H ρ σ d S' Q hk R rr hf hq => by
    obtain ⟨c', S1, h1, h2⟩ := dNot_some hf
    cases h2
    exact rdE.go hk R rr h1 fun F1 H1 v le hk1 R1 r1 rv => ⟨c', rv, hq F1 H1 _ le R1 rfl⟩
theorem ed_if {c : Expr} {h : DE} (hc : TD X c h) (ha : ED X a f) (hb : ED X b g) : ED X (.IfExp c a b pos) (dIf h f g) :=
  .of (pe_ifExp hc.pt ha.pe hb.pe) fun F S H ρ σ d S' Q hk R rr hf hq => by
    rcases dIf_some hf with ⟨S1, h1, h2⟩ | ⟨S1, h1, h2⟩
    · refine rdT.go hk R rr h1 fun F1 H1 le hk1 R1 r1 => ?_
      rw [if_pos rfl]
      exact rdE.go hk1 R1 r1 h2 fun F2 H2 v le2 hk2 R2 _ rv => hq F2 H2 v (le.trans le2) R2 rv
    · refine rdT.go hk R rr h1 fun F1 H1 le hk1 R1 r1 => ?_
      rw [if_neg Bool.false_ne_true]
      exact rdE.go hk1 R1 r1 h2 fun F2 H2 v le2 hk2 R2 _ rv => hq F2 H2 v (le.trans le2) R2 rv
theorem ed_chain {op op' : CmpOp} {r r' : R2} {p q : P2} {c : Expr} {h : DE} (ho : OpR X (compareOp op) r) (hp : Ok2 X.K p r) (ho' : OpR X (compareOp op') r') (hp' : Ok2 X.K q r') (ha : ED X a f) (hb : ED X b g) (hc : ED X c h)
    (hpe : ∀ {ta tb tc : TE}, PE X a ta → PE X b tb → PE X c tc → PE X e (tChain r r' ta tb tc)) : ED X e (dChain p q f g h) :=
  .of (hpe ha.pe hb.pe hc.pe) fun F S H ρ σ d S' Q hk R rr hf hq => by
    unfold dChain at hf
    split at hf
    · rename_i x S1 h1
      split at hf
      · rename_i y S2 h2
        refine rdE.go hk R rr h1 fun F1 H1 v le hk1 R1 r1 rx => rdE.go hk1 R1 r1 h2 fun F2 H2 u le2 hk2 R2 r2 ry => ?_
        split at hf
        · rename_i S3 h3
          refine hp F2 S2 H2 x y v u _ _ _ hk2 R2 (rx.le le2) ry h3 fun F3 H3 z le3 R3 rz => ⟨true, rz, ?_⟩
          rw [if_pos rfl]
          split at hf
          · rename_i z S4 h4
            exact rdE.go (le3.k.trans hk2) R3 (r2.le le3) h4 fun F4 H4 w le4 hk4 R4 r4 rw_ => hp' F4 S4 H4 y z u w d S' Q hk4 R4 (ry.le (le3.trans le4)) rw_ hf (hq.le (((le.trans le2).trans le3).trans le4))
          · cases hf
        · rename_i S3 h3
          cases hf
          refine hp F2 S2 H2 x y v u _ _ _ hk2 R2 (rx.le le2) ry h3 fun F3 H3 z le3 R3 rz => ⟨false, rz, ?_⟩
          rw [if_neg Bool.false_ne_true]
          exact hq F3 H3 _ ((le.trans le2).trans le3) R3 rfl
        · cases hf
      · cases hf
    · cases hf

/-! ### argument lists -/
def aNil : DA := fun _ S => some ([], S)
def aCons (f : DE) (g : DA) : DA := fun ρ S => match f ρ S with
  | some (x, S1) => (match g ρ S1 with
    | some (xs, S2) => some (x :: xs, S2)
    | none => none)
  | none => none
theorem aCons_some {f : DE} {g : DA} {ρ : Ev} {S : Sto} {z : List DV × Sto} (h : aCons f g ρ S = some z) : ∃ x S1 xs S2, f ρ S = some (x, S1) ∧ g ρ S1 = some (xs, S2) ∧ z = (x :: xs, S2) := by
  unfold aCons at h
  split at h
  · split at h
    · exact ⟨_, _, _, _, by assumption, by assumption, (Option.some.inj h).symm⟩
    · cases h
  · cases h
theorem ad_nil : AD X [] aNil := .of pa_nil fun F S H ρ σ d S' Q hk R rr hf hq => by
  cases (show some (([] : List DV), S) = some (d, S') from hf)
  exact hq F H [] (.refl F) R rfl
theorem ad_cons {es : List Expr} {g : DA} (ha : ED X e f) (hr : AD X es g) (hs : starEach (e :: es) X.env = (false, eval e X.env) :: starEach es X.env := by rfl) : AD X (e :: es) (aCons f g) :=
  .of (pa_cons ha.pe hr.pa hs) fun F S H ρ σ d S' Q hk R rr hf hq => by
    obtain ⟨x, S1, xs, S2, h1, h2, h3⟩ := aCons_some hf
    cases h3
    exact rdE.go hk R rr h1 fun F1 H1 v le hk1 R1 r1 rx => rdA.go hk1 R1 r1 h2 fun F2 H2 vs le2 hk2 R2 r2 ry => hq F2 H2 (v :: vs) (le.trans le2) R2 (.cons (rx.le le2) ry)
def dPrim (p : PL) (f : DA) : DE := fun ρ S => match f ρ S with
  | some (xs, S1) => p xs S1
  | none => none
theorem dPrim_some {p : PL} {f : DA} {ρ : Ev} {S : Sto} {z : DV × Sto} (h : dPrim p f ρ S = some z) : ∃ x S1, f ρ S = some (x, S1) ∧ p x S1 = some z := by
  unfold dPrim at h
  split at h
  · exact ⟨_, _, by assumption, h⟩
  · cases h
theorem prim_go {p : PL} {f : DA} {r : List V → Hp → VK → Prop} (hp : OkL X.K p r) {F : Fm} {S S' : Sto} {H : Hp} {ρ : Ev} {σ : St} {d : DV} {Q : VK} (hk : F.K = X.K) (R : Rep F S H) (rr : RelE F ρ σ) (hf : dPrim p f ρ S = some (d, S')) (hq : PostE F S' d Q) : rdA X.K f σ H fun vs H1 => r vs H1 Q := by
  obtain ⟨x, S1, h1, h2⟩ := dPrim_some hf
  exact rdA.go hk R rr h1 fun F1 H1 v le hk1 R1 r1 rx => hp F1 S1 H1 x v d S' Q hk1 R1 rx h2 (hq.le le)
/-- anything that asks an argument list, then r -/
theorem ed_prim {es : List Expr} {r : List V → Hp → VK → Prop} {p : PL} {fa : DA} (hpe : ∀ {t : TA}, PA X es t → PE X e (tCB r t)) (hp : OkL X.K p r) (ha : AD X es fa) : ED X e (dPrim p fa) :=
  .of (hpe ha.pa) fun F S H ρ σ d S' Q hk R rr hf hq => prim_go hp hk R rr hf hq

/-! ### tuples and lists written -/
def pTup : PL := fun xs S => if xs.length ≤ sizeLine then some (.tup xs, S) else none
def pLst : PL := fun xs S => if xs.length ≤ sizeLine then some (.lst .own xs, S) else none
def pLstM : PL := fun xs S => if xs.length ≤ sizeLine then some (.loc S.length, S ++ [.lst xs]) else none
theorem of_ite {α : Type} {c : Prop} [Decidable c] {x : Option α} {z : α} (h : (if c then x else none) = some z) : c ∧ x = some z := by
  split at h
  · exact ⟨by assumption, h⟩
  · cases h
theorem new_tup {F : Fm} {S : Sto} {H : Hp} {Q : VK} {ds : List DV} {vs : List V} (R : Rep F S H) (r : RelL F ds vs) (hq : PostE F S (.tup ds) Q) : ∀ p, H p = none → Q (.ref p) (upd H p (.tup vs)) := fun p hp => by
  obtain ⟨R', le⟩ := R.add (o := .tup vs) hp
  exact hq _ _ _ le R' ⟨p, vs, rfl, upd_same, r.le le⟩
theorem new_lst {F : Fm} {S : Sto} {H : Hp} {Q : VK} {ds : List DV} {vs : List V} (R : Rep F S H) (r : RelL F ds vs) (hq : PostE F S (.lst .own ds) Q) : ∀ p, H p = none → Q (.ref p) (upd H p (.lst vs)) := fun p hp => by
  obtain ⟨R', le⟩ := R.add (o := .lst vs) hp
  exact hq _ _ _ le R' ⟨p, vs, rfl, upd_same, r.le le⟩
theorem get_len {α : Type} (l : List α) (x : α) : (l ++ [x])[l.length]? = some x := by
  rw [List.getElem?_append_right (Nat.le_refl _), Nat.sub_self]
  rfl
theorem new_lstM {F : Fm} {S : Sto} {H : Hp} {Q : VK} {ds : List DV} {vs : List V} (R : Rep F S H) (r : RelL F ds vs) (hq : PostE F (S ++ [.lst ds]) (.loc S.length) Q) : ∀ p, H p = none → Q (.ref p) (upd H p (.lst vs)) := fun p hp => by
  have R' := R.alloc (o := .lst vs) (c := .lst ds) hp (fun _ q => nomatch q) ⟨vs, upd_same, r.le (F.cell_le p)⟩
  exact hq _ _ _ (F.cell_le p) R' ⟨p, by rw [← R.len]; exact get_len _ _, rfl⟩
theorem ed_tup {es : List Expr} {fa : DA} {x1} (ha : AD X es fa) : ED X (.Tuple es x1 pos) (dPrim pTup fa) :=
  .of (pe_tup ha.pa) fun F S H ρ σ d S' Q hk R rr hf hq => prim_go (r := fun xs H1 Q => xs.length ≤ sizeLine ∧ ∀ p, H1 p = none → Q (.ref p) (upd H1 p (.tup xs))) (fun F S H xs vs d S' Q hk R rl hp hq => by
    obtain ⟨h1, h2⟩ := of_ite hp
    cases h2
    exact ⟨by rw [← rl.length]; exact h1, new_tup R rl hq⟩) hk R rr hf hq
theorem ed_lst {es : List Expr} {fa : DA} (ha : AD X es fa) : ED X (.List es pos) (dPrim pLst fa) :=
  .of (pe_lst ha.pa) fun F S H ρ σ d S' Q hk R rr hf hq => prim_go (r := fun xs H1 Q => xs.length ≤ sizeLine ∧ ∀ p, H1 p = none → Q (.ref p) (upd H1 p (.lst xs))) (fun F S H xs vs d S' Q hk R rl hp hq => by
    obtain ⟨h1, h2⟩ := of_ite hp
    cases h2
    exact ⟨by rw [← rl.length]; exact h1, new_lst R rl hq⟩) hk R rr hf hq
theorem ed_lstM {es : List Expr} {fa : DA} (ha : AD X es fa) : ED X (.List es pos) (dPrim pLstM fa) :=
  .of (pe_lst ha.pa) fun F S H ρ σ d S' Q hk R rr hf hq => prim_go (r := fun xs H1 Q => xs.length ≤ sizeLine ∧ ∀ p, H1 p = none → Q (.ref p) (upd H1 p (.lst xs))) (fun F S H xs vs d S' Q hk R rl hp hq => by
    obtain ⟨h1, h2⟩ := of_ite hp
    cases h2
    exact ⟨by rw [← rl.length]; exact h1, new_lstM R rl hq⟩) hk R rr hf hq

/-! ### statements -/
variable {st : Stmt} {sts : List Stmt}
def dNext : DS := fun ρ S => some (.nx ρ S)
def dSeq (f g : DS) : DS := fun ρ S => match f ρ S with
  | some (.nx ρ' S') => g ρ' S'
  | o => o
theorem sds_nil : SDs X [] dNext := .of pss_nil fun F S H ρ σ o D hk R rr hf hq => by
  cases (show some (Out.nx ρ S) = some o from hf)
  exact hq F H (.refl F) R σ rr
theorem seq_go {f g : DS} {F : Fm} {S : Sto} {H : Hp} {ρ : Ev} {σ : St} {o : Out} {D : Ends} {K : PySem.W.Frag} (hk : F.K = K) (R : Rep F S H) (rr : RelE F ρ σ) (hf : dSeq f g ρ S = some o) (hq : PostS F o D) : tSeq (rdS K f) (rdS K g) D σ H := by
  unfold dSeq at hf
  split at hf
  · rename_i ρ' S' h1
    exact ⟨F, S, ρ, _, hk, R, rr, h1, fun F' H' le R' σ' r' => ⟨F', S', ρ', o, le.k.trans hk, R', r', hf, hq.le le⟩⟩
  · rename_i h1
    refine ⟨F, S, ρ, o, hk, R, rr, hf, fun F' H' le R' => ?_⟩
    have := hq F' H' le R'
    cases o with
    | nx ρ' S' => exact absurd hf (h1 ρ' S')
    | rt d S' => exact this
    | bk ρ' S' => exact this
    | ct ρ' S' => exact this
theorem sds_cons {f g : DS} (h : SD X st f) (hr : SDs X sts g) : SDs X (st :: sts) (dSeq f g) :=
  .of (pss_cons h.ps hr.ps) fun F S H ρ σ o D hk R rr hf hq => seq_go hk R rr hf hq
theorem sds_one {f : DS} (h : SD X st f) : SDs X [st] f := ⟨pss_one h.ps⟩
def dBreak : DS := fun ρ S => some (.bk ρ S)
def dCont : DS := fun ρ S => some (.ct ρ S)
theorem sd_pass : SD X (.Pass pos) dNext := .of ps_pass fun F S H ρ σ o D hk R rr hf hq => by
  cases (show some (Out.nx ρ S) = some o from hf)
  exact hq F H (.refl F) R σ rr
theorem sd_break : SD X (.Break pos) dBreak := .of ps_break fun F S H ρ σ o D hk R rr hf hq => by
  cases (show some (Out.bk ρ S) = some o from hf)
  exact hq F H (.refl F) R σ rr
theorem sd_continue : SD X (.Continue pos) dCont := .of ps_continue fun F S H ρ σ o D hk R rr hf hq => by
  cases (show some (Out.ct ρ S) = some o from hf)
  exact hq F H (.refl F) R σ rr
def dExpr (f : DE) : DS := fun ρ S => match f ρ S with
  | some (_, S') => some (.nx ρ S')
  | none => none
theorem sd_expr (h : ED X e f) (hs : swapsWith e none pos.line X.env = pure false := by rfl) : SD X (.Expr e pos) (dExpr f) :=
  .of (ps_expr h.pe hs) fun F S H ρ σ o D hk R rr hf hq => by
    unfold dExpr at hf
    split at hf
    · rename_i d S' h1
      cases hf
      exact rdE.go hk R rr h1 fun F1 H1 v le hk1 R1 r1 rv => hq F1 H1 le R1 σ r1
    · cases hf
def dRet (f : DE) : DS := fun ρ S => match f ρ S with
  | some (d, S') => some (.rt d S')
  | none => none
theorem sd_ret (h : ED X e f) : SD X (.Return (some e) pos) (dRet f) :=
  .of (ps_ret h.pe) fun F S H ρ σ o D hk R rr hf hq => by
    unfold dRet at hf
    split at hf
    · rename_i d S' h1
      cases hf
      exact rdE.go hk R rr h1 fun F1 H1 v le hk1 R1 r1 rv => hq F1 H1 le R1 v rv
    · cases hf
def dRetN : DS := fun _ S => some (.rt .non S)
theorem sd_retN : SD X (.Return none pos) dRetN := .of ps_retN fun F S H ρ σ o D hk R rr hf hq => by
  cases (show some (Out.rt .non S) = some o from hf)
  exact hq F H (.refl F) R .non rfl
def dIfS (c : DE) (f g : DS) : DS := fun ρ S => match c ρ S with
  | some (.bl true, S1) => f ρ S1
  | some (.bl false, S1) => g ρ S1
  | _ => none
theorem dIfS_some {c : DE} {f g : DS} {ρ : Ev} {S : Sto} {z : Out} (h : dIfS c f g ρ S = some z) : (∃ S1, c ρ S = some (.bl true, S1) ∧ f ρ S1 = some z) ∨ (∃ S1, c ρ S = some (.bl false, S1) ∧ g ρ S1 = some z) := by
  unfold dIfS at h
  split at h
  · exact .inl ⟨_, by assumption, h⟩
  · exact .inr ⟨_, by assumption, h⟩
  · cases h
theorem rdS.go {f : DS} {F : Fm} {S : Sto} {H : Hp} {ρ : Ev} {σ : St} {o : Out} {D : Ends} {K : PySem.W.Frag} (hk : F.K = K) (R : Rep F S H) (rr : RelE F ρ σ) (hf : f ρ S = some o) (hq : PostS F o D) : rdS K f D σ H := ⟨F, S, ρ, o, hk, R, rr, hf, hq⟩
theorem sd_if {c : Expr} {ss ts : List Stmt} {hc : DE} {f g : DS} (h1 : TD X c hc) (h2 : SDs X ss f) (h3 : SDs X ts g) : SD X (.If c ss ts pos) (dIfS hc f g) :=
  .of (ps_if h1.pt h2.ps h3.ps) fun F S H ρ σ o D hk R rr hf hq => by
    rcases dIfS_some hf with ⟨S1, h1, h2⟩ | ⟨S1, h1, h2⟩
    · refine rdT.go hk R rr h1 fun F1 H1 le hk1 R1 r1 => ?_
      rw [if_pos rfl]
      exact rdS.go hk1 R1 r1 h2 (hq.le le)
    · refine rdT.go hk R rr h1 fun F1 H1 le hk1 R1 r1 => ?_
      rw [if_neg Bool.false_ne_true]
      exact rdS.go hk1 R1 r1 h2 (hq.le le)

/-! ### targets -/
def gSet (i : Nat) : DG := fun d ρ S => some (ρ.set i (some d), S)
theorem gd_name {i : Nat} (h : PG X e (gName i)) : GD X e (gSet i) := .of h fun F S H ρ σ d v ρ' S' Q hk R rr rv hf hq => by
  cases (show some (ρ.set i (some d), S) = some (ρ', S') from hf)
  exact hq F H _ (.refl F) R (rr.set i rv)
abbrev DGs := List DV → Ev → Sto → Option (Ev × Sto)
def rdGs (K : PySem.W.Frag) (g : DGs) : TGs := fun vs σ H Q => ∃ F S ρ ds ρ' S', F.K = K ∧ Rep F S H ∧ RelE F ρ σ ∧ RelL F ds vs ∧ g ds ρ S = some (ρ', S') ∧ ∀ F' H' σ', Le F F' → Rep F' S' H' → RelE F' ρ' σ' → Q σ' H'
structure GDs (X : Cx) (es : List Expr) (g : DGs) : Prop where
  pg : PGs X es (rdGs X.K g)
theorem GDs.of {es : List Expr} {t : TGs} {g : DGs} (h : PGs X es t) (m : ∀ F S H ρ σ d v ρ' S' Q, F.K = X.K → Rep F S H → RelE F ρ σ → RelL F d v → g d ρ S = some (ρ', S') → (∀ F' H' σ', Le F F' → Rep F' S' H' → RelE F' ρ' σ' → Q σ' H') → t v σ H Q) : GDs X es g :=
  ⟨⟨fun pins s σ H v u Q I rv ⟨F, S, ρ, d, ρ', S', hk, R, r, rd, hf, hq⟩ => h.run pins s σ H v u Q I rv (m F S H ρ σ d v ρ' S' Q hk R r rd hf hq)⟩⟩
def gsNil : DGs := fun ds ρ S => match ds with
  | [] => some (ρ, S)
  | _ => none
def gsCons (g : DG) (h : DGs) : DGs := fun ds ρ S => match ds with
  | d :: r => (match g d ρ S with
    | some (ρ', S') => h r ρ' S'
    | none => none)
  | [] => none
theorem gds_nil : GDs X [] gsNil := .of pgs_nil fun F S H ρ σ d v ρ' S' Q hk R rr rv hf hq => by
  unfold gsNil at hf
  split at hf
  · cases hf
    exact ⟨rv.nil, hq F H σ (.refl F) R rr⟩
  · cases hf
theorem gds_cons {es : List Expr} {g : DG} {h : DGs} {t : TG} {u : TGs} (h1 : GD X e g) (h2 : GDs X es h) (hp : PGs X (e :: es) (gCons (rdG X.K g) (rdGs X.K h))) : GDs X (e :: es) (gsCons g h) :=
  .of hp fun F S H ρ σ d v ρ' S' Q hk R rr rv hf hq => by
    unfold gsCons at hf
    split at hf
    · rename_i d0 r
      obtain ⟨x, vr, rfl, rx, rl⟩ := rv
      split at hf
      · rename_i ρ1 S1 h1
        exact ⟨x, vr, rfl, F, S, ρ, d0, ρ1, S1, hk, R, rr, rx, h1, fun F1 H1 σ1 le R1 r1 => ⟨F1, S1, ρ1, r, ρ', S', le.k.trans hk, R1, r1, rl.le le, hf, fun F2 H2 σ2 le2 => hq F2 H2 σ2 (le.trans le2)⟩⟩
      · cases hf
    · cases hf
def gTupD (n : Nat) (h : DGs) : DG := fun d ρ S => match d with
  | .tup ds => if ds.length = n then h ds ρ S else none
  | _ => none
theorem gd_tup {n : Nat} {es : List Expr} {h : DGs} (h2 : GDs X es h) (hp : PG X e (gTup X.K n (rdGs X.K h))) : GD X e (gTupD n h) :=
  .of hp fun F S H ρ σ d v ρ' S' Q hk R rr rv hf hq => by
    unfold gTupD at hf
    split at hf
    · rename_i ds
      obtain ⟨hn, hf⟩ := of_ite hf
      obtain ⟨a, xs, rfl, hs, rl⟩ := rv
      exact ⟨a, xs, rfl, SqT.of (R.g _ _ hs), by rw [← rl.length]; exact hn, F, S, ρ, ds, ρ', S', hk, R, rr, rl, hf, hq⟩
    · cases hf
def dAsg (f : DE) (g : DG) : DS := fun ρ S => match f ρ S with
  | some (d, S1) => (match g d ρ S1 with
    | some (ρ', S2) => some (.nx ρ' S2)
    | none => none)
  | none => none
theorem asg_go {g : DG} {F : Fm} {S : Sto} {H : Hp} {ρ : Ev} {σ : St} {o : Out} {D : Ends} {K : PySem.W.Frag} (hk : F.K = K) (R : Rep F S H) (rr : RelE F ρ σ) (hf : dAsg f g ρ S = some o) (hq : PostS F o D) : tAsg (rdE K f) (rdG K g) D σ H := by
  unfold dAsg at hf
  split at hf
  · rename_i d S1 h1
    split at hf
    · rename_i ρ' S2 h2
      cases hf
      exact rdE.go hk R rr h1 fun F1 H1 v le hk1 R1 r1 rv => ⟨F1, S1, ρ, d, ρ', S2, hk1, R1, r1, rv, h2, fun F2 H2 σ2 le2 R2 r2 => hq F2 H2 (le.trans le2) R2 σ2 r2⟩
    · cases hf
  · cases hf
theorem sd_asg {g : DG} (h : PS X st (tAsg (rdE X.K f) (rdG X.K g))) : SD X st (dAsg f g) := .of h fun F S H ρ σ o D hk R rr hf hq => asg_go hk R rr hf hq
def dSet (i : Nat) (f : DE) : DS := fun ρ S => match f ρ S with
  | some (d, S1) => some (.nx (ρ.set i (some d)) S1)
  | none => none
theorem sd_set {i : Nat} (h : PS X st (tAsg (rdE X.K f) (gName i))) : SD X st (dSet i f) := .of h fun F S H ρ σ o D hk R rr hf hq => by
  unfold dSet at hf
  split at hf
  · rename_i d S1 h1
    cases hf
    exact rdE.go hk R rr h1 fun F1 H1 v le hk1 R1 r1 rv => hq F1 H1 le R1 _ (r1.set i rv)
  · cases hf

/-! ### loops -/
abbrev DI := Ev → Sto → Option (List DV × Sto)
def Walks (J : It) (F0 : Fm) (ds : List DV) : Prop := ∀ (i : Nat) F S H, Wk F0 F → PF F0 F → Rep F S H → (i = ds.length → J.stop i H) ∧ ∀ d, ds[i]? = some d → J.go i H ∧ ∀ x H', J.yld i H x H' → ∃ F', Le F F' ∧ Rep F' S H' ∧ Rel F' d x
def rdI (K : PySem.W.Frag) (f : DI) : TI := fun σ H R => ∃ F S ρ ds S', F.K = K ∧ Rep F S H ∧ RelE F ρ σ ∧ f ρ S = some (ds, S') ∧ ∀ J F' H', Le F F' → Rep F' S' H' → Walks J F' ds → R J H'
structure ID (X : Cx) (tg iter : Expr) (f : DI) : Prop where
  pi : PI X tg iter (rdI X.K f)
theorem ID.of {tg : Expr} {t : TI} {f : DI} (h : PI X tg e t) (m : ∀ F S H ρ σ ds S' Q, F.K = X.K → Rep F S H → RelE F ρ σ → f ρ S = some (ds, S') → (∀ J F' H', Le F F' → Rep F' S' H' → Walks J F' ds → Q J H') → t σ H Q) : ID X tg e f :=
  ⟨⟨fun pins s σ H Q I ⟨F, S, ρ, d, S', hk, R, r, hf, hq⟩ => h.run pins s σ H Q I (m F S H ρ σ d S' Q hk R r hf hq)⟩⟩
def forL (g : DG) (body : DS) : List DV → DS
  | [] => fun ρ S => some (.nx ρ S)
  | d :: ds => fun ρ S => match g d ρ S with
    | some (ρ1, S1) => (match body ρ1 S1 with
      | some (.nx ρ2 S2) => forL g body ds ρ2 S2
      | some (.ct ρ2 S2) => forL g body ds ρ2 S2
      | some (.bk ρ2 S2) => some (.nx ρ2 S2)
      | some (.rt v S2) => some (.rt v S2)
      | none => none)
    | none => none
def dFor (it : DI) (g : DG) (body : DS) : DS := fun ρ S => match it ρ S with
  | some (ds, S1) => forL g body ds ρ S1
  | none => none
theorem for_go {it : DI} {g : DG} {body : DS} {F : Fm} {S : Sto} {H : Hp} {ρ : Ev} {σ : St} {o : Out} {D : Ends} {K : PySem.W.Frag} (hk : F.K = K) (R : Rep F S H) (rr : RelE F ρ σ) (hf : dFor it g body ρ S = some o) (hq : PostS F o D) : tFor (rdI K it) (rdG K g) (rdS K body) D σ H := by
  unfold dFor at hf
  split at hf
  · rename_i ds S1 h1
    refine ⟨F, S, ρ, ds, S1, hk, R, rr, h1, fun J F1 H1 le1 R1 wk => ?_⟩
    refine ⟨fun i m σ H => i ≤ ds.length ∧ m = ds.length - i ∧ ∃ F' S' ρ', Le F1 F' ∧ Rep F' S' H ∧ RelE F' ρ' σ ∧ forL g body (ds.drop i) ρ' S' = some o, ⟨ds.length, Nat.zero_le _, rfl, F1, S1, ρ, .refl F1, R1, rr.le le1, by rw [List.drop_zero]; exact hf⟩, ?_⟩
    rintro i m σ H ⟨hi, rfl, F', S', ρ', le', R', r', hf'⟩
    obtain ⟨w1, w2⟩ := wk i F' S' H le'.wk le'.pf R'
    by_cases hlt : i < ds.length
    · refine .inr ?_
      have hd : ds[i]? = some ds[i] := List.getElem?_eq_getElem hlt
      obtain ⟨g1, g2⟩ := w2 _ hd
      rw [List.drop_eq_getElem_cons hlt] at hf'
      unfold forL at hf'
      refine ⟨g1, fun σ' H' => ∃ m', m' < ds.length - i ∧ (i + 1 ≤ ds.length ∧ m' = ds.length - (i + 1) ∧ ∃ F' S' ρ', Le F1 F' ∧ Rep F' S' H' ∧ RelE F' ρ' σ' ∧ forL g body (ds.drop (i + 1)) ρ' S' = some o), fun _ _ z => z, fun x H2 y => ?_⟩
      obtain ⟨F2, le2, R2, rx⟩ := g2 x H2 y
      split at hf'
      · rename_i ρ1 S3 hg
        refine ⟨F2, S', ρ', _, ρ1, S3, le2.k.trans (le'.k.trans (le1.k.trans hk)), R2, r'.le le2, rx, hg, fun F3 H3 σ3 le3 R3 r3 => ?_⟩
        have le03 : Le F1 F3 := (le'.trans le2).trans le3
        split at hf'
        · rename_i ρ2 S2 hb
          exact rdS.go (le3.k.trans (le2.k.trans (le'.k.trans (le1.k.trans hk)))) R3 r3 hb fun F4 H4 le4 R4 σ4 r4 => ⟨_, by omega, hlt, rfl, F4, S2, ρ2, le03.trans le4, R4, r4, hf'⟩
        · rename_i ρ2 S2 hb
          exact rdS.go (le3.k.trans (le2.k.trans (le'.k.trans (le1.k.trans hk)))) R3 r3 hb fun F4 H4 le4 R4 σ4 r4 => ⟨_, by omega, hlt, rfl, F4, S2, ρ2, le03.trans le4, R4, r4, hf'⟩
        · rename_i ρ2 S2 hb
          cases hf'
          exact rdS.go (le3.k.trans (le2.k.trans (le'.k.trans (le1.k.trans hk)))) R3 r3 hb fun F4 H4 le4 R4 σ4 r4 => hq F4 H4 (le1.trans (le03.trans le4)) R4 σ4 r4
        · rename_i v S2 hb
          cases hf'
          exact rdS.go (le3.k.trans (le2.k.trans (le'.k.trans (le1.k.trans hk)))) R3 r3 hb fun F4 H4 le4 R4 v rv => hq F4 H4 (le1.trans (le03.trans le4)) R4 v rv
        · cases hf'
      · cases hf'
    · have e : i = ds.length := by omega
      subst e
      rw [List.drop_length] at hf'
      cases (show some (Out.nx ρ' S') = some o from hf')
      exact .inl ⟨w1 rfl, hq F' H (le1.trans le') R' σ r'⟩
  · cases hf
theorem sd_for {it : DI} {g : DG} {body : DS} (h : PS X st (tFor (rdI X.K it) (rdG X.K g) (rdS X.K body))) : SD X st (dFor it g body) := .of h fun F S H ρ σ o D hk R rr hf hq => for_go hk R rr hf hq
def whileL (c : DE) (body : DS) : Nat → DS
  | 0 => fun _ _ => none
  | n + 1 => fun ρ S => match c ρ S with
    | some (.bl true, S1) => (match body ρ S1 with
      | some (.nx ρ2 S2) => whileL c body n ρ2 S2
      | some (.ct ρ2 S2) => whileL c body n ρ2 S2
      | some (.bk ρ2 S2) => some (.nx ρ2 S2)
      | some (.rt v S2) => some (.rt v S2)
      | none => none)
    | some (.bl false, S1) => some (.nx ρ S1)
    | _ => none
theorem while_go {c : DE} {body : DS} {n : Nat} {F : Fm} {S : Sto} {H : Hp} {ρ : Ev} {σ : St} {o : Out} {D : Ends} {K : PySem.W.Frag} (hk : F.K = K) (R : Rep F S H) (rr : RelE F ρ σ) (hf : whileL c body n ρ S = some o) (hq : PostS F o D) : tWhile (rdT K c) (rdS K body) D σ H := by
  refine ⟨fun m σ H => ∃ F' S' ρ', Le F F' ∧ Rep F' S' H ∧ RelE F' ρ' σ ∧ whileL c body m ρ' S' = some o, ⟨n, F, S, ρ, .refl F, R, rr, hf⟩, ?_⟩
  rintro m σ H ⟨F', S', ρ', le', R', r', hf'⟩
  cases m with
  | zero => cases hf'
  | succ m =>
    unfold whileL at hf'
    split at hf'
    · rename_i S1 h1
      refine rdT.go (le'.k.trans hk) R' r' h1 fun F1 H1 le1 hk1 R1 r1 => ?_
      rw [if_pos rfl]
      refine ⟨fun σ' H' => ∃ m', m' < m + 1 ∧ ∃ F' S' ρ', Le F F' ∧ Rep F' S' H' ∧ RelE F' ρ' σ' ∧ whileL c body m' ρ' S' = some o, fun _ _ z => z, ?_⟩
      split at hf'
      · rename_i ρ2 S2 hb
        exact rdS.go hk1 R1 r1 hb fun F4 H4 le4 R4 σ4 r4 => ⟨m, Nat.lt_succ_self _, F4, S2, ρ2, (le'.trans le1).trans le4, R4, r4, hf'⟩
      · rename_i ρ2 S2 hb
        exact rdS.go hk1 R1 r1 hb fun F4 H4 le4 R4 σ4 r4 => ⟨m, Nat.lt_succ_self _, F4, S2, ρ2, (le'.trans le1).trans le4, R4, r4, hf'⟩
      · rename_i ρ2 S2 hb
        cases hf'
        exact rdS.go hk1 R1 r1 hb fun F4 H4 le4 R4 σ4 r4 => hq F4 H4 ((le'.trans le1).trans le4) R4 σ4 r4
      · rename_i v S2 hb
        cases hf'
        exact rdS.go hk1 R1 r1 hb fun F4 H4 le4 R4 v rv => hq F4 H4 ((le'.trans le1).trans le4) R4 v rv
      · cases hf'
    · rename_i S1 h1
      cases hf'
      refine rdT.go (le'.k.trans hk) R' r' h1 fun F1 H1 le1 hk1 R1 r1 => ?_
      rw [if_neg Bool.false_ne_true]
      exact hq F1 H1 (le'.trans le1) R1 σ r1
    · cases hf'
theorem sd_while {c : DE} {body : DS} (n : Nat) (h : PS X st (tWhile (rdT X.K c) (rdS X.K body))) : SD X st (whileL c body n) := .of h fun F S H ρ σ o D hk R rr hf hq => while_go hk R rr hf hq
end
end Dn

namespace Dn
open PySem PySem.Spec PyProof.Rows L2

/-! ### copies: cells to values -/
mutual
def mapD (bor : Bool) (h : Nat → Option DV) : DV → Option DV
  | .loc n => h n
  | .tup ds => match mapDL bor h ds with
    | some es => some (.tup es)
    | none => none
  | .tupx ds => match mapDL bor h ds with
    | some es => some (.tupx es)
    | none => none
  | .lst k ds => if k = .bor ∧ bor = false then none else match mapDL bor h ds with
    | some es => some (.lst k es)
    | none => none
  | .dik k ks ds => if k ≠ .own ∧ bor = false then none else match mapDL bor h ds with
    | some es => some (.dik k ks es)
    | none => none
  | .dit k ks ds => if k ≠ .own ∧ bor = false then none else match mapDL bor h ds with
    | some es => some (.dit k ks es)
    | none => none
  | .non => some .non
  | .bl b => some (.bl b)
  | .int i => some (.int i)
  | .str s => some (.str s)
def mapDL (bor : Bool) (h : Nat → Option DV) : List DV → Option (List DV)
  | [] => some []
  | d :: ds => match mapD bor h d with
    | some e => (match mapDL bor h ds with
      | some es => some (e :: es)
      | none => none)
    | none => none
end
def bk (bor : Bool) : LK := if bor then .bor else .own
def cpN (bor : Bool) : Nat → Sto → Nat → Option DV
  | 0, _, _ => none
  | k + 1, S, n => match S[n]? with
    | some (.lst ds) => (match mapDL bor (cpN bor k S) ds with
      | some es => some (.lst (bk bor) es)
      | none => none)
    | some (.dik ks ds) => (match mapDL bor (cpN bor k S) ds with
      | some es => some (.dik (bk bor) ks es)
      | none => none)
    | some (.dit ks ds) => (match mapDL bor (cpN bor k S) ds with
      | some es => some (.dit (bk bor) ks es)
      | none => none)
    | some (.frz d) => mapD bor (cpN bor k S) d
    | _ => none
/-- as a value: borrowed (bor), or frozen -/
def cpD (bor : Bool) (S : Sto) (d : DV) : Option DV := mapD bor (cpN bor (S.length + 1) S) d
def cpL (bor : Bool) (S : Sto) (ds : List DV) : Option (List DV) := mapDL bor (cpN bor (S.length + 1) S) ds

structure CpTo (bor : Bool) (F F2 : Fm) : Prop where
  k : F2.K = F.K
  g : Same F.G F2.G
  b : bor = true → Same F.B F2.B
mutual
theorem mapD_rel {bor : Bool} {h : Nat → Option DV} {F F2 : Fm} (c : CpTo bor F F2) (hh : ∀ n d a, h n = some d → F.lm[n]? = some a → Rel F2 d (.ref a)) : ∀ (d d' : DV) (v : V), mapD bor h d = some d' → Rel F d v → Rel F2 d' v
  | .loc n, d', v, e, r => by
    obtain ⟨a, h1, rfl⟩ := r
    exact hh n d' a e h1
  | .tup ds, d', v, e, r => by
    obtain ⟨a, xs, rfl, hs, hl⟩ := r
    unfold mapD at e
    split at e
    · rename_i es he
      cases e
      exact ⟨a, xs, rfl, c.g _ _ hs, mapDL_rel c hh ds es xs he hl⟩
    · cases e
  | .tupx ds, d', v, e, r => by
    obtain ⟨a, xs, rfl, hs, hl⟩ := r
    unfold mapD at e
    split at e
    · rename_i es he
      cases e
      exact ⟨a, xs, rfl, by rw [c.k]; exact sqT_same c.g hs, mapDL_rel c hh ds es xs he hl⟩
    · cases e
  | .lst k ds, d', v, e, r => by
    unfold mapD at e
    split at e
    · cases e
    · rename_i hn
      split at e
      · rename_i es he
        cases e
        cases k with
        | own =>
          obtain ⟨a, xs, rfl, hs, hl⟩ := r
          exact ⟨a, xs, rfl, c.g _ _ hs, mapDL_rel c hh ds es xs he hl⟩
        | bor =>
          obtain ⟨a, xs, rfl, hs, hl⟩ := r
          have hb : bor = true := by
            cases bor with
            | true => rfl
            | false => exact absurd ⟨rfl, rfl⟩ hn
          exact ⟨a, xs, rfl, hs.elim (fun h => .inl (c.b hb _ _ h)) fun h => .inr (c.g _ _ h), mapDL_rel c hh ds es xs he hl⟩
        | ext =>
          obtain ⟨a, xs, rfl, hs, hl⟩ := r
          exact ⟨a, xs, rfl, by rw [c.k]; exact sqL_same c.g hs, mapDL_rel c hh ds es xs he hl⟩
      · cases e
  | .dik k ks ds, d', v, e, r => by
    unfold mapD at e
    split at e
    · cases e
    · rename_i hn
      split at e
      · rename_i es he
        cases e
        obtain ⟨a, xs, rfl, hz, hs, hl⟩ := r
        have hl2 := mapDL_rel c hh ds es xs he hl
        refine ⟨a, xs, rfl, hz.trans (hl.length.trans hl2.length.symm), hs.elim (fun h => .inl (c.g _ _ h)) fun h => .inr ⟨h.1, c.b ?_ _ _ h.2⟩, hl2⟩
        cases bor with
        | true => rfl
        | false => exact absurd ⟨h.1, rfl⟩ hn
      · cases e
  | .dit k ks ds, d', v, e, r => by
    unfold mapD at e
    split at e
    · cases e
    · rename_i hn
      split at e
      · rename_i es he
        cases e
        obtain ⟨a, xs, rfl, hz, hs, hl⟩ := r
        have hl2 := mapDL_rel c hh ds es xs he hl
        refine ⟨a, xs, rfl, hz.trans (hl.length.trans hl2.length.symm), hs.elim (fun h => .inl (c.g _ _ h)) fun h => .inr ⟨h.1, c.b ?_ _ _ h.2⟩, hl2⟩
        cases bor with
        | true => rfl
        | false => exact absurd ⟨h.1, rfl⟩ hn
      · cases e
  | .non, d', v, e, r => by
    cases (show some DV.non = some d' from e)
    exact r
  | .bl b, d', v, e, r => by
    cases (show some (DV.bl b) = some d' from e)
    exact r
  | .int b, d', v, e, r => by
    cases (show some (DV.int b) = some d' from e)
    exact r
  | .str b, d', v, e, r => by
    cases (show some (DV.str b) = some d' from e)
    exact r
theorem mapDL_rel {bor : Bool} {h : Nat → Option DV} {F F2 : Fm} (c : CpTo bor F F2) (hh : ∀ n d a, h n = some d → F.lm[n]? = some a → Rel F2 d (.ref a)) : ∀ (ds es : List DV) (vs : List V), mapDL bor h ds = some es → RelL F ds vs → RelL F2 es vs
  | [], es, vs, e, r => by
    cases (show some ([] : List DV) = some es from e)
    exact r
  | d :: ds, es, vs, e, r => by
    obtain ⟨x, xr, rfl, h1, h2⟩ := r
    unfold mapDL at e
    split at e
    · rename_i e1 he1
      split at e
      · rename_i es1 hes1
        cases e
        exact ⟨x, xr, rfl, mapD_rel c hh d e1 x he1 h1, mapDL_rel c hh ds es1 xr hes1 h2⟩
      · cases e
    · cases e
end
theorem cpN_rel {bor : Bool} {F F2 : Fm} {S : Sto} {H : Hp} (c : CpTo bor F F2) (R : Rep F S H)
    (hl : ∀ (n : Nat) (c : Cell) (a : Addr) (o : HO), S[n]? = some c → c.live = true → F.lm[n]? = some a → H a = some o → if bor then F2.B a = some o else F2.G a = some o) :
    ∀ (k n : Nat) (d : DV) (a : Addr), cpN bor k S n = some d → F.lm[n]? = some a → Rel F2 d (.ref a)
  | 0, n, d, a, e, _ => by cases e
  | k + 1, n, d, a, e, ha => by
    have ih := cpN_rel c R hl k
    unfold cpN at e
    split at e
    · rename_i ds hc
      obtain ⟨⟨xs, e2, hr⟩, _⟩ := R.cell n _ a hc ha
      have q := hl n _ a _ hc rfl ha e2
      split at e
      · rename_i es he
        cases e
        have hl2 := mapDL_rel c ih ds es xs he hr
        cases bor with
        | true => exact ⟨a, xs, rfl, .inl q, hl2⟩
        | false => exact ⟨a, xs, rfl, q, hl2⟩
      · cases e
    · rename_i ks ds hc
      obtain ⟨⟨xs, hz, e2, hr⟩, _⟩ := R.cell n _ a hc ha
      have q := hl n _ a _ hc rfl ha e2
      split at e
      · rename_i es he
        cases e
        have hl2 := mapDL_rel c ih ds es xs he hr
        have hz2 := hz.trans (hr.length.trans hl2.length.symm)
        cases bor with
        | true => exact ⟨a, xs, rfl, hz2, .inr ⟨(fun z => nomatch z), q⟩, hl2⟩
        | false => exact ⟨a, xs, rfl, hz2, .inl q, hl2⟩
      · cases e
    · rename_i ks ds hc
      obtain ⟨⟨xs, hz, e2, hr⟩, _⟩ := R.cell n _ a hc ha
      have q := hl n _ a _ hc rfl ha e2
      split at e
      · rename_i es he
        cases e
        have hl2 := mapDL_rel c ih ds es xs he hr
        have hz2 := hz.trans (hr.length.trans hl2.length.symm)
        cases bor with
        | true => exact ⟨a, xs, rfl, hz2, .inr ⟨(fun z => nomatch z), q⟩, hl2⟩
        | false => exact ⟨a, xs, rfl, hz2, .inl q, hl2⟩
      · cases e
    · rename_i d0 hc
      obtain ⟨hr, _⟩ := R.cell n _ a hc ha
      exact mapD_rel c ih d0 d (.ref a) e hr
    · cases e
/-- all arguments as borrowed values -/
theorem cpL_bor {F : Fm} {S : Sto} {H : Hp} (R : Rep F S H) {ds es : List DV} {vs : List V} (e : cpL true S ds = some es) (r : RelL F ds vs) : RelL ⟨F.K, F.G, H, fun _ => none, []⟩ es vs :=
  have c : CpTo true F ⟨F.K, F.G, H, fun _ => none, []⟩ := ⟨rfl, Same.refl _, fun _ => R.b⟩
  mapDL_rel c (cpN_rel c R (fun n c a o h l e1 e2 => by rw [if_pos rfl]; exact e2) _) ds es vs e r
theorem rep_empty {F : Fm} {S : Sto} {H : Hp} (R : Rep F S H) : Rep ⟨F.K, F.G, H, fun _ => none, []⟩ [] H :=
  ⟨R.g, Same.refl _, (fun _ _ q => nomatch q), R.tup, rfl, fun n c a h _ => by simp at h, fun n m c c' a h => by simp at h⟩

/-! ### defs -/
def runF (np n : Nat) (body : DS) : PL := fun ds S => if ds.length = np then (match body (ds.map some ++ List.replicate (n - ds.length) none) S with
  | some (.rt d S') => some (d, S')
  | some (.nx _ S') => some (.non, S')
  | _ => none) else none
def spS (K : PySem.W.Frag) (np : Nat) (f : PL) : Sp := fun vs H Q _ => ∃ F S ds d S', F.K = K ∧ Rep F S H ∧ RelL F ds vs ∧ ds.length = np ∧ f ds S = some (d, S') ∧ PostE F S' d Q
theorem relE_start {F : Fm} {ds : List DV} {vs : List V} (r : RelL F ds vs) (N : List Str) : RelE F (ds.map some ++ List.replicate (N.length - ds.length) none) (L2.start N vs) := by
  have hl := r.length
  refine ⟨by unfold L2.start; simp [hl], fun i d e => ?_⟩
  unfold L2.start
  by_cases q : i < ds.length
  · rw [List.getElem?_append_left (by simpa using q)] at e
    rw [List.getElem?_append_left (by simp; omega)]
    rw [List.getElem?_map] at e
    cases e2 : ds[i]? with
    | none =>
      rw [e2] at e
      cases e
    | some d2 =>
      rw [e2] at e
      have e3 : d2 = d := Option.some.inj (Option.some.inj e)
      subst e3
      obtain ⟨v, e4, e5⟩ := r.get e2
      exact ⟨v, by rw [List.getElem?_map, e4] <;> rfl, e5⟩
  · rw [List.getElem?_append_right (by simp; omega)] at e
    have := List.getElem?_eq_some_iff.mp e
    obtain ⟨h1, h2⟩ := this
    rw [List.getElem_replicate] at h2
    cases h2
section
variable {P : Program} {w : World} {K : PySem.W.Frag} {mg : Str → Option Value} {base : Heap} {x qual : Str} {params : Arguments} {body : List Stmt} {scope : Scope} {dvs : List V} {kws : List (Str × V)} {f : Addr} {fd : FuncData}
/-- a def whose body is known as a denotation -/
theorem fn_ok {N ps : List Str} {k : Nat} {b : DS} (F : FunD K x qual params body scope dvs kws f fd) (S : FnScope N ps scope)
    (hb : ∀ (cdv : Value) (A : Around) (outer : List Env) (s : Shared) (H : Hp) (E : XK), Room k (A.deeper (envOfC qual scope s.heap.objs.size f cdv)) → SDs (cxOf CX0 P w K mg base N qual scope f cdv A outer s H E).nox body b) :
    FnOk P w K mg base CX0 (k + 1) f fd ps (spS K ps.length (runF ps.length N.length b)) := by
  refine F.ok S (fun vs H Q E h => ?_) (fun cdv A outer s H vs Q E hr h => ?_)
  · obtain ⟨F, S, ds, d, S', hk, R, r, hn, _⟩ := h
    rw [← r.length, hn]
  · refine ⟨_, (hb cdv A outer s H E hr).ps.nox, ?_⟩
    obtain ⟨F, S, ds, d, S', hk, R, r, hn, e, hq⟩ := h
    unfold runF at e
    rw [if_pos hn] at e
    split at e
    · rename_i d' S2 h1
      cases e
      exact ⟨F, S, _, _, hk, R, relE_start r N, h1, fun F' H' le R' v rv => hq F' H' v le R' rv⟩
    · rename_i ρ' S2 h1
      cases e
      exact ⟨F, S, _, _, hk, R, relE_start r N, h1, fun F' H' le R' σ' _ => hq F' H' .non le R' rfl⟩
    · cases e
end

/-! ### calls -/
/-- a call that shares the store -/
def cS (f : PL) (dds : List DV) : PL := fun xs S => f (xs ++ dds) S
theorem ok_cS {K : PySem.W.Frag} {np : Nat} {f : PL} {dds : List DV} {dvs : List V} {E : XK} (hd : ∀ F : Fm, RelL F dds dvs) (hn : ∀ xs S z, f xs S = some z → xs.length = np) : OkL K (cS f dds) (fun vs H Q => spS K np f (vs ++ dvs) H Q E) :=
  fun F S H xs vs d S' Q hk R r hp hq => ⟨F, S, xs ++ dds, d, S', hk, R, r.append (hd F), hn _ _ _ hp, hp, hq⟩
theorem runF_len {np n : Nat} {b : DS} : ∀ xs S z, runF np n b xs S = some z → xs.length = np := fun xs S z h => by
  unfold runF at h
  exact (of_ite h).1
/-- a call with a store of its own: a function of the arguments' values -/
def pureOf (f : PL) : List DV → Option DV := fun ds => match f ds [] with
  | some (d, S') => cpD false S' d
  | none => none
def cP (p : List DV → Option DV) (dds : List DV) : PL := fun xs S => match cpL true S (xs ++ dds) with
  | some ys => (match p ys with
    | some d => some (d, S)
    | none => none)
  | none => none
/-- behind a call with a store of its own: all new objects are frozen -/
def newG (G H H' : Hp) : Hp := fun a => match G a with
  | some o => some o
  | none => if H a = none then H' a else none
theorem newG_same {G H H' : Hp} : Same G (newG G H H') := fun a o e => by
  unfold newG
  rw [e]
theorem after_pure {F Fc : Fm} {S S' : Sto} {H H' : Hp} (R : Rep F S H) (le : Le ⟨F.K, F.G, H, fun _ => none, []⟩ Fc) (R' : Rep Fc S' H') {ex : Addr → Prop} [DecidablePred ex] (hex : ∀ a, ex a → Fc.G a = none ∧ H a = none) (hexT : ∀ a xs, ex a → H' a ≠ some (.tup xs)) :
    Rep { F with G := fun a => if ex a then none else newG Fc.G H H' a } S H' ∧ Le F { F with G := fun a => if ex a then none else newG Fc.G H H' a } := by
  have hB : Fc.B = H := le.b
  have sHH : Same H H' := by
    have := R'.b
    rw [hB] at this
    exact this
  have sG : Same F.G (fun a => if ex a then none else newG Fc.G H H' a) := fun a o e => by
    have e1 : Fc.G a = some o := le.g _ _ e
    by_cases q : ex a
    · rw [(hex a q).1] at e1
      cases e1
    · show (if ex a then none else newG Fc.G H H' a) = some o
      rw [if_neg q]
      exact newG_same _ _ e1
  have at_ : ∀ a o, (if ex a then none else newG Fc.G H H' a) = some o → (Fc.G a = some o ∨ (H a = none ∧ H' a = some o)) := fun a o e => by
    by_cases q : ex a
    · rw [if_pos q] at e
      cases e
    · rw [if_neg q] at e
      unfold newG at e
      split at e
      · rename_i o' h1
        cases e
        exact .inl h1
      · split at e
        · exact .inr ⟨by assumption, e⟩
        · cases e
  refine ⟨⟨fun a o e => ?_, fun a o e => sHH _ _ (R.b _ _ e), fun a o e => sHH _ _ (R.p _ _ e), fun a xs e => ?_, R.len, fun n c a h e => ?_, R.inj⟩, ⟨rfl, rfl, rfl, sG, fun a o e => ?_, List.prefix_refl _⟩⟩
  · rcases at_ a o e with h | ⟨_, h⟩
    · exact R'.g _ _ h
    · exact h
  · have h1 := R'.tup _ _ e
    show (if ex a then none else newG Fc.G H H' a) = _
    rw [if_neg fun q => hexT a xs q e]
    exact newG_same _ _ h1
  · obtain ⟨k1, k2⟩ := R.cell n c a h e
    have wk1 : Wk F { F with G := fun a => if ex a then none else newG Fc.G H H' a } := ⟨rfl, Same.refl _, sG, List.prefix_refl _⟩
    refine ⟨CellOk.wk (F := F) wk1 (fun _ _ _ e => e) k1 fun l => ?_, fun l => ⟨?_, (k2 l).2⟩⟩
    · obtain ⟨o, e1, _⟩ := k1.some l
      rw [e1]
      exact sHH _ _ e1
    · obtain ⟨o, e1, _⟩ := k1.some l
      show (if ex a then none else newG Fc.G H H' a) = none
      cases q : (if ex a then none else newG Fc.G H H' a) with
      | none => rfl
      | some u =>
        rcases at_ a u q with h | ⟨h, _⟩
        · rcases le.n a u h with h2 | h2
          · have h3 : F.G a = some u := h2
            rw [(k2 l).1] at h3
            cases h3
          · have h3 : H a = none := h2.1
            rw [e1] at h3
            cases h3
        · rw [e1] at h
          cases h
  · rcases at_ a o e with h | ⟨h, _⟩
    · rcases le.n a o h with h2 | h2
      · exact .inl h2
      · have h3 : H a = none := h2.1
        exact .inr ⟨R.b.free h3, R.p.free h3⟩
    · exact .inr ⟨R.b.free h, R.p.free h⟩
theorem ok_cP {K : PySem.W.Frag} {np : Nat} {f : PL} {dds : List DV} {dvs : List V} {E : XK} (hd : ∀ F : Fm, RelL F dds dvs) (hn : ∀ xs S z, f xs S = some z → xs.length = np) : OkL K (cP (pureOf f) dds) (fun vs H Q => spS K np f (vs ++ dvs) H Q E) :=
  fun F S H xs vs d S' Q hk R r hp hq => by
    unfold cP at hp
    split at hp
    · rename_i ys hy
      split at hp
      · rename_i d0 hp0
        cases hp
        unfold pureOf at hp0
        split at hp0
        · rename_i d1 S1 hf
          refine ⟨⟨F.K, F.G, H, fun _ => none, []⟩, [], ys, d1, S1, hk, rep_empty R, cpL_bor R hy (r.append (hd F)), hn _ _ _ hf, hf, fun Fc H' v le R' rv => ?_⟩
          obtain ⟨R2, le2⟩ := after_pure R le R' (ex := fun _ => False) (fun _ q => q.elim) (fun _ _ q => q.elim)
          refine hq _ _ v le2 R2 ?_
          have hB : Fc.B = H := le.b
          have c : CpTo false Fc { F with G := fun a => if False then none else newG Fc.G H H' a } := ⟨le.k.symm, fun a o e => newG_same _ _ e, fun q => nomatch q⟩
          refine mapD_rel c (cpN_rel c R' (fun n cc a o h l e1 e2 => ?_) _) d1 d v hp0 rv
          rw [if_neg Bool.false_ne_true]
          obtain ⟨_, k2⟩ := R'.cell n cc a h e1
          obtain ⟨ga, ba⟩ := k2 l
          show newG Fc.G H H' a = some o
          unfold newG
          rw [ga]
          show (if H a = none then H' a else none) = some o
          rw [← hB, if_pos ba.1, e2]
        · cases hp0
      · cases hp
    · cases hp
/-- .. whose result is a new list that may be changed -/
def freshOf (f : PL) : List DV → Option (List DV) := fun ds => match f ds [] with
  | some (.loc n, S') => (match S'[n]? with
    | some (.lst xs) => cpL false (S'.set n .gone) xs
    | _ => none)
  | _ => none
def cM (p : List DV → Option (List DV)) (dds : List DV) : PL := fun xs S => match cpL true S (xs ++ dds) with
  | some ys => (match p ys with
    | some es => some (.loc S.length, S ++ [.lst es])
    | none => none)
  | none => none
theorem ok_cM {K : PySem.W.Frag} {np : Nat} {f : PL} {dds : List DV} {dvs : List V} {E : XK} (hd : ∀ F : Fm, RelL F dds dvs) (hn : ∀ xs S z, f xs S = some z → xs.length = np) : OkL K (cM (freshOf f) dds) (fun vs H Q => spS K np f (vs ++ dvs) H Q E) :=
  fun F S H xs vs d S' Q hk R r hp hq => by
    unfold cM at hp
    split at hp
    · rename_i ys hy
      split at hp
      · rename_i es hp0
        cases hp
        unfold freshOf at hp0
        split at hp0
        · rename_i n1 S1 hf
          split at hp0
          · rename_i zs hz
            refine ⟨⟨F.K, F.G, H, fun _ => none, []⟩, [], ys, .loc n1, S1, hk, rep_empty R, cpL_bor R hy (r.append (hd F)), hn _ _ _ hf, hf, fun Fc H' v le R' rv => ?_⟩
            have hB : Fc.B = H := le.b
            obtain ⟨a0, ha0, rfl⟩ := rv
            obtain ⟨⟨us, eu, ru⟩, k0⟩ := R'.cell n1 _ a0 hz ha0
            obtain ⟨g0, b0⟩ := k0 rfl
            have b0 : H a0 = none := by rw [← hB]; exact b0.1
            obtain ⟨R2, le2⟩ := after_pure R le R' (ex := fun a => a = a0) (fun a q => by rw [q]; exact ⟨g0, b0⟩) (fun a xs q e => by rw [q, eu] at e; cases e)
            have c : CpTo false Fc ({ F with G := fun a => if a = a0 then none else newG Fc.G H H' a }) := ⟨le.k.symm, fun a o e => by
              show (if a = a0 then none else newG Fc.G H H' a) = some o
              rw [if_neg fun q => by rw [q, g0] at e; cases e]
              exact newG_same _ _ e, fun q => nomatch q⟩
            have Rk : Rep Fc (S1.set n1 .gone) H' := R'.kill rfl fun _ _ => trivial
            have hes : RelL ({ F with G := fun a => if a = a0 then none else newG Fc.G H H' a }) es us := by
              refine mapDL_rel c (cpN_rel c Rk (fun n cc a o h l e1 e2 => ?_) _) zs es us hp0 ru
              rw [if_neg Bool.false_ne_true]
              obtain ⟨_, k2⟩ := Rk.cell n cc a h e1
              obtain ⟨ga, ba⟩ := k2 l
              have na : a ≠ a0 := fun q => by
                have hne : n ≠ n1 := fun q2 => by
                  rw [q2, List.getElem?_set_self (List.getElem?_eq_some_iff.mp hz).1] at h
                  cases h
                  cases l
                rw [List.getElem?_set_ne (fun q2 => hne q2.symm)] at h
                exact hne (R'.inj n n1 cc _ a h hz l rfl e1 (by rw [q]; exact ha0))
              show (if a = a0 then none else newG Fc.G H H' a) = some o
              rw [if_neg na]
              unfold newG
              rw [ga]
              show (if H a = none then H' a else none) = some o
              rw [← hB, if_pos ba.1, e2]
            have R3 := R2.cell_new (p := a0) (c := .lst es) ⟨us, eu, hes.le (Fm.cell_le _ a0)⟩ (if_pos rfl) ⟨R.b.free b0, R.p.free b0⟩ (R.noCell b0)
            exact hq _ _ (.ref a0) (le2.trans (Fm.cell_le _ a0)) R3 ⟨a0, by rw [← R.len]; exact get_len _ _, rfl⟩
          · cases hp0
        · cases hp0
      · cases hp
    · cases hp
section
variable {X : Cx} {e : Expr}
theorem ed_call {es : List Expr} {sp : Sp} {dvs : List V} {E : XK} {p : PL} {fa : DA} (hpe : ∀ {t : TA}, PA X es t → PE X e (tCall sp dvs E t)) (hp : OkL X.K p (fun vs H Q => sp (vs ++ dvs) H Q E)) (ha : AD X es fa) : ED X e (dPrim p fa) :=
  .of (hpe ha.pa) fun F S H ρ σ d S' Q hk R rr hf hq => prim_go hp hk R rr hf hq
end
end Dn

namespace Dn
open PySem PySem.Spec PyProof.Rows L2

/-! ### comprehensions -/
theorem wipe_get {σ : L2.St} : ∀ {vs : List Nat} {j : Nat}, (wipe σ vs)[j]? = if j ∈ vs then (σ[j]?).map (fun _ => none) else σ[j]?
  | [], j => by rw [if_neg (by simp)] <;> rfl
  | v :: vs, j => by
    unfold wipe
    by_cases q : v = j
    · subst q
      rw [if_pos (by simp)]
      by_cases hv : v < σ.length
      · rw [List.getElem?_set_self (by rw [wipe_length]; exact hv), List.getElem?_eq_getElem hv] <;> rfl
      · rw [List.getElem?_eq_none (by rw [List.length_set, wipe_length]; omega), List.getElem?_eq_none (by omega)] <;> rfl
    · rw [List.getElem?_set_ne q, wipe_get (vs := vs)]
      by_cases hm : j ∈ vs
      · rw [if_pos hm, if_pos (by simp [hm])]
      · rw [if_neg hm, if_neg (by simp [hm]; exact fun z => q z.symm)]
theorem wipe_set {σ : L2.St} {vs : List Nat} {i : Nat} {x : Option V} (h : i ∈ vs) : wipe (σ.set i x) vs = wipe σ vs := by
  apply List.ext_getElem?
  intro j
  rw [wipe_get, wipe_get]
  by_cases q : i = j
  · subst q
    rw [if_pos h, if_pos h]
    by_cases hl : i < σ.length
    · rw [List.getElem?_set_self hl, List.getElem?_eq_getElem hl] <;> rfl
    · rw [List.getElem?_eq_none (by simp; omega), List.getElem?_eq_none (by omega)]
  · rw [List.getElem?_set_ne q]
theorem wipe_wipe {σ : L2.St} {vs : List Nat} : wipe (wipe σ vs) vs = wipe σ vs := by
  apply List.ext_getElem?
  intro j
  rw [wipe_get, wipe_get]
  by_cases h : j ∈ vs
  · rw [if_pos h, if_pos h, Option.map_map] <;> rfl
  · rw [if_neg h]
def dwipe (ρ : Ev) : List Nat → Ev
  | [] => ρ
  | v :: vs => (dwipe ρ vs).set v none
theorem relE_wipe {F : Fm} {ρ : Ev} {σ : L2.St} (r : RelE F ρ σ) : ∀ vs : List Nat, RelE F (dwipe ρ vs) (wipe σ vs)
  | [] => r
  | v :: vs => by
    have ih := relE_wipe r vs
    unfold dwipe wipe
    refine ⟨by simp [ih.len], fun j d e => ?_⟩
    by_cases q : v = j
    · subst q
      have hlt := (List.getElem?_eq_some_iff.mp e).1
      rw [List.length_set] at hlt
      rw [List.getElem?_set_self hlt] at e
      cases e
    · rw [List.getElem?_set_ne q] at e ⊢
      exact ih.at_ j d e
/-- a target of names alone: the heap stays, only the slots vs are set -/
def GW (K : PySem.W.Frag) (t : TG) (g : DG) (vs : List Nat) : Prop := ∀ F S H ρ σ d v ρ' S' (Q : L2.St → Hp → Prop), F.K = K → Rep F S H → RelE F ρ σ → Rel F d v → g d ρ S = some (ρ', S') → (∀ σ', S' = S → RelE F ρ' σ' → wipe σ' vs = wipe σ vs → Q σ' H) → t v σ H Q
theorem gw_name {K : PySem.W.Frag} {i : Nat} {vs : List Nat} (h : i ∈ vs) : GW K (gName i) (gSet i) vs := fun F S H ρ σ d v ρ' S' Q hk R rr rv hf hq => by
  cases (show some (ρ.set i (some d), S) = some (ρ', S') from hf)
  exact hq _ rfl (rr.set i rv) (wipe_set h)
def GWs (K : PySem.W.Frag) (t : TGs) (g : DGs) (vs : List Nat) : Prop := ∀ F S H ρ σ d v ρ' S' (Q : L2.St → Hp → Prop), F.K = K → Rep F S H → RelE F ρ σ → RelL F d v → g d ρ S = some (ρ', S') → (∀ σ', S' = S → RelE F ρ' σ' → wipe σ' vs = wipe σ vs → Q σ' H) → t v σ H Q
theorem gws_nil {K : PySem.W.Frag} {vs : List Nat} : GWs K gNil gsNil vs := fun F S H ρ σ d v ρ' S' Q hk R rr rv hf hq => by
  unfold gsNil at hf
  split at hf
  · cases hf
    exact ⟨rv.nil, hq σ rfl rr rfl⟩
  · cases hf
theorem gws_cons {K : PySem.W.Frag} {vs : List Nat} {t : TG} {u : TGs} {g : DG} {h : DGs} (h1 : GW K t g vs) (h2 : GWs K u h vs) : GWs K (gCons t u) (gsCons g h) vs := fun F S H ρ σ d v ρ' S' Q hk R rr rv hf hq => by
  unfold gsCons at hf
  split at hf
  · rename_i d0 r
    obtain ⟨x, vr, rfl, rx, rl⟩ := rv
    split at hf
    · rename_i ρ1 S1 e1
      refine ⟨x, vr, rfl, h1 F S H ρ σ d0 x ρ1 S1 _ hk R rr rx e1 fun σ1 hS r1 w1 => ?_⟩
      subst hS
      exact h2 F S1 H ρ1 σ1 r vr ρ' S' Q hk R r1 rl hf fun σ2 hS2 r2 w2 => hq σ2 hS2 r2 (w2.trans w1)
    · cases hf
  · cases hf
theorem gw_tup {K : PySem.W.Frag} {vs : List Nat} {n : Nat} {u : TGs} {h : DGs} (h2 : GWs K u h vs) : GW K (gTup K n u) (gTupD n h) vs := fun F S H ρ σ d v ρ' S' Q hk R rr rv hf hq => by
  unfold gTupD at hf
  split at hf
  · rename_i ds
    obtain ⟨hn, hf⟩ := of_ite hf
    obtain ⟨a, xs, rfl, hs, rl⟩ := rv
    exact ⟨a, xs, rfl, SqT.of (R.g _ _ hs), by rw [← rl.length]; exact hn, h2 F S H ρ σ ds xs ρ' S' Q hk R rr rl hf hq⟩
  · cases hf
theorem GW.gd {X : Cx} {e : Expr} {t : TG} {g : DG} {vs : List Nat} (h : GW X.K t g vs) (hp : PG X e t) : GD X e g := .of hp fun F S H ρ σ d v ρ' S' Q hk R rr rv hf hq =>
  h F S H ρ σ d v ρ' S' Q hk R rr rv hf fun σ' hS r _ => by
    subst hS
    exact hq F H σ' (.refl F) R r

def lcL (g : DG) (c fe : DE) (ρ : Ev) : List DV → Sto → Option (List DV × Sto)
  | [], S => some ([], S)
  | d :: ds, S => match g d ρ S with
    | some (ρ1, S1) => (match c ρ1 S1 with
      | some (.bl true, S2) => (match fe ρ1 S2 with
        | some (y, S3) => (match lcL g c fe ρ ds S3 with
          | some (ys, S4) => some (y :: ys, S4)
          | none => none)
        | none => none)
      | some (.bl false, S2) => lcL g c fe ρ ds S2
      | _ => none)
    | none => none
def lcR (it : DI) (g : DG) (c fe : DE) (vs : List Nat) : DA := fun ρ S => match it ρ S with
  | some (ds, S1) => (match lcL g c fe (dwipe ρ vs) ds S1 with
    | some (ys, S2) => if ys.length ≤ sizeLine then some (ys, S2) else none
    | none => none)
  | none => none
def dLc (it : DI) (g : DG) (c fe : DE) (vs : List Nat) : DE := fun ρ S => match lcR it g c fe vs ρ S with
  | some (ys, S2) => some (.lst .own ys, S2)
  | none => none
def dLcM (it : DI) (g : DG) (c fe : DE) (vs : List Nat) : DE := fun ρ S => match lcR it g c fe vs ρ S with
  | some (ys, S2) => some (.loc S2.length, S2 ++ [.lst ys])
  | none => none
def NoCell (F : Fm) (S : Sto) (D : Addr) : Prop := ∀ (n : Nat) (c : Cell), S[n]? = some c → c.live = true → F.lm[n]? ≠ some D
abbrev Fm.prot (F : Fm) (P : Hp) : Fm := { F with P := P }
theorem Rep.prot {F : Fm} {S : Sto} {H : Hp} (R : Rep F S H) {P : Hp} (hP : Same P H) (pf : ∀ a o u, F.P a = some (.frz o u) → P a = some (.frz o u)) (hc : ∀ (n : Nat) (c : Cell) (a : Addr), S[n]? = some c → c.live = true → F.lm[n]? = some a → P a = none) : Rep (F.prot P) S H :=
  ⟨R.g, R.b, hP, R.tup, R.len, fun n c a h e => ⟨CellOk.wk (F := F) (F' := F.prot P) (⟨rfl, Same.refl F.B, Same.refl F.G, List.prefix_refl F.lm⟩ : Wk F (F.prot P)) pf (R.cell n c a h e).1 fun _ => rfl, fun l => ⟨((R.cell n c a h e).2 l).1, ((R.cell n c a h e).2 l).2.1, hc n c a h l e⟩⟩, R.inj⟩
/-- an object that no data leans on is changed -/
theorem Rep.over {F : Fm} {S : Sto} {H : Hp} (R : Rep F S H) {D : Addr} {o : HO} (gD : F.G D = none) (fD : F.free D) (nc : NoCell F S D) (ht : ∀ xs, o ≠ .tup xs) : Rep F S (upd H D o) := by
  refine ⟨same_mono R.g gD, same_mono R.b fD.1, same_mono R.p fD.2, fun a xs e => ?_, R.len, fun n c a h e => ?_, R.inj⟩
  · by_cases q : a = D
    · rw [q, upd_same] at e
      exact absurd (Option.some.inj e) (ht xs)
    · rw [upd_ne q] at e
      exact R.tup _ _ e
  · obtain ⟨k1, k2⟩ := R.cell n c a h e
    exact ⟨k1.wk (Le.refl F).wk (Le.refl F).pf fun l => upd_ne fun q => nc n c h l (by rw [← q]; exact e), k2⟩
/-- an object that is there becomes frozen data -/
theorem Rep.adopt {F : Fm} {S : Sto} {H : Hp} (R : Rep F S H) {p : Addr} {o : HO} (hp : H p = some o) (gp : F.G p = none) (fp : F.free p) (nc : NoCell F S p) : Rep (F.add p o) S H ∧ Le F (F.add p o) := by
  have le := Fm.add_le (F := F) (o := o) gp fp
  refine ⟨⟨fun a u e => ?_, R.b, R.p, fun a xs e => ?_, R.len, fun n c a h e => ?_, R.inj⟩, le⟩
  · have e2 : upd F.G p o a = some u := e
    by_cases q : a = p
    · rw [q, upd_same] at e2
      rw [q, hp]
      exact e2
    · rw [upd_ne q] at e2
      exact R.g _ _ e2
  · show upd F.G p o a = _
    by_cases q : a = p
    · rw [q, upd_same, ← hp, ← q]
      exact e
    · rw [upd_ne q]
      exact R.tup _ _ e
  · obtain ⟨k1, k2⟩ := R.cell n c a h e
    refine ⟨k1.wk le.wk le.pf fun _ => rfl, fun l => ⟨?_, (k2 l).2⟩⟩
    show upd F.G p o a = none
    rw [upd_ne fun q => nc n c h l (by rw [← q]; exact e)]
    exact (k2 l).1
theorem lc_go {K : PySem.W.Frag} {it : DI} {g : DG} {c fe : DE} {vs : List Nat} {t : TG} {tt : TT} (hg : GW K t g vs) (hc : ∀ σ H Q, rdT K c σ H Q → tt σ H Q) {F : Fm} {S S2 : Sto} {H : Hp} {ρ : Ev} {σ : L2.St} {ys : List DV} {Q : VK}
    (hk : F.K = K) (R : Rep F S H) (rr : RelE F ρ σ) (hf : lcR it g c fe vs ρ S = some (ys, S2))
    (hq : ∀ F' H' D xs, Le F F' → Rep F' S2 H' → H' D = some (.lst xs) → RelL F' ys xs → F'.G D = none → F'.free D → NoCell F' S2 D → Q (.ref D) H') : tLc (rdI K it) t tt (rdE K fe) vs σ H Q := by
  unfold lcR at hf
  split at hf
  · rename_i ds S1 h1
    split at hf
    · rename_i ys' S2' h2
      obtain ⟨hsz, hf⟩ := of_ite hf
      cases hf
      refine ⟨F, S, ρ, ds, S1, hk, R, rr, h1, fun J F1 H1 le1 R1 wk D hD => ?_⟩
      have r1 := rr.le le1
      refine ⟨fun i m H => i ≤ ds.length ∧ m = ds.length - i ∧ ∃ F' S' acc accV rest, Le F1 F' ∧ Rep F' S' H ∧ H D = some (.lst accV) ∧ RelL F' acc accV ∧ F'.G D = none ∧ F'.free D ∧ NoCell F' S' D ∧ lcL g c fe (dwipe ρ vs) (ds.drop i) S' = some (rest, S2) ∧ ys = acc ++ rest,
        ⟨ds.length, Nat.zero_le _, rfl, F1, S1, [], [], ys, .refl F1, R1.beside hD (fun _ q => nomatch q), upd_same, rfl, R1.g.free hD, ⟨R1.b.free hD, R1.p.free hD⟩, R1.noCell hD, by rw [List.drop_zero]; exact h2, rfl⟩, ?_⟩
      rintro i m H ⟨hi, rfl, F', S', acc, accV, rest, le', R', eD, ra, gD, fD, nc, hl, ey⟩
      have Pw : Wk F' (F'.prot (upd F'.P D (.lst accV))) := ⟨rfl, Same.refl _, Same.refl _, List.prefix_refl _⟩
      have Rp : Rep (F'.prot (upd F'.P D (.lst accV))) S' H := by
        refine R'.prot (fun a o e => ?_) (fun a o u e => by
          show upd F'.P D (.lst accV) a = _
          rw [upd_ne fun q => by rw [q, fD.2] at e; cases e]
          exact e) fun n c a h l e => ?_
        · by_cases q : a = D
          · rw [q, upd_same] at e
            rw [q, eD]
            exact e
          · rw [upd_ne q] at e
            exact R'.p _ _ e
        · rw [upd_ne fun q => nc n c h l (by rw [← q]; exact e)]
          exact ((R'.cell n c a h e).2 l).2.2
      have wk1 : Wk F1 (F'.prot (upd F'.P D (.lst accV))) := ⟨le'.k, le'.wk.b, le'.g, le'.m⟩
      obtain ⟨w1, w2⟩ := wk i _ S' H wk1 (fun a o u e => by
        show upd F'.P D (.lst accV) a = _
        have e' : F'.P a = some (.frz o u) := by rw [le'.p]; exact e
        rw [upd_ne fun q => by rw [q, fD.2] at e'; cases e']
        exact e') Rp
      by_cases hlt : i < ds.length
      · refine .inr ?_
        obtain ⟨g1, g2⟩ := w2 _ (List.getElem?_eq_getElem hlt)
        rw [List.drop_eq_getElem_cons hlt] at hl
        unfold lcL at hl
        refine ⟨g1, fun H' => ∃ m', m' < ds.length - i ∧ (i + 1 ≤ ds.length ∧ m' = ds.length - (i + 1) ∧ ∃ F' S' acc accV rest, Le F1 F' ∧ Rep F' S' H' ∧ H' D = some (.lst accV) ∧ RelL F' acc accV ∧ F'.G D = none ∧ F'.free D ∧ NoCell F' S' D ∧ lcL g c fe (dwipe ρ vs) (ds.drop (i + 1)) S' = some (rest, S2) ∧ ys = acc ++ rest), fun _ z => z, fun x H2 y => ?_⟩
        obtain ⟨F2, le2, R2, rx⟩ := g2 x H2 y
        have rE2 : RelE F2 (dwipe ρ vs) (wipe σ vs) := relE_wipe ((r1.wk wk1).le le2) vs
        -- what is known behind any part of the turn
        have back : ∀ {F4 : Fm} {S4 : Sto} {H4 : Hp}, Le (F'.prot (upd F'.P D (.lst accV))) F4 → Rep F4 S4 H4 → H4 D = some (.lst accV) ∧ Le F1 (F4.prot F1.P) ∧ F4.G D = none ∧ F4.B D = none ∧ F1.P D = none ∧ NoCell F4 S4 D ∧ Rep (F4.prot F1.P) S4 H4 ∧ RelL F4 acc accV := fun {F4 S4 H4} le4 R4 => by
          have eP : F4.P = upd F'.P D (.lst accV) := le4.p
          have ePD : F4.P D = some (.lst accV) := by rw [eP, upd_same]
          have pp : F'.P = F1.P := le'.p
          have gD4 : F4.G D = none := by
            cases q : F4.G D with
            | none => rfl
            | some o =>
              rcases le4.n D o q with h | h
              · have h2 : F'.G D = some o := h
                rw [gD] at h2
                cases h2
              · have h2 : upd F'.P D (HO.lst accV) D = none := h.2
                rw [upd_same] at h2
                cases h2
          have pD : F1.P D = none := by rw [← pp]; exact fD.2
          have nc4 : NoCell F4 S4 D := fun n c h l e => by
            have h3 := ((R4.cell n c D h e).2 l).2.2
            rw [ePD] at h3
            cases h3
          refine ⟨R4.p _ _ ePD, ⟨le4.k.trans le'.k, le4.b.trans le'.b, rfl, le'.g.trans le4.g, fun a o e => ?_, le'.m.trans le4.m⟩, gD4, ?_, pD, nc4, ?_, RelL.wk (F := F') ?_ _ _ ra⟩
          · rcases le4.n a o e with h | h
            · exact le'.n a o h
            · right
              have h1 : F'.B a = none := h.1
              have h2 : upd F'.P D (HO.lst accV) a = none := h.2
              have h3 : F'.P a = none := by
                by_cases q : a = D
                · rw [q, upd_same] at h2
                  cases h2
                · rw [upd_ne q] at h2
                  exact h2
              exact ⟨by rw [← le'.b]; exact h1, by rw [← pp]; exact h3⟩
          · rw [le4.b]
            exact fD.1
          · refine R4.prot (fun a o e => ?_) (fun a o u e => by
              rw [eP] at e
              by_cases q : a = D
              · rw [q, upd_same] at e
                cases e
              · rw [upd_ne q, pp] at e
                exact e) fun n c a h l e => ?_
            · refine R4.p _ _ ?_
              rw [eP, upd_ne (fun q => by rw [q, pD] at e; cases e), pp]
              exact e
            · have h3 := ((R4.cell n c a h e).2 l).2.2
              rw [eP] at h3
              by_cases q : a = D
              · rw [q]
                exact pD
              · rw [upd_ne q, pp] at h3
                exact h3
          · exact ⟨le4.k, le4.wk.b, le4.g, le4.m⟩
        split at hl
        · rename_i ρ1 S3 hg1
          refine hg F2 S' H2 _ _ _ x ρ1 S3 _ (le2.k.trans (le'.k.trans (le1.k.trans hk))) R2 rE2 rx hg1 fun σ3 hS r3 w3 => ⟨w3.trans wipe_wipe, ?_⟩
          subst hS
          split at hl
          · rename_i S5 hc1
            refine hc _ _ _ (rdT.go (le2.k.trans (le'.k.trans (le1.k.trans hk))) R2 r3 hc1 fun F3 H3 le3 hk3 R3 r4 => ?_)
            rw [if_pos rfl]
            split at hl
            · rename_i y1 S6 he1
              split at hl
              · rename_i ys7 S7 hl7
                cases hl
                refine rdE.go hk3 R3 r4 he1 fun F4 H4 v le4 hk4 R4 r5 rv => ?_
                obtain ⟨b1, b2, b3, b4, b5, b6, b7, b8⟩ := back ((le2.trans le3).trans le4) R4
                have hlen := ra.length
                refine ⟨accV, b1, ?_, _, by omega, hlt, rfl, F4.prot F1.P, S6, acc ++ [y1], accV ++ [v], ys7, b2, b7.over b3 ⟨b4, b5⟩ b6 (fun _ q => nomatch q), upd_same, ?_, b3, ⟨b4, b5⟩, b6, hl7, by rw [ey, List.append_assoc] <;> rfl⟩
                · rw [ey] at hsz
                  simp at hsz
                  omega
                · exact RelL.wk (F := F4) (F' := F4.prot F1.P) (⟨rfl, Same.refl F4.B, Same.refl F4.G, List.prefix_refl F4.lm⟩ : Wk F4 (F4.prot F1.P)) _ _ (b8.append (RelL.cons rv rfl))
              · cases hl
            · cases hl
          · rename_i S5 hc1
            refine hc _ _ _ (rdT.go (le2.k.trans (le'.k.trans (le1.k.trans hk))) R2 r3 hc1 fun F3 H3 le3 hk3 R3 r4 => ?_)
            rw [if_neg Bool.false_ne_true]
            obtain ⟨b1, b2, b3, b4, b5, b6, b7, b8⟩ := back (le2.trans le3) R3
            exact ⟨_, by omega, hlt, rfl, F3.prot F1.P, S5, acc, accV, rest, b2, b7, b1, RelL.wk (F := F3) (F' := F3.prot F1.P) (⟨rfl, Same.refl F3.B, Same.refl F3.G, List.prefix_refl F3.lm⟩ : Wk F3 (F3.prot F1.P)) _ _ b8, b3, ⟨b4, b5⟩, b6, hl, ey⟩
          · cases hl
        · cases hl
      · have e : i = ds.length := by omega
        subst e
        rw [List.drop_length] at hl
        cases (show some (([] : List DV), S') = some (rest, S2) from hl)
        rw [List.append_nil] at ey
        subst ey
        exact .inl ⟨w1 rfl, hq F' H D accV (le1.trans le') R' eD ra gD fD nc⟩
    · cases hf
  · cases hf
theorem lc_own {K : PySem.W.Frag} {it : DI} {g : DG} {c fe : DE} {vs : List Nat} {t : TG} {tt : TT} (hg : GW K t g vs) (hc : ∀ σ H Q, rdT K c σ H Q → tt σ H Q) {F : Fm} {S S' : Sto} {H : Hp} {ρ : Ev} {σ : L2.St} {d : DV} {Q : VK}
    (hk : F.K = K) (R : Rep F S H) (rr : RelE F ρ σ) (hf : dLc it g c fe vs ρ S = some (d, S')) (hq : PostE F S' d Q) : tLc (rdI K it) t tt (rdE K fe) vs σ H Q := by
  unfold dLc at hf
  split at hf
  · rename_i ys S2 h
    cases hf
    refine lc_go hg hc hk R rr h fun F' H' D xs le R' eD r gD fD nc => ?_
    obtain ⟨R2, le2⟩ := R'.adopt eD gD fD nc
    exact hq _ _ _ (le.trans le2) R2 ⟨D, xs, rfl, upd_same, r.le le2⟩
  · cases hf
theorem lc_mut {K : PySem.W.Frag} {it : DI} {g : DG} {c fe : DE} {vs : List Nat} {t : TG} {tt : TT} (hg : GW K t g vs) (hc : ∀ σ H Q, rdT K c σ H Q → tt σ H Q) {F : Fm} {S S' : Sto} {H : Hp} {ρ : Ev} {σ : L2.St} {d : DV} {Q : VK}
    (hk : F.K = K) (R : Rep F S H) (rr : RelE F ρ σ) (hf : dLcM it g c fe vs ρ S = some (d, S')) (hq : PostE F S' d Q) : tLc (rdI K it) t tt (rdE K fe) vs σ H Q := by
  unfold dLcM at hf
  split at hf
  · rename_i ys S2 h
    cases hf
    refine lc_go hg hc hk R rr h fun F' H' D xs le R' eD r gD fD nc => ?_
    have R2 := R'.cell_new (c := .lst ys) ⟨xs, eD, r.le (F'.cell_le D)⟩ gD fD nc
    exact hq _ _ _ (le.trans (F'.cell_le D)) R2 ⟨D, by rw [← R'.len]; exact get_len _ _, rfl⟩
  · cases hf
theorem yes_of {K : PySem.W.Frag} : ∀ σ H Q, rdT K (dC (.bl true)) σ H Q → tYes σ H Q := fun σ H Q h => by
  obtain ⟨F, S, ρ, b, S', hk, R, rr, e, hq⟩ := h
  cases (show some (DV.bl true, S) = some (DV.bl b, S') from e)
  exact hq F H (.refl F) R
theorem same_of {K : PySem.W.Frag} {c : DE} : ∀ σ H Q, rdT K c σ H Q → rdT K c σ H Q := fun _ _ _ h => h
section
variable {X : Cx} {e : Expr} {st : Stmt} {it : DI} {g : DG} {c fe : DE} {vs : List Nat} {t : TG} {tt : TT}
theorem ed_lc (h : PE X e (tLc (rdI X.K it) t tt (rdE X.K fe) vs)) (hg : GW X.K t g vs) (hc : ∀ σ H Q, rdT X.K c σ H Q → tt σ H Q) : ED X e (dLc it g c fe vs) :=
  .of h fun F S H ρ σ d S' Q hk R rr hf hq => lc_own hg hc hk R rr hf hq
theorem ed_lcM (h : PE X e (tLc (rdI X.K it) t tt (rdE X.K fe) vs)) (hg : GW X.K t g vs) (hc : ∀ σ H Q, rdT X.K c σ H Q → tt σ H Q) : ED X e (dLcM it g c fe vs) :=
  .of h fun F S H ρ σ d S' Q hk R rr hf hq => lc_mut hg hc hk R rr hf hq
/-- name = [..] -/
theorem sd_setLc {i : Nat} (h : PS X st (tAsg (tLc (rdI X.K it) t tt (rdE X.K fe) vs) (gName i))) (hg : GW X.K t g vs) (hc : ∀ σ H Q, rdT X.K c σ H Q → tt σ H Q) : SD X st (dSet i (dLc it g c fe vs)) :=
  sd_set ⟨fun pins s σ H D I hw => h.run pins s σ H D I (by
    obtain ⟨F, S, ρ, d, S', hk, R, rr, hf, hq⟩ := hw
    exact lc_own hg hc hk R rr hf hq)⟩
theorem sd_setLcM {i : Nat} (h : PS X st (tAsg (tLc (rdI X.K it) t tt (rdE X.K fe) vs) (gName i))) (hg : GW X.K t g vs) (hc : ∀ σ H Q, rdT X.K c σ H Q → tt σ H Q) : SD X st (dSet i (dLcM it g c fe vs)) :=
  sd_set ⟨fun pins s σ H D I hw => h.run pins s σ H D I (by
    obtain ⟨F, S, ρ, d, S', hk, R, rr, hf, hq⟩ := hw
    exact lc_mut hg hc hk R rr hf hq)⟩
end
end Dn

namespace Dn
open PySem PySem.Spec PyProof.Rows L2

/-! ### what a value holds -/
def asL (S : Sto) : DV → Option (List DV)
  | .lst _ ds => some ds
  | .loc n => match S[n]? with
    | some (.lst ds) => some ds
    | some (.frz (.lst _ ds)) => some ds
    | _ => none
  | _ => none
/-- a list that is tracked as such (not the script, not the module's own) -/
def asT (S : Sto) : DV → Option (List DV)
  | .lst .own ds => some ds
  | .lst .bor ds => some ds
  | .loc n => match S[n]? with
    | some (.lst ds) => some ds
    | some (.frz (.lst .own ds)) => some ds
    | _ => none
  | _ => none
section
variable {F : Fm} {S : Sto} {H : Hp} {d : DV} {v : V} {ds : List DV}
theorem Rel.lstSq {k : LK} (R : Rep F S H) (r : Rel F (.lst k ds) v) : ∃ a xs, v = .ref a ∧ SqL F.K H a xs ∧ RelL F ds xs := by
  cases k with
  | own =>
    obtain ⟨a, xs, rfl, h, rl⟩ := r
    exact ⟨a, xs, rfl, SqL.of (R.g _ _ h), rl⟩
  | bor =>
    obtain ⟨a, xs, rfl, h, rl⟩ := r
    exact ⟨a, xs, rfl, SqL.of (h.elim (R.b _ _) (R.g _ _)), rl⟩
  | ext =>
    obtain ⟨a, xs, rfl, h, rl⟩ := r
    exact ⟨a, xs, rfl, sqL_same R.g h, rl⟩
theorem asL_sq (R : Rep F S H) (r : Rel F d v) (h : asL S d = some ds) : ∃ a xs, v = .ref a ∧ SqL F.K H a xs ∧ RelL F ds xs := by
  cases d with
  | lst k es =>
    cases (show some es = some ds from h)
    exact r.lstSq R
  | loc n =>
    obtain ⟨a, ha, rfl⟩ := r
    unfold asL at h
    simp only at h
    split at h
    · rename_i es hc
      cases h
      obtain ⟨⟨xs, e, rl⟩, _⟩ := R.cell n _ a hc ha
      exact ⟨a, xs, rfl, SqL.of e, rl⟩
    · rename_i k es hc
      cases h
      obtain ⟨rl, _⟩ := R.cell n _ a hc ha
      exact (show Rel F (.lst k ds) (.ref a) from rl).lstSq R
    · cases h
  | _ => cases h
theorem asT_sq (R : Rep F S H) (r : Rel F d v) (h : asT S d = some ds) : ∃ a xs, v = .ref a ∧ H a = some (.lst xs) ∧ RelL F ds xs := by
  cases d with
  | lst k es =>
    cases k with
    | own =>
      cases (show some es = some ds from h)
      obtain ⟨a, xs, rfl, h, rl⟩ := r
      exact ⟨a, xs, rfl, R.g _ _ h, rl⟩
    | bor =>
      cases (show some es = some ds from h)
      obtain ⟨a, xs, rfl, h, rl⟩ := r
      exact ⟨a, xs, rfl, h.elim (R.b _ _) (R.g _ _), rl⟩
    | ext => cases h
  | loc n =>
    obtain ⟨a, ha, rfl⟩ := r
    unfold asT at h
    simp only at h
    split at h
    · rename_i es hc
      cases h
      obtain ⟨⟨xs, e, rl⟩, _⟩ := R.cell n _ a hc ha
      exact ⟨a, xs, rfl, e, rl⟩
    · rename_i es hc
      cases h
      obtain ⟨rl, _⟩ := R.cell n _ a hc ha
      obtain ⟨b, xs, e1, h, rl⟩ := (show Rel F (.lst .own ds) (.ref a) from rl)
      cases e1
      exact ⟨a, xs, rfl, R.g _ _ h, rl⟩
    · cases h
  | _ => cases h
theorem tup_sq (R : Rep F S H) (r : Rel F (.tup ds) v) : ∃ a xs, v = .ref a ∧ SqT F.K H a xs ∧ RelL F ds xs := by
  obtain ⟨a, xs, rfl, h, rl⟩ := r
  exact ⟨a, xs, rfl, SqT.of (R.g _ _ h), rl⟩
theorem tup_at (R : Rep F S H) (r : Rel F (.tup ds) v) : ∃ a xs, v = .ref a ∧ H a = some (.tup xs) ∧ RelL F ds xs := by
  obtain ⟨a, xs, rfl, h, rl⟩ := r
  exact ⟨a, xs, rfl, R.g _ _ h, rl⟩
theorem tupx_sq (R : Rep F S H) (r : Rel F (.tupx ds) v) : ∃ a xs, v = .ref a ∧ SqT F.K H a xs ∧ RelL F ds xs := by
  obtain ⟨a, xs, rfl, h, rl⟩ := r
  exact ⟨a, xs, rfl, sqT_same R.g h, rl⟩
end

/-! ### arithmetic -/
abbrev PI2 := Int → Int → Option Int
def pI (g : PI2) : P2 := fun x y S => match x, y with
  | .int i, .int j => (match g i j with
    | some k => some (.int k, S)
    | none => none)
  | _, _ => none
theorem ok_I {K : PySem.W.Frag} {C : Int → Int → Prop} {g : Int → Int → Int} {p : PI2} (h : ∀ i j k, p i j = some k → C i j ∧ k = g i j) : Ok2 K (pI p) (rI C fun i j => .int (g i j)) :=
  fun F S H x y vx vy d S' Q hk R rx ry hp hq => by
    unfold pI at hp
    split at hp
    · rename_i i j
      split at hp
      · rename_i k hk
        cases hp
        obtain ⟨hc, rfl⟩ := h _ _ _ hk
        exact ⟨i, j, rx, ry, hc, hq F H _ (.refl F) R rfl⟩
      · cases hp
    · cases hp
theorem ok_I0 {K : PySem.W.Frag} {g : Int → Int → Int} : Ok2 K (pI fun i j => some (g i j)) (rI0 fun i j => .int (g i j)) :=
  fun F S H x y vx vy d S' Q hk R rx ry hp hq => by
    unfold pI at hp
    split at hp
    · cases hp
      exact ⟨_, _, rx, ry, hq F H _ (.refl F) R rfl⟩
    · cases hp
def gSub : PI2 := fun i j => some (i - j)
def gMul : PI2 := fun i j => if (i.natAbs < 18446744073709551616 ∨ j.natAbs < 18446744073709551616) ∨ i.natAbs.log2 + j.natAbs.log2 < 1000000 then some (i * j) else none
def gDiv : PI2 := fun i j => if 0 < j ∧ j.natAbs.log2 < 9000 then some (i / j) else none
def gMod : PI2 := fun i j => if 0 < j then some (i % j) else none
def gPow : PI2 := fun i j => if 0 ≤ j ∧ j ≤ 1000000 ∧ i.natAbs < 18446744073709551616 then some (i ^ j.toNat) else none
def gShl : PI2 := fun i j => if 0 ≤ j ∧ j ≤ 1000000 ∧ i.natAbs < 18446744073709551616 then some (i * 2 ^ j.toNat) else none
def gShr : PI2 := fun i j => if 0 ≤ j then some (i / 2 ^ j.toNat) else none
def gAnd : PI2 := fun i j => some (Builtin.bitAnd i j)
def gOr : PI2 := fun i j => some (Builtin.bitOr i j)
def gXor : PI2 := fun i j => some (Builtin.bitXor i j)
abbrev pSub : P2 := pI gSub
abbrev pDiv : P2 := pI gDiv
abbrev pMod : P2 := pI gMod
abbrev pPow : P2 := pI gPow
abbrev pShl : P2 := pI gShl
abbrev pShr : P2 := pI gShr
abbrev pAnd : P2 := pI gAnd
abbrev pOr : P2 := pI gOr
abbrev pXor : P2 := pI gXor
theorem of_ite2 {α : Type} {c : Prop} [Decidable c] {x z : α} (h : (if c then some x else none) = some z) : c ∧ z = x := by
  obtain ⟨h1, h2⟩ := of_ite h
  exact ⟨h1, (Option.some.inj h2).symm⟩
section
variable {X : Cx} {a b : Expr} {f g : DE} {pos : Pos}
theorem ed_sub (ha : ED X a f) (hb : ED X b g) : ED X (.BinOp a .Sub b pos) (dBin pSub f g) := ed_bin op_sub ok_I0 ha hb
theorem ed_div (ha : ED X a f) (hb : ED X b g) : ED X (.BinOp a .FloorDiv b pos) (dBin pDiv f g) := ed_bin op_fdivW (ok_I fun i j k h => by unfold gDiv at h; have h2 := of_ite2 h; exact h2) ha hb
theorem ed_mod (ha : ED X a f) (hb : ED X b g) : ED X (.BinOp a .Mod b pos) (dBin pMod f g) := ed_bin op_mod (ok_I fun i j k h => by unfold gMod at h; have h2 := of_ite2 h; exact h2) ha hb
theorem ed_pow (ha : ED X a f) (hb : ED X b g) : ED X (.BinOp a .Pow b pos) (dBin pPow f g) := ed_bin op_pow (ok_I fun i j k h => by unfold gPow at h; have h2 := of_ite2 h; exact ⟨⟨h2.1.1, h2.1.2.1, by have := h2.1.2.2; omega⟩, h2.2⟩) ha hb
theorem ed_shl (ha : ED X a f) (hb : ED X b g) : ED X (.BinOp a .LShift b pos) (dBin pShl f g) := ed_bin op_shl (ok_I fun i j k h => by unfold gShl at h; have h2 := of_ite2 h; exact ⟨⟨h2.1.1, h2.1.2.1, by have := h2.1.2.2; omega⟩, h2.2⟩) ha hb
theorem ed_shr (ha : ED X a f) (hb : ED X b g) : ED X (.BinOp a .RShift b pos) (dBin pShr f g) := ed_bin op_shr (ok_I fun i j k h => by unfold gShr at h; have h2 := of_ite2 h; exact h2) ha hb
theorem ed_band (ha : ED X a f) (hb : ED X b g) : ED X (.BinOp a .BitAnd b pos) (dBin pAnd f g) := ed_bin op_and ok_I0 ha hb
theorem ed_bor (ha : ED X a f) (hb : ED X b g) : ED X (.BinOp a .BitOr b pos) (dBin pOr f g) := ed_bin op_or ok_I0 ha hb
theorem ed_bxor (ha : ED X a f) (hb : ED X b g) : ED X (.BinOp a .BitXor b pos) (dBin pXor f g) := ed_bin op_xor ok_I0 ha hb
def pNeg : P1 := fun x S => match x with
  | .int i => some (.int (-i), S)
  | _ => none
theorem ed_neg (ha : ED X a f) : ED X (.UnaryOp .USub a pos) (dUn pNeg f) := ed_un un_neg (fun F S H x vx d S' Q hk R rx hp hq => by
  unfold pNeg at hp
  split at hp
  · cases hp
    exact ⟨_, rx, hq F H _ (.refl F) R rfl⟩
  · cases hp) ha
end
/-! ### + and * over more kinds -/
def pAdd : P2 := fun x y S => match x, y with
  | .int i, .int j => some (.int (i + j), S)
  | .str a, .str b => if a.length + b.length ≤ sizeLine then some (.str (a ++ b), S) else none
  | .tup xs, .tup ys => if xs.length + ys.length ≤ sizeLine then some (.tup (xs ++ ys), S) else none
  | x, y => (match asT S x, asT S y with
    | some xs, some ys => if xs.length + ys.length ≤ sizeLine then some (.lst .own (xs ++ ys), S) else none
    | _, _ => none)
def pAddM : P2 := fun x y S => match asT S x, asT S y with
  | some xs, some ys => if xs.length + ys.length ≤ sizeLine then some (.loc S.length, S ++ [.lst (xs ++ ys)]) else none
  | _, _ => none
abbrev rAddAll (K : PySem.W.Frag) : R2 := fun x y H Q => (rI0 fun i j => .int (i + j)) x y H Q ∨ (fun x y H Q => (fun x y H Q => ∃ i j, x = .str i ∧ y = .str j ∧ i.length + j.length ≤ sizeLine ∧ Q (.str (i ++ j)) H) x y H Q ∨ (fun x y H Q => rCat x y H Q ∨ rCatA K x y H Q) x y H Q) x y H Q
theorem op_addAll {X : Cx} : OpR X (binaryOp .Add) (rAddAll X.K) := op_add.or (op_add_str.or (op_cat.or op_catA))
theorem ok_add {K : PySem.W.Frag} : Ok2 K pAdd (rAddAll K) := fun F S H x y vx vy d S' Q hk R rx ry hp hq => by
  unfold pAdd at hp
  split at hp
  · cases hp
    exact .inl ⟨_, _, rx, ry, hq F H _ (.refl F) R rfl⟩
  · obtain ⟨h1, h2⟩ := of_ite hp
    cases h2
    exact .inr (.inl ⟨_, _, rx, ry, h1, hq F H _ (.refl F) R rfl⟩)
  · rename_i xs ys
    obtain ⟨h1, h2⟩ := of_ite hp
    cases h2
    obtain ⟨a, us, rfl, sa, ra⟩ := tup_sq R rx
    obtain ⟨b, ws, rfl, sb, rb⟩ := tup_sq R ry
    rw [hk] at sa sb
    refine .inr (.inr (.inr ⟨a, b, us, ws, rfl, rfl, sa, sb, by rw [← ra.length, ← rb.length]; exact h1, fun e => ?_, fun n e => ?_, fun n1 n2 => new_tup R (ra.append rb) hq⟩))
    · have e2 : xs = [] := List.eq_nil_of_length_eq_zero (by rw [ra.length, e]; rfl)
      subst e2
      exact hq F H _ (.refl F) R ry
    · have e2 : ys = [] := List.eq_nil_of_length_eq_zero (by rw [rb.length, e]; rfl)
      subst e2
      rw [List.append_nil] at hq
      exact hq F H _ (.refl F) R rx
  · split at hp
    · rename_i xs ys h1 h2
      obtain ⟨h3, h4⟩ := of_ite hp
      cases h4
      obtain ⟨a, us, rfl, sa, ra⟩ := asT_sq R rx h1
      obtain ⟨b, ws, rfl, sb, rb⟩ := asT_sq R ry h2
      exact .inr (.inr (.inl ⟨a, b, us, ws, rfl, rfl, sa, sb, by rw [← ra.length, ← rb.length]; exact h3, new_lst R (ra.append rb) hq⟩))
    · cases hp
theorem ok_addM {K : PySem.W.Frag} : Ok2 K pAddM rCat := fun F S H x y vx vy d S' Q hk R rx ry hp hq => by
  unfold pAddM at hp
  split at hp
  · rename_i xs ys h1 h2
    obtain ⟨h3, h4⟩ := of_ite hp
    cases h4
    obtain ⟨a, us, rfl, sa, ra⟩ := asT_sq R rx h1
    obtain ⟨b, ws, rfl, sb, rb⟩ := asT_sq R ry h2
    exact ⟨a, b, us, ws, rfl, rfl, sa, sb, by rw [← ra.length, ← rb.length]; exact h3, new_lstM R (ra.append rb) hq⟩
  · cases hp
def repD (xs : List DV) (k : Nat) : List DV := (List.replicate k xs).flatten
def pMul : P2 := fun x y S => match x, y with
  | .int i, .int j => (match gMul i j with
    | some k => some (.int k, S)
    | none => none)
  | x, .int k => (match asT S x with
    | some xs => if k.natAbs < 9223372036854775808 ∧ xs.length * k.toNat ≤ sizeLine then some (.lst .own (repD xs k.toNat), S) else none
    | none => none)
  | _, _ => none
def pMulM : P2 := fun x y S => match y with
  | .int k => (match asT S x with
    | some xs => if k.natAbs < 9223372036854775808 ∧ xs.length * k.toNat ≤ sizeLine then some (.loc S.length, S ++ [.lst (repD xs k.toNat)]) else none
    | none => none)
  | _ => none
theorem RelL.rep {F : Fm} {ds : List DV} {vs : List V} (r : RelL F ds vs) : ∀ k : Nat, RelL F (repD ds k) (List.replicate k vs).flatten
  | 0 => rfl
  | k + 1 => by
    unfold repD
    rw [List.replicate_succ, List.replicate_succ, List.flatten_cons, List.flatten_cons]
    exact r.append (RelL.rep r k)
def CMulA (i j : Int) : Prop := CMul i j ∨ CMulW i j
theorem gMul_ok {i j : Int} (h : (i.natAbs < 18446744073709551616 ∨ j.natAbs < 18446744073709551616) ∨ i.natAbs.log2 + j.natAbs.log2 < 1000000) : CMulA i j := by
  rcases h with (h | h) | h
  · exact .inl (.inl ⟨by omega, by omega⟩)
  · exact .inl (.inr ⟨by omega, by omega⟩)
  · exact .inr h
theorem op_mulA {X : Cx} : OpR X (binaryOp .Mult) (rI CMulA fun i j => .int (i * j)) := opI fun _ _ _ _ _ _ _ hc q => mul_int q (hc.elim CMul.ok CMulW.ok)
abbrev rMulAll : R2 := fun x y H Q => (rI CMulA fun i j => .int (i * j)) x y H Q ∨ rRep x y H Q
theorem op_mulAll {X : Cx} : OpR X (binaryOp .Mult) rMulAll := op_mulA.or op_rep
theorem ok_mul {K : PySem.W.Frag} : Ok2 K pMul rMulAll := fun F S H x y vx vy d S' Q hk R rx ry hp hq => by
  unfold pMul at hp
  split at hp
  · unfold gMul at hp
    split at hp
    · rename_i k hg
      obtain ⟨h1, rfl⟩ := of_ite2 hg
      cases hp
      exact .inl ⟨_, _, rx, ry, gMul_ok h1, hq F H _ (.refl F) R rfl⟩
    · cases hp
  · split at hp
    · rename_i xs h1
      obtain ⟨⟨h2, h4⟩, h5⟩ := of_ite hp
      cases h5
      obtain ⟨a, us, rfl, sa, ra⟩ := asT_sq R rx h1
      have ey : vy = .int _ := ry
      refine .inr ⟨a, _, us, rfl, ey, sa, by omega, by omega, by rw [← ra.length]; exact h4, new_lst R (ra.rep _) hq⟩
    · cases hp
  · cases hp
theorem ok_mulM {K : PySem.W.Frag} : Ok2 K pMulM rRep := fun F S H x y vx vy d S' Q hk R rx ry hp hq => by
  unfold pMulM at hp
  split at hp
  · split at hp
    · rename_i xs h1
      obtain ⟨⟨h2, h4⟩, h5⟩ := of_ite hp
      cases h5
      obtain ⟨a, us, rfl, sa, ra⟩ := asT_sq R rx h1
      have ey : vy = .int _ := ry
      refine ⟨a, _, us, rfl, ey, sa, by omega, by omega, by rw [← ra.length]; exact h4, new_lstM R (ra.rep _) hq⟩
    · cases hp
  · cases hp

/-! ### == and != -/
mutual
def toPy : DV → Option PyData
  | .non => some .none
  | .bl b => some (.bool b)
  | .int i => some (.int i)
  | .str s => some (.str s)
  | .tup ds => match toPyL ds with
    | some es => some (.tuple es)
    | none => none
  | .lst _ ds => match toPyL ds with
    | some es => some (.list es)
    | none => none
  | _ => none
def toPyL : List DV → Option (List PyData)
  | [] => some []
  | d :: ds => match toPy d with
    | some e => (match toPyL ds with
      | some es => some (e :: es)
      | none => none)
    | none => none
end
mutual
theorem toPy_dp {F : Fm} {H : Hp} (hg : Same F.G H) (hb : Same F.B H) : ∀ (d : DV) (v : V) (e : PyData), Rel F d v → toPy d = some e → Dp F.K H v e
  | .non, v, e, r, h => by
    cases (show some PyData.none = some e from h)
    rw [show v = .non from r]
    exact .non
  | .bl b, v, e, r, h => by
    cases (show some (PyData.bool b) = some e from h)
    rw [show v = .bl b from r]
    exact .bl b
  | .int b, v, e, r, h => by
    cases (show some (PyData.int b) = some e from h)
    rw [show v = .int b from r]
    exact .int b
  | .str b, v, e, r, h => by
    cases (show some (PyData.str b) = some e from h)
    rw [show v = .str b from r]
    exact .str b
  | .tup ds, v, e, r, h => by
    unfold toPy at h
    split at h
    · rename_i es he
      cases h
      obtain ⟨a, xs, rfl, hs, rl⟩ := r
      exact .tup (SqT.of (hg _ _ hs)) (toPyL_dp hg hb ds xs es rl he)
    · cases h
  | .lst k ds, v, e, r, h => by
    unfold toPy at h
    split at h
    · rename_i es he
      cases h
      cases k with
      | own =>
        obtain ⟨a, xs, rfl, hs, rl⟩ := r
        exact .lst (SqL.of (hg _ _ hs)) (toPyL_dp hg hb ds xs es rl he)
      | bor =>
        obtain ⟨a, xs, rfl, hs, rl⟩ := r
        exact .lst (SqL.of (hs.elim (hb _ _) (hg _ _))) (toPyL_dp hg hb ds xs es rl he)
      | ext =>
        obtain ⟨a, xs, rfl, hs, rl⟩ := r
        exact .lst (sqL_same hg hs) (toPyL_dp hg hb ds xs es rl he)
    · cases h
  | .dik _ _ _, v, e, r, h => by cases (show none = some e from h)
  | .tupx _, v, e, r, h => by cases (show none = some e from h)
  | .dit _ _ _, v, e, r, h => by cases (show none = some e from h)
  | .loc _, v, e, r, h => by cases (show none = some e from h)
theorem toPyL_dp {F : Fm} {H : Hp} (hg : Same F.G H) (hb : Same F.B H) : ∀ (ds : List DV) (vs : List V) (es : List PyData), RelL F ds vs → toPyL ds = some es → DpAll F.K H vs es
  | [], vs, es, r, h => by
    cases (show some ([] : List PyData) = some es from h)
    rw [show vs = [] from r]
    exact .nil
  | d :: ds, vs, es, r, h => by
    obtain ⟨x, xr, rfl, h1, h2⟩ := r
    unfold toPyL at h
    split at h
    · rename_i e he
      split at h
      · rename_i es' hes
        cases h
        exact .cons (toPy_dp hg hb d x e h1 he) (toPyL_dp hg hb ds xr es' h2 hes)
      · cases h
    · cases h
end
def scD : DV → DV → Option Bool
  | .non, .non => some true
  | .non, .int _ => some false
  | .int _, .non => some false
  | .non, .str _ => some false
  | .str _, .non => some false
  | .non, .bl _ => some false
  | .bl _, .non => some false
  | .int i, .int j => some (decide (i = j))
  | .bl i, .bl j => some (decide (i = j))
  | .str i, .str j => some (decide (i = j))
  | .int _, .str _ => some false
  | .str _, .int _ => some false
  | .bl _, .str _ => some false
  | .str _, .bl _ => some false
  | _, _ => none
def eqDeep (S : Sto) (x y : DV) : Option Bool := match cpD true S x, cpD true S y with
  | some x', some y' => (match toPy x', toPy y' with
    | some d, some e => if SeqAt.shaped d = true ∧ SeqAt.shaped e = true then some (PyData.eqv d e) else none
    | _, _ => none)
  | _, _ => none
def eqD (S : Sto) (x y : DV) : Option Bool := match scD x y with
  | some b => some b
  | none => eqDeep S x y
def pEq (neg : Bool) : P2 := fun x y S => match eqD S x y with
  | some b => some (.bl (if neg then !b else b), S)
  | none => none
theorem scD_ok {F : Fm} {x y : DV} {vx vy : V} {b : Bool} (rx : Rel F x vx) (ry : Rel F y vy) (h : scD x y = some b) : scal vx vy = true ∧ decide (vx = vy) = b := by
  have g : ∀ {i j : Int}, decide (V.int i = V.int j) = decide (i = j) := fun {i j} => by
    by_cases q : i = j
    · rw [q, decide_eq_true rfl, decide_eq_true rfl]
    · rw [decide_eq_false q, decide_eq_false fun z => q (V.int.inj z)]
  have g2 : ∀ {i j : Bool}, decide (V.bl i = V.bl j) = decide (i = j) := fun {i j} => by
    by_cases q : i = j
    · rw [q, decide_eq_true rfl, decide_eq_true rfl]
    · rw [decide_eq_false q, decide_eq_false fun z => q (V.bl.inj z)]
  have g3 : ∀ {i j : Str}, decide (V.str i = V.str j) = decide (i = j) := fun {i j} => by
    by_cases q : i = j
    · rw [q, decide_eq_true rfl, decide_eq_true rfl]
    · rw [decide_eq_false q, decide_eq_false fun z => q (V.str.inj z)]
  cases x <;> cases y <;> first
    | (cases h; done)
    | (obtain rfl := (show vx = _ from rx)
       obtain rfl := (show vy = _ from ry)
       cases h
       first
        | exact ⟨rfl, rfl⟩
        | exact ⟨rfl, g⟩
        | exact ⟨rfl, g2⟩
        | exact ⟨rfl, g3⟩)
theorem eqDeep_ok {F : Fm} {S : Sto} {H : Hp} {x y : DV} {vx vy : V} {b : Bool} (R : Rep F S H) (rx : Rel F x vx) (ry : Rel F y vy) (h : eqDeep S x y = some b) : ∃ d e, Dp F.K H vx d ∧ Dp F.K H vy e ∧ SeqAt.shaped d = true ∧ SeqAt.shaped e = true ∧ b = PyData.eqv d e := by
  unfold eqDeep at h
  split at h
  · rename_i x' y' hx hy
    split at h
    · rename_i d e hd he
      obtain ⟨⟨s1, s2⟩, rfl⟩ := of_ite2 h
      have r1 : RelL ⟨F.K, F.G, H, fun _ => none, []⟩ [x'] [vx] := cpL_bor R (ds := [x]) (by unfold cpL mapDL mapDL; rw [show mapD true _ x = some x' from hx]) ⟨vx, [], rfl, rx, rfl⟩
      have r2 : RelL ⟨F.K, F.G, H, fun _ => none, []⟩ [y'] [vy] := cpL_bor R (ds := [y]) (by unfold cpL mapDL mapDL; rw [show mapD true _ y = some y' from hy]) ⟨vy, [], rfl, ry, rfl⟩
      obtain ⟨_, _, e1, r1, _⟩ := r1
      obtain ⟨_, _, e2, r2, _⟩ := r2
      cases e1
      cases e2
      exact ⟨d, e, toPy_dp (F := ⟨F.K, F.G, H, fun _ => none, []⟩) R.g (Same.refl _) x' vx d r1 hd, toPy_dp (F := ⟨F.K, F.G, H, fun _ => none, []⟩) R.g (Same.refl _) y' vy e r2 he, s1, s2, rfl⟩
    · cases h
  · cases h
abbrev rEqAll (K : PySem.W.Frag) : R2 := fun x y H Q => rEq x y H Q ∨ rEqD K x y H Q
abbrev rNeAll (K : PySem.W.Frag) : R2 := fun x y H Q => rNe x y H Q ∨ rNeD K x y H Q
theorem ok_eq {K : PySem.W.Frag} : Ok2 K (pEq false) (rEqAll K) := fun F S H x y vx vy d S' Q hk R rx ry hp hq => by
  unfold pEq at hp
  split at hp
  · rename_i b he
    cases hp
    unfold eqD at he
    split at he
    · rename_i b' hs
      cases he
      obtain ⟨h1, h2⟩ := scD_ok rx ry hs
      exact .inl ⟨h1, by rw [h2]; exact hq F H _ (.refl F) R rfl⟩
    · obtain ⟨d, e, h1, h2, h3, h4, rfl⟩ := eqDeep_ok R rx ry he
      rw [hk] at h1 h2
      exact .inr ⟨d, e, h1, h2, h3, h4, hq F H _ (.refl F) R rfl⟩
  · cases hp
theorem ok_ne {K : PySem.W.Frag} : Ok2 K (pEq true) (rNeAll K) := fun F S H x y vx vy d S' Q hk R rx ry hp hq => by
  unfold pEq at hp
  split at hp
  · rename_i b he
    cases hp
    unfold eqD at he
    split at he
    · rename_i b' hs
      cases he
      obtain ⟨h1, h2⟩ := scD_ok rx ry hs
      exact .inl ⟨h1, by rw [h2]; exact hq F H _ (.refl F) R rfl⟩
    · obtain ⟨d, e, h1, h2, h3, h4, rfl⟩ := eqDeep_ok R rx ry he
      rw [hk] at h1 h2
      exact .inr ⟨d, e, h1, h2, h3, h4, hq F H _ (.refl F) R rfl⟩
  · cases hp

/-! ### other comparisons -/
def pCmp (g : Int → Int → Bool) : P2 := fun x y S => match x, y with
  | .int i, .int j => some (.bl (g i j), S)
  | _, _ => none
abbrev pLt : P2 := pCmp fun i j => decide (i < j)
abbrev pLe : P2 := pCmp fun i j => decide (i ≤ j)
abbrev pGt : P2 := pCmp fun i j => decide (j < i)
abbrev pGe : P2 := pCmp fun i j => decide (j ≤ i)
theorem ok_cmp {K : PySem.W.Frag} {g : Int → Int → Bool} : Ok2 K (pCmp g) (rI0 fun i j => .bl (g i j)) := fun F S H x y vx vy d S' Q hk R rx ry hp hq => by
  unfold pCmp at hp
  split at hp
  · cases hp
    exact ⟨_, _, rx, ry, hq F H _ (.refl F) R rfl⟩
  · cases hp
def isNon : DV → Bool
  | .non => true
  | _ => false
def pIs (neg : Bool) : P2 := fun x y S => match y with
  | .non => some (.bl (if neg then !isNon x else isNon x), S)
  | _ => none
theorem isNon_ok {F : Fm} {x : DV} {v : V} (r : Rel F x v) : decide (v = .non) = isNon x := by
  cases x with
  | non =>
    obtain rfl := (show v = _ from r)
    exact decide_eq_true rfl
  | bl b =>
    obtain rfl := (show v = _ from r)
    exact decide_eq_false fun q => nomatch q
  | int b =>
    obtain rfl := (show v = _ from r)
    exact decide_eq_false fun q => nomatch q
  | str b =>
    obtain rfl := (show v = _ from r)
    exact decide_eq_false fun q => nomatch q
  | tup ds =>
    obtain ⟨a, xs, rfl, _⟩ := r
    exact decide_eq_false fun q => nomatch q
  | lst k ds =>
    cases k <;>
    · obtain ⟨a, xs, rfl, _⟩ := r
      exact decide_eq_false fun q => nomatch q
  | tupx ds =>
    obtain ⟨a, xs, rfl, _⟩ := r
    exact decide_eq_false fun q => nomatch q
  | dik k ks ds =>
    obtain ⟨a, xs, rfl, _⟩ := r
    exact decide_eq_false fun q => nomatch q
  | dit k ks ds =>
    obtain ⟨a, xs, rfl, _⟩ := r
    exact decide_eq_false fun q => nomatch q
  | loc n =>
    obtain ⟨a, _, rfl⟩ := r
    exact decide_eq_false fun q => nomatch q
theorem ok_is {K : PySem.W.Frag} : Ok2 K (pIs false) (fun x y H Q => y = .non ∧ Q (.bl (decide (x = .non))) H) := fun F S H x y vx vy d S' Q hk R rx ry hp hq => by
  unfold pIs at hp
  split at hp
  · cases hp
    exact ⟨ry, by rw [isNon_ok rx]; exact hq F H _ (.refl F) R rfl⟩
  · cases hp
theorem ok_isnot {K : PySem.W.Frag} : Ok2 K (pIs true) (fun x y H Q => y = .non ∧ Q (.bl (!decide (x = .non))) H) := fun F S H x y vx vy d S' Q hk R rx ry hp hq => by
  unfold pIs at hp
  split at hp
  · cases hp
    exact ⟨ry, by rw [isNon_ok rx]; exact hq F H _ (.refl F) R rfl⟩
  · cases hp
/-- flat values: as in «in» over a list or tuple -/
def flD : DV → Bool
  | .non => true
  | .bl _ => true
  | .int _ => true
  | .str _ => true
  | _ => false
def eqF : DV → DV → Bool
  | .non, .non => true
  | .bl a, .bl b => a == b
  | .int a, .int b => a == b
  | .str a, .str b => a == b
  | .bl a, .int b => (if a then 1 else 0) == b
  | .int a, .bl b => a == (if b then 1 else 0)
  | _, _ => false
end Dn

namespace Dn
open PySem PySem.Spec PyProof.Rows L2

theorem PE.or {X : Cx} {e : Expr} {t u : TE} (h : PE X e t) (k : PE X e u) : PE X e (fun σ H Q => t σ H Q ∨ u σ H Q) := ⟨fun pins s σ H Q I w => w.elim (h.run pins s σ H Q I) (k.run pins s σ H Q I)⟩
theorem PT.or {X : Cx} {e : Expr} {t u : TT} (h : PT X e t) (k : PT X e u) : PT X e (fun σ H Q => t σ H Q ∨ u σ H Q) := ⟨fun pins s σ H Q I w => w.elim (h.run pins s σ H Q I) (k.run pins s σ H Q I)⟩
theorem PI.or {X : Cx} {tg e : Expr} {t u : TI} (h : PI X tg e t) (k : PI X tg e u) : PI X tg e (fun σ H Q => t σ H Q ∨ u σ H Q) := ⟨fun pins s σ H Q I w => w.elim (h.run pins s σ H Q I) (k.run pins s σ H Q I)⟩

/-! ### flat data -/
theorem flD_ok {F : Fm} {x : DV} {v : V} (r : Rel F x v) (h : flD x = true) : flatV v = true ∧ ∀ {y : DV} {u : V}, Rel F y u → flD y = true → eqV v u = eqF x y := by
  cases x <;> first
    | (cases h; done)
    | (obtain rfl := (show v = _ from r)
       refine ⟨rfl, fun {y u} ry hy => ?_⟩
       cases y <;> first
        | (cases hy; done)
        | (obtain rfl := (show u = _ from ry)
           rfl))
def inD (x : DV) (ds : List DV) : Bool := ds.any fun y => eqF y x
theorem inD_ok {F : Fm} {x : DV} {v : V} (r : Rel F x v) (h : flD x = true) : ∀ {ds : List DV} {vs : List V}, RelL F ds vs → ds.all flD = true → vs.all flatV = true ∧ inV v vs = inD x ds
  | [], vs, rl, _ => by
    obtain rfl := (show vs = [] from rl)
    exact ⟨rfl, rfl⟩
  | d :: ds, vs, rl, ha => by
    obtain ⟨u, ur, rfl, h1, h2⟩ := rl
    rw [List.all_cons] at ha
    obtain ⟨k1, k2⟩ := Bool.and_eq_true_iff.mp ha
    obtain ⟨e1, e2⟩ := inD_ok r h h2 k2
    obtain ⟨f1, f2⟩ := flD_ok h1 k1
    refine ⟨by rw [List.all_cons, f1, e1] <;> rfl, ?_⟩
    have e2' : (ur.any fun y => eqV y v) = ds.any fun y => eqF y x := e2
    show ((u :: ur).any fun y => eqV y v) = (d :: ds).any fun y => eqF y x
    rw [List.any_cons, List.any_cons, f2 r h, e2']

/-! ### dicts -/
def asK (S : Sto) : DV → Option (List Key × List DV)
  | .dik _ ks ds => some (ks, ds)
  | .loc n => match S[n]? with
    | some (.dik ks ds) => some (ks, ds)
    | some (.frz (.dik _ ks ds)) => some (ks, ds)
    | some (.lok ks ds) => some (ks, ds)
    | _ => none
  | _ => none
/-- .. but not of one that is being walked -/
def asK0 (S : Sto) : DV → Option (List Key × List DV)
  | .dik _ ks ds => some (ks, ds)
  | .loc n => match S[n]? with
    | some (.dik ks ds) => some (ks, ds)
    | some (.frz (.dik _ ks ds)) => some (ks, ds)
    | _ => none
  | _ => none
def asKT (S : Sto) : DV → Option (List (List Key) × List DV)
  | .dit _ ks ds => some (ks, ds)
  | .loc n => match S[n]? with
    | some (.dit ks ds) => some (ks, ds)
    | some (.frz (.dit _ ks ds)) => some (ks, ds)
    | _ => none
  | _ => none
def keyD : DV → Option Key
  | .int i => some (.inl i)
  | .str s => some (.inr s)
  | _ => none
def keysD : List DV → Option (List Key)
  | [] => some []
  | d :: ds => match keyD d with
    | some k => (match keysD ds with
      | some ks => some (k :: ks)
      | none => none)
    | none => none
def keyT : DV → Option (List Key)
  | .tup ds => keysD ds
  | _ => none
def lkD {κ : Type} [DecidableEq κ] : List κ → List DV → κ → Option DV
  | k :: ks, d :: ds, j => if k = j then some d else lkD ks ds j
  | _, _, _ => none
def rpG {κ α : Type} [DecidableEq κ] (j : κ) (x : α) : List κ → List α → List α
  | k :: ks, d :: ds => (if k = j then x else d) :: rpG j x ks ds
  | _, _ => []
def hasK {κ : Type} [DecidableEq κ] (ks : List κ) (j : κ) : Bool := ks.any fun k => decide (k = j)
def putKs {κ : Type} [DecidableEq κ] (ks : List κ) (j : κ) : List κ := if hasK ks j = true then ks else ks ++ [j]
def putVs {κ : Type} [DecidableEq κ] (ks : List κ) (ds : List DV) (j : κ) (x : DV) : List DV := if hasK ks j = true then rpG j x ks ds else ds ++ [x]
section
variable {F : Fm} {S : Sto} {H : Hp} {d : DV} {v : V}
theorem asK_ok (R : Rep F S H) (r : Rel F d v) {ks : List Key} {ds : List DV} (h : asK S d = some (ks, ds)) : ∃ a xs, v = .ref a ∧ ks.length = ds.length ∧ Rd H a (.dK (ks.zip xs)) ∧ RelL F ds xs := by
  cases d with
  | dik k es fs =>
    cases (show some (es, fs) = some (ks, ds) from h)
    obtain ⟨a, xs, rfl, hz, h, rl⟩ := r
    exact ⟨a, xs, rfl, hz, .inl (h.elim (R.g _ _) fun h => R.b _ _ h.2), rl⟩
  | loc n =>
    obtain ⟨a, ha, rfl⟩ := r
    unfold asK at h
    simp only at h
    split at h
    · rename_i es fs hc
      cases h
      obtain ⟨⟨xs, hz, e, rl⟩, _⟩ := R.cell n _ a hc ha
      exact ⟨a, xs, rfl, hz, .inl e, rl⟩
    · rename_i k es fs hc
      cases h
      obtain ⟨rl, _⟩ := R.cell n _ a hc ha
      obtain ⟨b, xs, e1, hz, h, rl⟩ := (show Rel F (.dik k ks ds) (.ref a) from rl)
      cases e1
      exact ⟨a, xs, rfl, hz, .inl (h.elim (R.g _ _) fun h => R.b _ _ h.2), rl⟩
    · rename_i es fs hc
      cases h
      obtain ⟨⟨o, xs, hz, e, rl⟩, _⟩ := R.cell n _ a hc ha
      exact ⟨a, xs, rfl, hz, .inr ⟨o, R.p _ _ e⟩, rl⟩
    · cases h
  | _ => cases h
theorem asK0_ok (R : Rep F S H) (r : Rel F d v) {ks : List Key} {ds : List DV} (h : asK0 S d = some (ks, ds)) : ∃ a xs, v = .ref a ∧ ks.length = ds.length ∧ H a = some (.dK (ks.zip xs)) ∧ RelL F ds xs := by
  cases d with
  | dik k es fs =>
    cases (show some (es, fs) = some (ks, ds) from h)
    obtain ⟨a, xs, rfl, hz, h, rl⟩ := r
    exact ⟨a, xs, rfl, hz, h.elim (R.g _ _) fun h => R.b _ _ h.2, rl⟩
  | loc n =>
    obtain ⟨a, ha, rfl⟩ := r
    unfold asK0 at h
    simp only at h
    split at h
    · rename_i es fs hc
      cases h
      obtain ⟨⟨xs, hz, e, rl⟩, _⟩ := R.cell n _ a hc ha
      exact ⟨a, xs, rfl, hz, e, rl⟩
    · rename_i k es fs hc
      cases h
      obtain ⟨rl, _⟩ := R.cell n _ a hc ha
      obtain ⟨b, xs, e1, hz, h, rl⟩ := (show Rel F (.dik k ks ds) (.ref a) from rl)
      cases e1
      exact ⟨a, xs, rfl, hz, h.elim (R.g _ _) fun h => R.b _ _ h.2, rl⟩
    · cases h
  | _ => cases h
theorem asKT_ok (R : Rep F S H) (r : Rel F d v) {ks : List (List Key)} {ds : List DV} (h : asKT S d = some (ks, ds)) : ∃ a xs, v = .ref a ∧ ks.length = ds.length ∧ H a = some (.dT (ks.zip xs)) ∧ RelL F ds xs := by
  cases d with
  | dit k es fs =>
    cases (show some (es, fs) = some (ks, ds) from h)
    obtain ⟨a, xs, rfl, hz, h, rl⟩ := r
    exact ⟨a, xs, rfl, hz, h.elim (R.g _ _) fun h => R.b _ _ h.2, rl⟩
  | loc n =>
    obtain ⟨a, ha, rfl⟩ := r
    unfold asKT at h
    simp only at h
    split at h
    · rename_i es fs hc
      cases h
      obtain ⟨⟨xs, hz, e, rl⟩, _⟩ := R.cell n _ a hc ha
      exact ⟨a, xs, rfl, hz, e, rl⟩
    · rename_i k es fs hc
      cases h
      obtain ⟨rl, _⟩ := R.cell n _ a hc ha
      obtain ⟨b, xs, e1, hz, h, rl⟩ := (show Rel F (.dit k ks ds) (.ref a) from rl)
      cases e1
      exact ⟨a, xs, rfl, hz, h.elim (R.g _ _) fun h => R.b _ _ h.2, rl⟩
    · cases h
  | _ => cases h
theorem keyD_ok {k : Key} (r : Rel F d v) (h : keyD d = some k) : v = kV k := by
  cases d <;> first
    | (cases h; done)
    | (cases h
       exact r)
theorem keysD_ok : ∀ {ds : List DV} {vs : List V} {ks : List Key}, RelL F ds vs → keysD ds = some ks → vs = ks.map kV
  | [], vs, ks, r, h => by
    cases (show some ([] : List Key) = some ks from h)
    exact r
  | d :: ds, vs, ks, r, h => by
    obtain ⟨x, xr, rfl, h1, h2⟩ := r
    unfold keysD at h
    split at h
    · rename_i k hk
      split at h
      · rename_i ks' hks
        cases h
        rw [keyD_ok h1 hk, keysD_ok h2 hks] <;> rfl
      · cases h
    · cases h
theorem lk_ok {κ : Type} [DecidableEq κ] (j : κ) : ∀ {ks : List κ} {ds : List DV} {xs : List V}, RelL F ds xs → (∀ {e : DV}, lkD ks ds j = some e → ∃ x, valV (ks.zip xs) j = some x ∧ Rel F e x) ∧ (ks.length = ds.length → lkD ks ds j = none → valV (ks.zip xs) j = none)
  | [], ds, xs, r => by
    refine ⟨fun {e} h => ?_, fun _ _ => ?_⟩
    · unfold lkD at h
      cases h
    · rw [List.zip_nil_left] <;> rfl
  | k :: ks, [], xs, r => by
    refine ⟨fun {e} h => ?_, fun h => ?_⟩
    · unfold lkD at h
      cases h
    · cases h
  | k :: ks, d :: ds, xs, r => by
    obtain ⟨x, xr, rfl, h1, h2⟩ := r
    obtain ⟨i1, i2⟩ := lk_ok j (ks := ks) h2
    rw [List.zip_cons_cons]
    by_cases q : k = j
    · refine ⟨fun {e} h => ?_, fun _ h => ?_⟩
      · unfold lkD at h
        rw [if_pos q] at h
        cases h
        exact ⟨x, valV_pos q, h1⟩
      · unfold lkD at h
        rw [if_pos q] at h
        cases h
    · refine ⟨fun {e} h => ?_, fun hl h => ?_⟩
      · unfold lkD at h
        rw [if_neg q] at h
        obtain ⟨y, y1, y2⟩ := i1 h
        exact ⟨y, by rw [valV_neg q]; exact y1, y2⟩
      · unfold lkD at h
        rw [if_neg q] at h
        rw [valV_neg q]
        exact i2 (Nat.succ.inj hl) h
end
/-- what a dict has for a key: none: this is no dict or no key -/
def getD (S : Sto) (x k : DV) : Option (Option DV) := match asK S x, keyD k with
  | some (ks, ds), some j => some (lkD ks ds j)
  | _, _ => (match asKT S x, keyT k with
    | some (ks, ds), some j => some (lkD ks ds j)
    | _, _ => none)
theorem getD_ok {F : Fm} {S : Sto} {H : Hp} {x k : DV} {vx vk : V} {o : Option DV} (R : Rep F S H) (rx : Rel F x vx) (rk : Rel F k vk) (h : getD S x k = some o) : ∃ a r, vx = .ref a ∧ DGet H a vk r ∧ (∀ {d}, o = some d → ∃ v, r = some v ∧ Rel F d v) ∧ (o = none → r = none) := by
  unfold getD at h
  split at h
  · rename_i ks ds j h1 h2
    cases h
    obtain ⟨a, xs, rfl, hz, e, rl⟩ := asK_ok R rx h1
    obtain rfl := keyD_ok rk h2
    obtain ⟨i1, i2⟩ := lk_ok (F := F) j (ks := ks) rl
    exact ⟨a, _, rfl, .inl ⟨_, _, e, rfl, rfl⟩, fun {d} q => i1 q, fun q => i2 hz q⟩
  · split at h
    · rename_i ks ds j h1 h2
      cases h
      obtain ⟨a, xs, rfl, hz, e, rl⟩ := asKT_ok R rx h1
      unfold keyT at h2
      split at h2
      · rename_i es
        obtain ⟨b, us, rfl, hH, rb⟩ := tup_at R rk
        obtain rfl := keysD_ok rb h2
        obtain ⟨i1, i2⟩ := lk_ok (F := F) j (ks := ks) rl
        exact ⟨a, _, rfl, .t e hH, fun {d} q => i1 q, fun q => i2 hz q⟩
      · cases h2
    · cases h
end Dn

namespace Dn
open PySem PySem.Spec PyProof.Rows L2

/-! ### in, not in -/
def pIn (neg : Bool) : P2 := fun x y S => match y with
  | .str b => (match x with
    | .str a => (match a.cps.toList with
      | [c] => some (.bl (if neg then !decide (c ∈ b.cps.toList) else decide (c ∈ b.cps.toList)), S)
      | _ => none)
    | _ => none)
  | .tup ds => if flD x = true ∧ ds.all flD = true then some (.bl (if neg then !inD x ds else inD x ds), S) else none
  | .tupx ds => if flD x = true ∧ ds.all flD = true then some (.bl (if neg then !inD x ds else inD x ds), S) else none
  | y => (match asL S y with
    | some ds => if flD x = true ∧ ds.all flD = true then some (.bl (if neg then !inD x ds else inD x ds), S) else
      (match cpD true S x, cpL true S ds with
      | some x', some ds' => (match toPy x', toPyL ds' with
        | some d, some es => if SeqAt.shaped d = true ∧ SeqAt.shaped (.list es) = true then some (.bl (if neg then !es.any (fun z => PyData.eqv z d) else es.any (fun z => PyData.eqv z d)), S) else none
        | _, _ => none)
      | _, _ => none)
    | none => (match getD S y x with
      | some o => some (.bl (if neg then !o.isSome else o.isSome), S)
      | none => none))
abbrev rInSign (neg : Bool) : R2 := fun x y H Q => ∃ (c : Nat) (z : Str), x = .str ⟨#[c]⟩ ∧ y = .str z ∧ Q (.bl (if neg then !decide (c ∈ z.cps.toList) else decide (c ∈ z.cps.toList))) H
abbrev rInSeq3 (K : PySem.W.Frag) (neg : Bool) : R2 := fun x y H Q => rInSign neg x y H Q ∨ (fun x y H Q => rIn K neg x y H Q ∨ (fun x y H Q => ∃ d ds, Dp K H x d ∧ Dp K H y (.list ds) ∧ SeqAt.shaped d = true ∧ SeqAt.shaped (.list ds) = true ∧ Q (.bl (if neg then !ds.any (fun z => PyData.eqv z d) else ds.any fun z => PyData.eqv z d)) H) x y H Q) x y H Q
abbrev rDIn (neg : Bool) : R2 := fun y x H Q => ∃ a o, x = .ref a ∧ DGet H a y o ∧ Q (.bl (if neg then !o.isSome else o.isSome)) H
theorem str_one {a : Str} {c : Nat} (h : a.cps.toList = [c]) : a = ⟨#[c]⟩ := by
  apply TL.ext_tl
  exact h
theorem ok_in {K : PySem.W.Frag} {neg : Bool} : Ok2 K (pIn neg) (fun x y H Q => rInSeq3 K neg x y H Q ∨ rDIn neg x y H Q) := fun F S H x y vx vy d S' Q hk R rx ry hp hq => by
  unfold pIn at hp
  split at hp
  · rename_i b
    split at hp
    · rename_i a
      split at hp
      · rename_i c hc
        cases hp
        refine .inl (.inl ⟨c, b, ?_, ry, hq F H _ (.refl F) R rfl⟩)
        rw [show vx = .str a from rx, str_one hc]
      · cases hp
    · cases hp
  · rename_i ds
    obtain ⟨⟨h1, h2⟩, h3⟩ := of_ite hp
    cases h3
    obtain ⟨a, xs, rfl, hs, rl⟩ := tup_sq R ry
    rw [hk] at hs
    obtain ⟨e1, e2⟩ := inD_ok rx h1 rl h2
    exact .inl (.inr (.inl ⟨a, xs, rfl, .inr hs, (flD_ok rx h1).1, e1, by rw [e2]; exact hq F H _ (.refl F) R rfl⟩))
  · rename_i ds
    obtain ⟨⟨h1, h2⟩, h3⟩ := of_ite hp
    cases h3
    obtain ⟨a, xs, rfl, hs, rl⟩ := tupx_sq R ry
    rw [hk] at hs
    obtain ⟨e1, e2⟩ := inD_ok rx h1 rl h2
    exact .inl (.inr (.inl ⟨a, xs, rfl, .inr hs, (flD_ok rx h1).1, e1, by rw [e2]; exact hq F H _ (.refl F) R rfl⟩))
  · split at hp
    · rename_i ds hL
      obtain ⟨a, xs, rfl, hs, rl⟩ := asL_sq R ry hL
      split at hp
      · rename_i hfl
        cases hp
        rw [hk] at hs
        obtain ⟨e1, e2⟩ := inD_ok rx hfl.1 rl hfl.2
        exact .inl (.inr (.inl ⟨a, xs, rfl, .inl hs, (flD_ok rx hfl.1).1, e1, by rw [e2]; exact hq F H _ (.refl F) R rfl⟩))
      · split at hp
        · rename_i x' ds' hx hds
          split at hp
          · rename_i d0 es hd0 hes
            obtain ⟨⟨s1, s2⟩, h3⟩ := of_ite hp
            cases h3
            have r1 : RelL ⟨F.K, F.G, H, fun _ => none, []⟩ [x'] [vx] := cpL_bor R (ds := [x]) (by unfold cpL mapDL mapDL; rw [show mapD true _ x = some x' from hx]) ⟨vx, [], rfl, rx, rfl⟩
            obtain ⟨_, _, e1, r1, _⟩ := r1
            cases e1
            have r2 := cpL_bor R hds rl
            have d1 := toPy_dp (F := ⟨F.K, F.G, H, fun _ => none, []⟩) R.g (Same.refl _) x' vx d0 r1 hd0
            have d2 := toPyL_dp (F := ⟨F.K, F.G, H, fun _ => none, []⟩) R.g (Same.refl _) ds' xs es r2 hes
            have k1 : Dp K H vx d0 := by rw [← hk]; exact d1
            have k2 : DpAll K H xs es := by rw [← hk]; exact d2
            rw [hk] at hs
            exact .inl (.inr (.inr ⟨d0, es, k1, .lst hs k2, s1, s2, hq F H _ (.refl F) R rfl⟩))
          · cases hp
        · cases hp
    · split at hp
      · rename_i o ho
        cases hp
        obtain ⟨a, r, rfl, hg, i1, i2⟩ := getD_ok R ry rx ho
        refine .inr ⟨a, r, rfl, hg, ?_⟩
        have e : r.isSome = o.isSome := by
          cases o with
          | none => rw [i2 rfl] <;> rfl
          | some d =>
            obtain ⟨v, e1, _⟩ := i1 rfl
            rw [e1] <;> rfl
        rw [e]
        exact hq F H _ (.refl F) R rfl
      · cases hp
section
variable {X : Cx} {a b : Expr} {f g : DE} {pos : Pos}
theorem op_in3 (hu : X.A.units + 64 + 1 < cLine) : OpR X (compareOp .In) (rInSeq3 X.K false) := op_in_sign.or (op_in_seq.or (op_inD (by omega)))
theorem op_notin3 (hu : X.A.units + 64 + 1 < cLine) : OpR X (compareOp .NotIn) (rInSeq3 X.K true) := op_notIn_sign.or (op_notIn_seq.or (op_notInD (by omega)))
theorem op_dIn (hu : X.A.units + 1 < cLine) : OpR X (compareOp .In) (rDIn false) := fun pins s σ H x y v u Q I rx ry h => by
  obtain ⟨d, o, rfl, g, q⟩ := h
  obtain rfl : u = Value.ref d := ry
  exact d_in hu I g rx fun s' I' => ⟨.bl o.isSome, H, I', rfl, q⟩
theorem op_dNotIn (hu : X.A.units + 1 < cLine) : OpR X (compareOp .NotIn) (rDIn true) := fun pins s σ H x y v u Q I rx ry h => by
  obtain ⟨d, o, rfl, g, q⟩ := h
  obtain rfl : u = Value.ref d := ry
  exact d_notIn hu I g rx fun s' I' => ⟨.bl (!o.isSome), H, I', rfl, q⟩
theorem hu65 {k : Nat} {A : Around} (hr : Room k A) : A.units + 64 + 1 < cLine := by have := hr.un; omega
theorem hu1 {k : Nat} {A : Around} (hr : Room k A) : A.units + 1 < cLine := by have := hr.un; omega
theorem hu64 {k : Nat} {A : Around} (hr : Room k A) : A.units + 64 < cLine := by have := hr.un; omega
theorem ed_in {k : Nat} (hr : Room k X.A) (ha : ED X a f) (hb : ED X b g) (hm : behindInMarks .In b = false) : ED X (.Compare a [.In] [b] pos) (dBin (pIn false) f g) := ed_cmp ((op_in3 (hu65 hr)).or (op_dIn (hu1 hr))) ok_in ha hb hm
theorem td_in {k : Nat} (hr : Room k X.A) (ha : ED X a f) (hb : ED X b g) (hm : behindInMarks .In b = false) : TD X (.Compare a [.In] [b] pos) (dBin (pIn false) f g) := td_cmp ((op_in3 (hu65 hr)).or (op_dIn (hu1 hr))) ok_in ha hb hm
theorem ed_notin {k : Nat} (hr : Room k X.A) (ha : ED X a f) (hb : ED X b g) (hm : behindInMarks .NotIn b = false) : ED X (.Compare a [.NotIn] [b] pos) (dBin (pIn true) f g) := ed_cmp ((op_notin3 (hu65 hr)).or (op_dNotIn (hu1 hr))) ok_in ha hb hm
theorem td_notin {k : Nat} (hr : Room k X.A) (ha : ED X a f) (hb : ED X b g) (hm : behindInMarks .NotIn b = false) : TD X (.Compare a [.NotIn] [b] pos) (dBin (pIn true) f g) := td_cmp ((op_notin3 (hu65 hr)).or (op_dNotIn (hu1 hr))) ok_in ha hb hm
/-! comparisons in short -/
theorem ed_eq {k : Nat} (hr : Room k X.A) (ha : ED X a f) (hb : ED X b g) : ED X (.Compare a [.Eq] [b] pos) (dBin (pEq false) f g) := ed_cmp (op_eq.or (op_eqD (hu64 hr))) ok_eq ha hb (nomark _)
theorem td_eq {k : Nat} (hr : Room k X.A) (ha : ED X a f) (hb : ED X b g) : TD X (.Compare a [.Eq] [b] pos) (dBin (pEq false) f g) := td_cmp (op_eq.or (op_eqD (hu64 hr))) ok_eq ha hb (nomark _)
theorem ed_ne {k : Nat} (hr : Room k X.A) (ha : ED X a f) (hb : ED X b g) : ED X (.Compare a [.NotEq] [b] pos) (dBin (pEq true) f g) := ed_cmp (op_ne.or (op_neD (hu64 hr))) ok_ne ha hb (nomark _)
theorem td_ne {k : Nat} (hr : Room k X.A) (ha : ED X a f) (hb : ED X b g) : TD X (.Compare a [.NotEq] [b] pos) (dBin (pEq true) f g) := td_cmp (op_ne.or (op_neD (hu64 hr))) ok_ne ha hb (nomark _)
theorem ed_lt (ha : ED X a f) (hb : ED X b g) : ED X (.Compare a [.Lt] [b] pos) (dBin pLt f g) := ed_cmp op_lt ok_cmp ha hb (nomark _)
theorem td_lt (ha : ED X a f) (hb : ED X b g) : TD X (.Compare a [.Lt] [b] pos) (dBin pLt f g) := td_cmp op_lt ok_cmp ha hb (nomark _)
theorem ed_le (ha : ED X a f) (hb : ED X b g) : ED X (.Compare a [.LtE] [b] pos) (dBin pLe f g) := ed_cmp op_le ok_cmp ha hb (nomark _)
theorem td_le (ha : ED X a f) (hb : ED X b g) : TD X (.Compare a [.LtE] [b] pos) (dBin pLe f g) := td_cmp op_le ok_cmp ha hb (nomark _)
theorem ed_gt (ha : ED X a f) (hb : ED X b g) : ED X (.Compare a [.Gt] [b] pos) (dBin pGt f g) := ed_cmp op_gt ok_cmp ha hb (nomark _)
theorem td_gt (ha : ED X a f) (hb : ED X b g) : TD X (.Compare a [.Gt] [b] pos) (dBin pGt f g) := td_cmp op_gt ok_cmp ha hb (nomark _)
theorem ed_ge (ha : ED X a f) (hb : ED X b g) : ED X (.Compare a [.GtE] [b] pos) (dBin pGe f g) := ed_cmp op_ge ok_cmp ha hb (nomark _)
theorem td_ge (ha : ED X a f) (hb : ED X b g) : TD X (.Compare a [.GtE] [b] pos) (dBin pGe f g) := td_cmp op_ge ok_cmp ha hb (nomark _)
theorem ed_is (ha : ED X a f) (hb : ED X b g) : ED X (.Compare a [.Is] [b] pos) (dBin (pIs false) f g) := ed_cmp op_isN ok_is ha hb (nomark _)
theorem td_is (ha : ED X a f) (hb : ED X b g) : TD X (.Compare a [.Is] [b] pos) (dBin (pIs false) f g) := td_cmp op_isN ok_is ha hb (nomark _)
theorem ed_isnot (ha : ED X a f) (hb : ED X b g) : ED X (.Compare a [.IsNot] [b] pos) (dBin (pIs true) f g) := ed_cmp op_notN ok_isnot ha hb (nomark _)
theorem td_isnot (ha : ED X a f) (hb : ED X b g) : TD X (.Compare a [.IsNot] [b] pos) (dBin (pIs true) f g) := td_cmp op_notN ok_isnot ha hb (nomark _)
theorem ed_add (ha : ED X a f) (hb : ED X b g) : ED X (.BinOp a .Add b pos) (dBin pAdd f g) := ed_bin op_addAll ok_add ha hb
theorem ed_addM (ha : ED X a f) (hb : ED X b g) : ED X (.BinOp a .Add b pos) (dBin pAddM f g) := ed_bin op_cat ok_addM ha hb
theorem ed_mul (ha : ED X a f) (hb : ED X b g) : ED X (.BinOp a .Mult b pos) (dBin pMul f g) := ed_bin op_mulAll ok_mul ha hb
theorem ed_mulM (ha : ED X a f) (hb : ED X b g) : ED X (.BinOp a .Mult b pos) (dBin pMulM f g) := ed_bin op_rep ok_mulM ha hb
end

/-! ### subscripts -/
def atD (ds : List DV) (i : Int) : Option DV := (ixN ds.length i).bind fun j => ds[j]?
theorem atD_ok {F : Fm} {ds : List DV} {xs : List V} {i : Int} {d : DV} (r : RelL F ds xs) (h : atD ds i = some d) : ∃ v, atI xs i = some v ∧ Rel F d v := by
  unfold atD at h
  unfold atI
  rw [← r.length]
  cases e : ixN ds.length i with
  | none =>
    rw [e] at h
    cases h
  | some j =>
    rw [e] at h
    exact r.get (i := j) h
def pIx : P2 := fun x y S => match y with
  | .int i => (match x with
    | .tup ds => (match atD ds i with
      | some d => some (d, S)
      | none => none)
    | .tupx ds => (match atD ds i with
      | some d => some (d, S)
      | none => none)
    | .str s => if s.length ≤ sizeLine then (match atI s.cps.toList i with
      | some c => some (.str ⟨#[c]⟩, S)
      | none => none) else none
    | x => (match asL S x with
      | some ds => (match atD ds i with
        | some d => some (d, S)
        | none => none)
      | none => (match getD S x y with
        | some (some d) => some (d, S)
        | _ => none)))
  | y => (match getD S x y with
    | some (some d) => some (d, S)
    | _ => none)
abbrev rDIx : R2 := fun x y H Q => ∃ a v, x = .ref a ∧ DGet H a y (some v) ∧ Q v H
theorem ix_dict {X : Cx} (hu : X.A.units + 1 < cLine) : IxR X rDIx := by
  intro value slice pins s σ H x y v u Q I rx ry h hs
  obtain ⟨a, z, rfl, g, q⟩ := h
  obtain rfl : v = Value.ref a := rx
  have hT := dict_typeIs I g
  have hget : wpAny (model X.prog X.w) X.A (getItem (.ref a) u) (EP X pins σ Q) X.xe s := d_getItem hu I g ry fun w' s3 I3 rw' => ⟨z, H, I3, rw', q⟩
  unfold subscriptTail
  refine wpAny_bind ?_
  rw [getitemInPython_of_ne hT.not_modules]
  refine wpAny_bind (wpAny_specialOf hT PySem.F.slot_dict_getitem.lookup ?_)
  have fin : wpAny (model X.prog X.w) X.A (subscripted slice false (.ref a) u) (fun r s₃ => wpAny (model X.prog X.w) X.A (letTemporaryGo value (.ref a) r >>= fun _ => pure r) (EP X pins σ Q) X.xe s₃) X.xe s := by
    rw [hs]
    exact wpAny_operating (wpAny_mono hget (fun r s₃ h₃ => wpAny_bind (wpAny_letTemporaryGo (wpAny_pure h₃))) fun _ _ x => x)
  first
    | exact wpAny_pure (wpAny_bind fin)
    | exact wpAny_bind (wpAny_pure (wpAny_bind fin))
    | exact wpAny_bind fin
theorem ok_ix {K : PySem.W.Frag} : Ok2 K pIx (fun x y H Q => rIx K x y H Q ∨ rDIx x y H Q) := fun F S H x y vx vy d S' Q hk R rx ry hp hq => by
  have dict : ∀ {o : Option DV}, getD S x y = some o → (∀ e, o = some e → e = d) → S' = S → o.isSome = true → rDIx vx vy H Q := fun {o} h1 h2 h3 h4 => by
    subst h3
    obtain ⟨a, r, rfl, hg, i1, _⟩ := getD_ok R rx ry h1
    cases o with
    | none => cases h4
    | some e =>
      obtain ⟨v, rfl, e2⟩ := i1 rfl
      have := h2 e rfl
      subst this
      exact ⟨a, v, rfl, hg, hq F H _ (.refl F) R e2⟩
  unfold pIx at hp
  split at hp
  · rename_i i
    split at hp
    · split at hp
      · rename_i e he
        cases hp
        obtain ⟨a, xs, rfl, hs, rl⟩ := tup_sq R rx
        rw [hk] at hs
        obtain ⟨v, e1, e2⟩ := atD_ok rl he
        exact .inl (.inr (.inl ⟨a, xs, i, v, rfl, ry, hs, e1, hq F H _ (.refl F) R e2⟩))
      · cases hp
    · split at hp
      · rename_i e he
        cases hp
        obtain ⟨a, xs, rfl, hs, rl⟩ := tupx_sq R rx
        rw [hk] at hs
        obtain ⟨v, e1, e2⟩ := atD_ok rl he
        exact .inl (.inr (.inl ⟨a, xs, i, v, rfl, ry, hs, e1, hq F H _ (.refl F) R e2⟩))
      · cases hp
    · obtain ⟨h1, hp⟩ := of_ite hp
      split at hp
      · rename_i c hc
        cases hp
        exact .inl (.inr (.inr ⟨_, i, c, rx, ry, h1, hc, hq F H _ (.refl F) R rfl⟩))
      · cases hp
    · split at hp
      · rename_i ds hL
        split at hp
        · rename_i e he
          cases hp
          obtain ⟨a, xs, rfl, hs, rl⟩ := asL_sq R rx hL
          rw [hk] at hs
          obtain ⟨v, e1, e2⟩ := atD_ok rl he
          exact .inl (.inl ⟨a, xs, i, v, rfl, ry, hs, e1, hq F H _ (.refl F) R e2⟩)
        · cases hp
      · split at hp
        · rename_i e he
          cases hp
          exact .inr (dict he (fun e q => (Option.some.inj q).symm) rfl rfl)
        · cases hp
  · split at hp
    · rename_i e he
      cases hp
      exact .inr (dict he (fun e q => (Option.some.inj q).symm) rfl rfl)
    · cases hp
section
variable {X : Cx} {a b e : Expr} {f g : DE} {pos : Pos}
theorem ed_ix {k : Nat} (hr : Room k X.A) (ha : ED X a f) (hb : ED X b g) (hs : PlainIx b) : ED X (.Subscript a b pos) (dBin pIx f g) :=
  .of (pe_ix (IxR.or ix_seq (ix_dict (hu1 hr))) ha.pe hb.pe hs) fun F S H ρ σ d S' Q hk R rr hf hq => bin_go ok_ix hk R rr hf hq

/-! ### slices -/
def cutD (ds : List DV) (lo hi : Option Int) : List DV := (ds.drop (HT.sIx ds.length 0 lo)).take (HT.sIx ds.length ds.length hi - HT.sIx ds.length 0 lo)
theorem cutD_ok {F : Fm} {ds : List DV} {xs : List V} {lo hi : Option Int} (r : RelL F ds xs) : RelL F (cutD ds lo hi) (cutV xs lo hi) := by
  unfold cutD cutV
  rw [r.length]
  exact (r.drop _).take _
abbrev DO := Ev → Sto → Option (Option Int × Sto)
def oNone : DO := fun _ S => some (none, S)
def oSome (f : DE) : DO := fun ρ S => match f ρ S with
  | some (.int i, S1) => some (some i, S1)
  | _ => none
structure OD (X : Cx) (e : Option Expr) (t : TO) (f : DO) : Prop where
  po : PO X e t
  go : ∀ F S H ρ σ o S' (Q : Option Int → Hp → Prop), F.K = X.K → Rep F S H → RelE F ρ σ → f ρ S = some (o, S') → (∀ F' H', Le F F' → F'.K = X.K → Rep F' S' H' → RelE F' ρ σ → Q o H') → t σ H Q
theorem od_none : OD X none tNoPart oNone := ⟨po_none, fun F S H ρ σ o S' Q hk R rr hf hq => by
  cases (show some ((none : Option Int), S) = some (o, S') from hf)
  exact hq F H (.refl F) hk R rr⟩
theorem od_some (h : ED X e f) : OD X (some e) (tPart (rdE X.K f)) (oSome f) := ⟨po_some h.pe, fun F S H ρ σ o S' Q hk R rr hf hq => by
  unfold oSome at hf
  split at hf
  · rename_i i S1 h1
    cases hf
    exact rdE.go hk R rr h1 fun F1 H1 v le hk1 R1 r1 rv => ⟨i, rv, hq F1 H1 le hk1 R1 r1⟩
  · cases hf⟩
def pSl (x : DV) (lo hi : Option Int) (S : Sto) : Option (DV × Sto) := match x with
  | .tup ds => some (.tup (cutD ds lo hi), S)
  | .str s => if s.length ≤ sizeLine then some (.str (cutS s lo hi), S) else none
  | x => (match asL S x with
    | some ds => some (.lst .own (cutD ds lo hi), S)
    | none => none)
def pSlM (x : DV) (lo hi : Option Int) (S : Sto) : Option (DV × Sto) := match asL S x with
  | some ds => some (.loc S.length, S ++ [.lst (cutD ds lo hi)])
  | none => none
def dSl (p : DV → Option Int → Option Int → Sto → Option (DV × Sto)) (f : DE) (lo hi : DO) : DE := fun ρ S => match f ρ S with
  | some (x, S1) => (match lo ρ S1 with
    | some (l, S2) => (match hi ρ S2 with
      | some (u, S3) => p x l u S3
      | none => none)
    | none => none)
  | none => none
def OkSl (K : PySem.W.Frag) (p : DV → Option Int → Option Int → Sto → Option (DV × Sto)) (r : V → Option Int → Option Int → Hp → VK → Prop) : Prop :=
  ∀ F S H x vx lo hi d S' Q, F.K = K → Rep F S H → Rel F x vx → p x lo hi S = some (d, S') → PostE F S' d Q → r vx lo hi H Q
theorem sl_go {K : PySem.W.Frag} {p : DV → Option Int → Option Int → Sto → Option (DV × Sto)} {r : V → Option Int → Option Int → Hp → VK → Prop} {lo hi : Option Expr} {tl th : TO} {l u : DO} (hp : OkSl X.K p r) (h1 : OD X lo tl l) (h2 : OD X hi th u) {F : Fm} {S S' : Sto} {H : Hp} {ρ : Ev} {σ : L2.St} {d : DV} {Q : VK}
    (hk : F.K = X.K) (R : Rep F S H) (rr : RelE F ρ σ) (hf : dSl p f l u ρ S = some (d, S')) (hq : PostE F S' d Q) : tSl r (rdE X.K f) tl th σ H Q := by
  unfold dSl at hf
  split at hf
  · rename_i x S1 e1
    split at hf
    · rename_i l1 S2 e2
      split at hf
      · rename_i u1 S3 e3
        exact rdE.go hk R rr e1 fun F1 H1 v le hk1 R1 r1 rv => h1.go F1 S1 H1 ρ σ l1 S2 _ hk1 R1 r1 e2 fun F2 H2 le2 hk2 R2 r2 => h2.go F2 S2 H2 ρ σ u1 S3 _ hk2 R2 r2 e3 fun F3 H3 le3 hk3 R3 r3 =>
          hp F3 S3 H3 x v l1 u1 d S' Q hk3 R3 (rv.le (le2.trans le3)) hf (hq.le ((le.trans le2).trans le3))
      · cases hf
    · cases hf
  · cases hf
theorem ok_sl {K : PySem.W.Frag} : OkSl K pSl (fun x lo hi H Q => rSlL K x lo hi H Q ∨ (fun x lo hi H Q => rSlA K x lo hi H Q ∨ rSlS x lo hi H Q) x lo hi H Q) := fun F S H x vx lo hi d S' Q hk R rx hp hq => by
  unfold pSl at hp
  split at hp
  · rename_i ds
    cases hp
    obtain ⟨a, xs, e, hs, rl⟩ := tup_sq R rx
    rw [hk] at hs
    refine .inr (.inl ⟨a, xs, e, hs, fun hw => ?_, fun _ => new_tup R (cutD_ok rl) hq⟩)
    refine hq F H _ (.refl F) R ?_
    have e2 : cutD ds lo hi = ds := by
      unfold cutD
      rw [rl.length, hw.1, hw.2]
      rw [List.drop_zero, Nat.sub_zero, ← rl.length, List.take_length]
    rw [e2, ← e]
    exact rx
  · obtain ⟨h1, h2⟩ := of_ite hp
    cases h2
    exact .inr (.inr ⟨_, rx, h1, hq F H _ (.refl F) R rfl⟩)
  · split at hp
    · rename_i ds hL
      cases hp
      obtain ⟨a, xs, rfl, hs, rl⟩ := asL_sq R rx hL
      rw [hk] at hs
      exact .inl ⟨a, xs, rfl, hs, new_lst R (cutD_ok rl) hq⟩
    · cases hp
theorem ok_slM {K : PySem.W.Frag} : OkSl K pSlM (rSlL K) := fun F S H x vx lo hi d S' Q hk R rx hp hq => by
  unfold pSlM at hp
  split at hp
  · rename_i ds hL
    cases hp
    obtain ⟨a, xs, rfl, hs, rl⟩ := asL_sq R rx hL
    rw [hk] at hs
    exact ⟨a, xs, rfl, hs, new_lstM R (cutD_ok rl) hq⟩
  · cases hp
theorem ed_sl {lo hi : Option Expr} {tl th : TO} {l u : DO} {p2 : Pos} (ha : ED X a f) (h1 : OD X lo tl l) (h2 : OD X hi th u) : ED X (.Subscript a (.Slice lo hi none p2) pos) (dSl pSl f l u) :=
  .of (pe_slice (sl_list.or (sl_tupA.or sl_str)) ha.pe h1.po h2.po) fun F S H ρ σ d S' Q hk R rr hf hq => sl_go (K := X.K) ok_sl h1 h2 hk R rr hf hq
theorem ed_slM {lo hi : Option Expr} {tl th : TO} {l u : DO} {p2 : Pos} (ha : ED X a f) (h1 : OD X lo tl l) (h2 : OD X hi th u) : ED X (.Subscript a (.Slice lo hi none p2) pos) (dSl pSlM f l u) :=
  .of (pe_slice sl_list ha.pe h1.po h2.po) fun F S H ρ σ d S' Q hk R rr hf hq => sl_go (K := X.K) ok_slM h1 h2 hk R rr hf hq
end
end Dn

namespace Dn
open PySem PySem.Spec PyProof.Rows L2

/-! ### built-ins -/
def pLen : PL := fun xs S => match xs with
  | [.str s] => if s.length ≤ sizeLine then some (.int s.length, S) else none
  | [.tup ds] => some (.int ds.length, S)
  | [.tupx ds] => some (.int ds.length, S)
  | [x] => (match asL S x with
    | some ds => some (.int ds.length, S)
    | none => (match asK0 S x with
      | some (ks, _) => some (.int ks.length, S)
      | none => (match asKT S x with
        | some (ks, _) => some (.int ks.length, S)
        | none => none)))
  | _ => none
abbrev rLenAll (K : PySem.W.Frag) : List V → Hp → VK → Prop := fun xs H Q => (∃ x n, xs = [x] ∧ LenV K x H n ∧ Q (.int n) H) ∨ (fun xs H Q => (∃ a kvs, xs = [V.ref a] ∧ H a = some (.dK kvs) ∧ Q (.int kvs.length) H) ∨ rLenT xs H Q) xs H Q
theorem call_lenAll {X : Cx} : CallR X (.builtin "len") (rLenAll X.K) := call_len.or (call_lenD.or call_len_dT)
theorem ok_len {K : PySem.W.Frag} : OkL K pLen (rLenAll K) := fun F S H xs vs d S' Q hk R r hp hq => by
  unfold pLen at hp
  split at hp
  · rename_i s
    obtain ⟨h1, h2⟩ := of_ite hp
    cases h2
    obtain ⟨v, _, rfl, rv, e⟩ := r
    obtain rfl := (show _ = [] from e)
    exact .inl ⟨v, s.length, rfl, by rw [show v = .str s from rv]; exact ⟨h1, rfl⟩, hq F H _ (.refl F) R rfl⟩
  · rename_i ds
    cases hp
    obtain ⟨v, _, rfl, rv, e⟩ := r
    obtain rfl := (show _ = [] from e)
    obtain ⟨a, us, rfl, hs, rl⟩ := tup_sq R rv
    rw [hk] at hs
    exact .inl ⟨_, us.length, rfl, .inr ⟨us, hs, rfl⟩, by rw [← rl.length]; exact hq F H _ (.refl F) R rfl⟩
  · rename_i ds
    cases hp
    obtain ⟨v, _, rfl, rv, e⟩ := r
    obtain rfl := (show _ = [] from e)
    obtain ⟨a, us, rfl, hs, rl⟩ := tupx_sq R rv
    rw [hk] at hs
    exact .inl ⟨_, us.length, rfl, .inr ⟨us, hs, rfl⟩, by rw [← rl.length]; exact hq F H _ (.refl F) R rfl⟩
  · obtain ⟨v, _, rfl, rv, e⟩ := r
    obtain rfl := (show _ = [] from e)
    split at hp
    · rename_i ds hL
      cases hp
      obtain ⟨a, us, rfl, hs, rl⟩ := asL_sq R rv hL
      rw [hk] at hs
      exact .inl ⟨_, us.length, rfl, .inl ⟨us, hs, rfl⟩, by rw [← rl.length]; exact hq F H _ (.refl F) R rfl⟩
    · split at hp
      · rename_i ks ds hK
        cases hp
        obtain ⟨a, us, rfl, hz, hs, rl⟩ := asK0_ok R rv hK
        refine .inr (.inl ⟨a, _, rfl, hs, ?_⟩)
        have e : (ks.zip us).length = ks.length := by
          rw [List.length_zip, ← rl.length, hz, Nat.min_self]
        rw [e]
        exact hq F H _ (.refl F) R rfl
      · split at hp
        · rename_i ks ds hK
          cases hp
          obtain ⟨a, us, rfl, hz, hs, rl⟩ := asKT_ok R rv hK
          refine .inr (.inr ⟨a, _, rfl, hs, ?_⟩)
          have e : (ks.zip us).length = ks.length := by
            rw [List.length_zip, ← rl.length, hz, Nat.min_self]
          rw [e]
          exact hq F H _ (.refl F) R rfl
        · cases hp
  · cases hp
/-- int(..) of an int, a truth, a text -/
def pInt : PL := fun xs S => match xs with
  | [.int i] => some (.int i, S)
  | [.bl b] => some (.int (if b then 1 else 0), S)
  | [.str a] => if a.length ≤ 640 then (match PySem.intText? a with
    | some n => some (.int n, S)
    | none => none) else none
  | _ => none
theorem rel1 {F : Fm} {d : DV} {v : V} (h : Rel F d v) : RelL F [d] [v] := ⟨v, [], rfl, h, rfl⟩
theorem one {F : Fm} {d : DV} {vs : List V} (r : RelL F [d] vs) : ∃ v, vs = [v] ∧ Rel F d v := by
  obtain ⟨v, _, rfl, rv, e⟩ := r
  obtain rfl := (show _ = [] from e)
  exact ⟨v, rfl, rv⟩
theorem two {F : Fm} {d e : DV} {vs : List V} (r : RelL F [d, e] vs) : ∃ v u, vs = [v, u] ∧ Rel F d v ∧ Rel F e u := by
  obtain ⟨v, _, rfl, rv, r⟩ := r
  obtain ⟨u, rfl, ru⟩ := one r
  exact ⟨v, u, rfl, rv, ru⟩
abbrev rIntAll : List V → Hp → VK → Prop := fun xs H Q => ((∃ i, xs = [.int i] ∧ Q (.int i) H) ∨ ∃ k, xs = [.bl k] ∧ Q (.int (if k then 1 else 0)) H) ∨ (∃ a n, xs = [.str a] ∧ PySem.intText? a = some n ∧ a.length ≤ 640 ∧ Q (.int n) H)
theorem call_intAll {X : Cx} : CallR X (.type "int") rIntAll := call_int1.or call_int_str
theorem ok_int {K : PySem.W.Frag} : OkL K pInt rIntAll := fun F S H xs vs d S' Q hk R r hp hq => by
  unfold pInt at hp
  split at hp
  · rename_i i
    cases hp
    obtain ⟨v, rfl, rv⟩ := one r
    obtain rfl := (show v = .int i from rv)
    exact .inl (.inl ⟨i, rfl, hq F H _ (.refl F) R rfl⟩)
  · rename_i b
    cases hp
    obtain ⟨v, rfl, rv⟩ := one r
    obtain rfl := (show v = .bl b from rv)
    exact .inl (.inr ⟨b, rfl, hq F H _ (.refl F) R rfl⟩)
  · rename_i a
    obtain ⟨h1, hp⟩ := of_ite hp
    split at hp
    · rename_i n hn
      cases hp
      obtain ⟨v, rfl, rv⟩ := one r
      obtain rfl := (show v = .str a from rv)
      exact .inr ⟨a, n, rfl, hn, h1, hq F H _ (.refl F) R rfl⟩
    · cases hp
  · cases hp
def pStr : PL := fun xs S => match xs with
  | [.int i] => if i.natAbs.log2 < 1920 then some (.str (toString i), S) else none
  | [.str a] => some (.str a, S)
  | _ => none
abbrev rStrAll : List V → Hp → VK → Prop := fun xs H Q => (∃ i : Int, xs = [.int i] ∧ i.natAbs.log2 < 1920 ∧ Q (.str (toString i)) H) ∨ (∃ a, xs = [.str a] ∧ Q (.str a) H)
theorem call_strAll {X : Cx} : CallR X (.type "str") rStrAll := call_str_int.or SkE.call_str_str
theorem ok_str {K : PySem.W.Frag} : OkL K pStr rStrAll := fun F S H xs vs d S' Q hk R r hp hq => by
  unfold pStr at hp
  split at hp
  · rename_i i
    obtain ⟨h1, hp⟩ := of_ite hp
    cases hp
    obtain ⟨v, rfl, rv⟩ := one r
    obtain rfl := (show v = .int i from rv)
    exact .inl ⟨i, rfl, h1, hq F H _ (.refl F) R rfl⟩
  · rename_i b
    cases hp
    obtain ⟨v, rfl, rv⟩ := one r
    obtain rfl := (show v = .str b from rv)
    exact .inr ⟨b, rfl, hq F H _ (.refl F) R rfl⟩
  · cases hp
/-- list(..), tuple(..) -/
def kdv : Key → DV
  | .inl i => .int i
  | .inr s => .str s
theorem kdv_rel {F : Fm} : ∀ ks : List Key, RelL F (ks.map kdv) (ks.map kV)
  | [] => rfl
  | .inl i :: ks => ⟨_, _, rfl, rfl, kdv_rel ks⟩
  | .inr i :: ks => ⟨_, _, rfl, rfl, kdv_rel ks⟩
def itemsD (S : Sto) (x : DV) : Option (List DV) := match x with
  | .tup ds => some ds
  | .tupx ds => some ds
  | x => asL S x
def pList : PL := fun xs S => match xs with
  | [x] => (match itemsD S x with
    | some ds => some (.lst .own ds, S)
    | none => (match asK0 S x with
      | some (ks, _) => some (.lst .own (ks.map kdv), S)
      | none => none))
  | _ => none
def pListM : PL := fun xs S => match xs with
  | [x] => (match itemsD S x with
    | some ds => some (.loc S.length, S ++ [.lst ds])
    | none => (match asK0 S x with
      | some (ks, _) => some (.loc S.length, S ++ [.lst (ks.map kdv)])
      | none => none))
  | _ => none
def pTuple : PL := fun xs S => match xs with
  | [.tup ds] => some (.tup ds, S)
  | [x] => (match asL S x with
    | some ds => some (.tup ds, S)
    | none => none)
  | _ => none
theorem itemsD_sq {F : Fm} {S : Sto} {H : Hp} {x : DV} {v : V} {ds : List DV} (R : Rep F S H) (r : Rel F x v) (h : itemsD S x = some ds) : ∃ a xs, v = .ref a ∧ (SqL F.K H a xs ∨ SqT F.K H a xs) ∧ RelL F ds xs := by
  unfold itemsD at h
  split at h
  · cases h
    obtain ⟨a, us, rfl, hs, rl⟩ := tup_sq R r
    exact ⟨a, us, rfl, .inr hs, rl⟩
  · cases h
    obtain ⟨a, us, rfl, hs, rl⟩ := tupx_sq R r
    exact ⟨a, us, rfl, .inr hs, rl⟩
  · obtain ⟨a, us, rfl, hs, rl⟩ := asL_sq R r h
    exact ⟨a, us, rfl, .inl hs, rl⟩
abbrev rListAll (K : PySem.W.Frag) : List V → Hp → VK → Prop := fun xs H Q => (∃ p ys, xs = [.ref p] ∧ (SqL K H p ys ∨ SqT K H p ys) ∧ ∀ l, H l = none → Q (.ref l) (upd H l (.lst ys))) ∨ rListD xs H Q
theorem call_listAll {X : Cx} (hc : X.calm = true) : CallR X (.type "list") (rListAll X.K) := call_list_of.or (call_list_dK hc)
theorem zip_keys {κ : Type} : ∀ {ks : List κ} {us : List V}, ks.length = us.length → (ks.zip us).map (·.1) = ks
  | [], _, _ => by rw [List.zip_nil_left] <;> rfl
  | k :: ks, [], h => by cases h
  | k :: ks, u :: us, h => by
    rw [List.zip_cons_cons, List.map_cons, zip_keys (Nat.succ.inj h)]
theorem ok_list {K : PySem.W.Frag} : OkL K pList (rListAll K) := fun F S H xs vs d S' Q hk R r hp hq => by
  unfold pList at hp
  split at hp
  · rename_i x
    obtain ⟨v, rfl, rv⟩ := one r
    split at hp
    · rename_i ds hL
      cases hp
      obtain ⟨a, us, rfl, hs, rl⟩ := itemsD_sq R rv hL
      rw [hk] at hs
      exact .inl ⟨a, us, rfl, hs, new_lst R rl hq⟩
    · split at hp
      · rename_i ks ds hK
        cases hp
        obtain ⟨a, us, rfl, hz, hs, rl⟩ := asK0_ok R rv hK
        refine .inr ⟨a, _, rfl, hs, ?_⟩
        have e : (ks.zip us).map (fun kv => kV kv.1) = ks.map kV := by
          have := zip_keys (ks := ks) (us := us) (hz.trans rl.length)
          rw [← this, List.map_map, this] <;> rfl
        rw [e]
        exact new_lst R (kdv_rel ks) hq
      · cases hp
  · cases hp
theorem ok_listM {K : PySem.W.Frag} : OkL K pListM (rListAll K) := fun F S H xs vs d S' Q hk R r hp hq => by
  unfold pListM at hp
  split at hp
  · rename_i x
    obtain ⟨v, rfl, rv⟩ := one r
    split at hp
    · rename_i ds hL
      cases hp
      obtain ⟨a, us, rfl, hs, rl⟩ := itemsD_sq R rv hL
      rw [hk] at hs
      exact .inl ⟨a, us, rfl, hs, new_lstM R rl hq⟩
    · split at hp
      · rename_i ks ds hK
        cases hp
        obtain ⟨a, us, rfl, hz, hs, rl⟩ := asK0_ok R rv hK
        refine .inr ⟨a, _, rfl, hs, ?_⟩
        have e : (ks.zip us).map (fun kv => kV kv.1) = ks.map kV := by
          have := zip_keys (ks := ks) (us := us) (hz.trans rl.length)
          rw [← this, List.map_map, this] <;> rfl
        rw [e]
        exact new_lstM R (kdv_rel ks) hq
      · cases hp
  · cases hp
abbrev rTupAll (K : PySem.W.Frag) : List V → Hp → VK → Prop := fun xs H Q => ∃ p ys, xs = [.ref p] ∧ ((SqL K H p ys ∧ ∀ l, H l = none → Q (.ref l) (upd H l (.tup ys))) ∨ (SqT K H p ys ∧ Q (.ref p) H))
theorem ok_tuple {K : PySem.W.Frag} : OkL K pTuple (rTupAll K) := fun F S H xs vs d S' Q hk R r hp hq => by
  unfold pTuple at hp
  split at hp
  · rename_i ds
    cases hp
    obtain ⟨v, rfl, rv⟩ := one r
    obtain ⟨a, us, e, hs, rl⟩ := tup_sq R rv
    rw [hk] at hs
    exact ⟨a, us, by rw [e], .inr ⟨hs, by rw [← e]; exact hq F H _ (.refl F) R rv⟩⟩
  · obtain ⟨v, rfl, rv⟩ := one r
    split at hp
    · rename_i ds hL
      cases hp
      obtain ⟨a, us, rfl, hs, rl⟩ := asL_sq R rv hL
      rw [hk] at hs
      exact ⟨a, us, rfl, .inl ⟨hs, new_tup R rl hq⟩⟩
    · cases hp
  · cases hp
/-! isinstance(x, T), T a built-in class -/
inductive Ty7 where
  | non | bool | int | str | list | tuple | dict
  deriving DecidableEq
def Ty7.name : Ty7 → String
  | .non => "NoneType"
  | .bool => "bool"
  | .int => "int"
  | .str => "str"
  | .list => "list"
  | .tuple => "tuple"
  | .dict => "dict"
def isT : Ty7 → Ty7 → Bool
  | .bool, .int => true
  | a, b => decide (a = b)
theorem isT_ok : ∀ a b : Ty7, b ≠ .non → kitB a.name b.name = some (isT a b) := by
  intro a b h
  cases a <;> cases b <;> first | exact absurd rfl h | rfl | decide +kernel
def tyD (S : Sto) : DV → Option Ty7
  | .non => some .non
  | .bl _ => some .bool
  | .int _ => some .int
  | .str _ => some .str
  | .tup _ => some .tuple
  | .lst .own _ => some .list
  | .lst .bor _ => some .list
  | .dik _ _ _ => some .dict
  | .dit _ _ _ => some .dict
  | .loc n => match S[n]? with
    | some (.lst _) => some .list
    | some (.dik _ _) => some .dict
    | some (.dit _ _) => some .dict
    | some (.frz (.lst .own _)) => some .list
    | _ => none
  | _ => none
theorem tyD_ok {F : Fm} {S : Sto} {H : Hp} {d : DV} {v : V} {t : Ty7} (R : Rep F S H) (r : Rel F d v) (h : tyD S d = some t) : TyX F.K H v (.type t.name) := by
  cases d with
  | non =>
    cases h
    obtain rfl := (show v = _ from r)
    exact .base .non
  | bl b =>
    cases h
    obtain rfl := (show v = _ from r)
    exact .base (.bl b)
  | int b =>
    cases h
    obtain rfl := (show v = _ from r)
    exact .base (.int b)
  | str b =>
    cases h
    obtain rfl := (show v = _ from r)
    exact .base (.str b)
  | tup ds =>
    cases h
    obtain ⟨a, xs, rfl, hs, _⟩ := tup_at R r
    exact .base (.tup hs)
  | tupx ds => cases h
  | lst k ds =>
    cases k with
    | own =>
      cases h
      obtain ⟨a, xs, rfl, hs, _⟩ := r
      exact .base (.lst (R.g _ _ hs))
    | bor =>
      cases h
      obtain ⟨a, xs, rfl, hs, _⟩ := r
      exact .base (.lst (hs.elim (R.b _ _) (R.g _ _)))
    | ext => cases h
  | dik k ks ds =>
    cases h
    obtain ⟨a, xs, rfl, _, hs, _⟩ := r
    exact .base (.dK (hs.elim (R.g _ _) fun h => R.b _ _ h.2))
  | dit k ks ds =>
    cases h
    obtain ⟨a, xs, rfl, _, hs, _⟩ := r
    exact .base (.dT (hs.elim (R.g _ _) fun h => R.b _ _ h.2))
  | loc n =>
    obtain ⟨a, ha, rfl⟩ := r
    unfold tyD at h
    simp only at h
    split at h
    · rename_i es hc
      cases h
      obtain ⟨⟨xs, e, rl⟩, _⟩ := R.cell n _ a hc ha
      exact .base (.lst e)
    · rename_i es fs hc
      cases h
      obtain ⟨⟨xs, hz, e, rl⟩, _⟩ := R.cell n _ a hc ha
      exact .base (.dK e)
    · rename_i es fs hc
      cases h
      obtain ⟨⟨xs, hz, e, rl⟩, _⟩ := R.cell n _ a hc ha
      exact .base (.dT e)
    · rename_i es hc
      cases h
      obtain ⟨rl, _⟩ := R.cell n _ a hc ha
      obtain ⟨b, xs, e1, hs, _⟩ := (show Rel F (.lst .own es) (.ref a) from rl)
      cases e1
      exact .base (.lst (R.g _ _ hs))
    · cases h
def dIsi (T : Ty7) (f : DE) : DE := fun ρ S => match f ρ S with
  | some (x, S1) => (match tyD S1 x with
    | some t => some (.bl (isT t T), S1)
    | none => none)
  | none => none
section
variable {X : Cx} {e a b : Expr} {f g : DE} {pos : Pos}
theorem isi_go {T : Ty7} (hT : T ≠ .non) {F : Fm} {S S' : Sto} {H : Hp} {ρ : Ev} {σ : L2.St} {d : DV} {Q : VK} (hk : F.K = X.K) (R : Rep F S H) (rr : RelE F ρ σ) (hf : dIsi T f ρ S = some (d, S')) (hq : PostE F S' d Q) :
    tCB (rIsi X.K) (tCons (rdE X.K f) (tCons (tC (.ty T.name)) tNil)) σ H Q := by
  unfold dIsi at hf
  split at hf
  · rename_i x S1 h1
    split at hf
    · rename_i t ht
      cases hf
      refine rdE.go hk R rr h1 fun F1 H1 v le hk1 R1 r1 rv => ?_
      have ty := tyD_ok R1 rv ht
      rw [hk1] at ty
      exact ⟨v, .ty T.name, .type t.name, .type T.name, isT t T, rfl, .ty _, ty, kit_ty (isT_ok t T hT), hq F1 H1 _ le R1 rfl⟩
    · cases hf
  · cases hf
theorem ed_isi {T : Ty7} (hT : T ≠ .non) (ha : ED X a f) (h : ∀ {t : TE}, PE X a t → PE X e (tCB (rIsi X.K) (tCons t (tCons (tC (.ty T.name)) tNil)))) : ED X e (dIsi T f) :=
  .of (h ha.pe) fun F S H ρ σ d S' Q hk R rr hf hq => isi_go hT hk R rr hf hq
end
/-! min, max, sum, any, all -/
def intsD : List DV → Option (List Int)
  | [] => some []
  | .int i :: ds => (match intsD ds with
    | some is => some (i :: is)
    | none => none)
  | _ => none
def blsD : List DV → Option (List Bool)
  | [] => some []
  | .bl i :: ds => (match blsD ds with
    | some is => some (i :: is)
    | none => none)
  | _ => none
def strsD : List DV → Option (List Str)
  | [] => some []
  | .str i :: ds => (match strsD ds with
    | some is => some (i :: is)
    | none => none)
  | _ => none
theorem intsD_ok {F : Fm} : ∀ {ds : List DV} {vs : List V} {is : List Int}, RelL F ds vs → intsD ds = some is → vs = is.map V.int
  | [], vs, is, r, h => by
    cases (show some ([] : List Int) = some is from h)
    exact r
  | d :: ds, vs, is, r, h => by
    unfold intsD at h
    split at h
    · rename_i e
      cases e
    · rename_i i ds' e
      cases e
      split at h
      · rename_i js hj
        cases h
        obtain ⟨x, xr, rfl, h1, h2⟩ := r
        rw [intsD_ok h2 hj, show x = .int i from h1] <;> rfl
      · cases h
    · cases h
theorem blsD_ok {F : Fm} : ∀ {ds : List DV} {vs : List V} {is : List Bool}, RelL F ds vs → blsD ds = some is → vs = is.map V.bl
  | [], vs, is, r, h => by
    cases (show some ([] : List Bool) = some is from h)
    exact r
  | d :: ds, vs, is, r, h => by
    unfold blsD at h
    split at h
    · rename_i e
      cases e
    · rename_i i ds' e
      cases e
      split at h
      · rename_i js hj
        cases h
        obtain ⟨x, xr, rfl, h1, h2⟩ := r
        rw [blsD_ok h2 hj, show x = .bl i from h1] <;> rfl
      · cases h
    · cases h
theorem strsD_ok {F : Fm} : ∀ {ds : List DV} {vs : List V} {is : List Str}, RelL F ds vs → strsD ds = some is → vs = is.map V.str
  | [], vs, is, r, h => by
    cases (show some ([] : List Str) = some is from h)
    exact r
  | d :: ds, vs, is, r, h => by
    unfold strsD at h
    split at h
    · rename_i e
      cases e
    · rename_i i ds' e
      cases e
      split at h
      · rename_i js hj
        cases h
        obtain ⟨x, xr, rfl, h1, h2⟩ := r
        rw [strsD_ok h2 hj, show x = .str i from h1] <;> rfl
      · cases h
    · cases h
def maxI : List Int → Option Int
  | [] => none
  | [i] => some i
  | i :: is => match maxI is with
    | some j => some (if j ≤ i then i else j)
    | none => none
def minI : List Int → Option Int
  | [] => none
  | [i] => some i
  | i :: is => match minI is with
    | some j => some (if i ≤ j then i else j)
    | none => none
theorem maxI_ok : ∀ {is : List Int} {m : Int}, maxI is = some m → m ∈ is ∧ ∀ y ∈ is, y ≤ m
  | [], m, h => by cases h
  | [i], m, h => by
    cases h
    exact ⟨List.mem_singleton.mpr rfl, fun y hy => by rw [List.mem_singleton.mp hy]; exact Int.le_refl _⟩
  | i :: j :: is, m, h => by
    unfold maxI at h
    split at h
    · rename_i k hk
      cases h
      obtain ⟨h1, h2⟩ := maxI_ok hk
      split
      · rename_i hle
        refine ⟨List.mem_cons_self, fun y hy => ?_⟩
        rcases List.mem_cons.mp hy with rfl | hy
        · exact Int.le_refl _
        · exact Int.le_trans (h2 y hy) hle
      · rename_i hle
        refine ⟨List.mem_cons_of_mem _ h1, fun y hy => ?_⟩
        rcases List.mem_cons.mp hy with rfl | hy
        · omega
        · exact h2 y hy
    · cases h
theorem minI_ok : ∀ {is : List Int} {m : Int}, minI is = some m → m ∈ is ∧ ∀ y ∈ is, m ≤ y
  | [], m, h => by cases h
  | [i], m, h => by
    cases h
    exact ⟨List.mem_singleton.mpr rfl, fun y hy => by rw [List.mem_singleton.mp hy]; exact Int.le_refl _⟩
  | i :: j :: is, m, h => by
    unfold minI at h
    split at h
    · rename_i k hk
      cases h
      obtain ⟨h1, h2⟩ := minI_ok hk
      split
      · rename_i hle
        refine ⟨List.mem_cons_self, fun y hy => ?_⟩
        rcases List.mem_cons.mp hy with rfl | hy
        · exact Int.le_refl _
        · exact Int.le_trans hle (h2 y hy)
      · rename_i hle
        refine ⟨List.mem_cons_of_mem _ h1, fun y hy => ?_⟩
        rcases List.mem_cons.mp hy with rfl | hy
        · omega
        · exact h2 y hy
    · cases h
def pMax : PL := fun xs S => match xs with
  | [.int i, .int j] => some (.int (if j > i then j else i), S)
  | [x] => (match asL S x with
    | some ds => (match intsD ds with
      | some is => (match maxI is with
        | some m => some (.int m, S)
        | none => none)
      | none => none)
    | none => none)
  | _ => none
def pMin : PL := fun xs S => match xs with
  | [.int i, .int j] => some (.int (if j < i then j else i), S)
  | [x] => (match asL S x with
    | some ds => (match intsD ds with
      | some is => (match minI is with
        | some m => some (.int m, S)
        | none => none)
      | none => none)
    | none => none)
  | _ => none
abbrev rMaxAll (K : PySem.W.Frag) : List V → Hp → VK → Prop := fun xs H Q => (∃ i j : Int, xs = [.int i, .int j] ∧ Q (.int (if j > i then j else i)) H) ∨ rMax K xs H Q
abbrev rMinAll (K : PySem.W.Frag) : List V → Hp → VK → Prop := fun xs H Q => (∃ i j : Int, xs = [.int i, .int j] ∧ Q (.int (if j < i then j else i)) H) ∨ rMin K xs H Q
theorem call_maxAll {X : Cx} (hc : X.calm = true) : CallR X (.builtin "max") (rMaxAll X.K) := (call_max2 hc).or (cr_max hc)
theorem call_minAll {X : Cx} (hc : X.calm = true) : CallR X (.builtin "min") (rMinAll X.K) := (call_min2 hc).or (cr_min hc)
theorem ok_max {K : PySem.W.Frag} : OkL K pMax (rMaxAll K) := fun F S H xs vs d S' Q hk R r hp hq => by
  unfold pMax at hp
  split at hp
  · rename_i i j
    cases hp
    obtain ⟨v, u, rfl, rv, ru⟩ := two r
    obtain rfl := (show v = .int i from rv)
    obtain rfl := (show u = .int j from ru)
    exact .inl ⟨i, j, rfl, hq F H _ (.refl F) R rfl⟩
  · obtain ⟨v, rfl, rv⟩ := one r
    split at hp
    · rename_i ds hL
      split at hp
      · rename_i is his
        split at hp
        · rename_i m hm
          cases hp
          obtain ⟨a, us, rfl, hs, rl⟩ := asL_sq R rv hL
          rw [hk] at hs
          obtain rfl := intsD_ok rl his
          obtain ⟨m1, m2⟩ := maxI_ok hm
          refine .inr ⟨a, is, rfl, hs, List.length_pos_iff.mpr (List.ne_nil_of_mem m1), fun m' h1 h2 => ?_⟩
          have e : m' = m := Int.le_antisymm (m2 _ h1) (h2 _ m1)
          rw [e]
          exact hq F H _ (.refl F) R rfl
        · cases hp
      · cases hp
    · cases hp
  · cases hp
theorem ok_min {K : PySem.W.Frag} : OkL K pMin (rMinAll K) := fun F S H xs vs d S' Q hk R r hp hq => by
  unfold pMin at hp
  split at hp
  · rename_i i j
    cases hp
    obtain ⟨v, u, rfl, rv, ru⟩ := two r
    obtain rfl := (show v = .int i from rv)
    obtain rfl := (show u = .int j from ru)
    exact .inl ⟨i, j, rfl, hq F H _ (.refl F) R rfl⟩
  · obtain ⟨v, rfl, rv⟩ := one r
    split at hp
    · rename_i ds hL
      split at hp
      · rename_i is his
        split at hp
        · rename_i m hm
          cases hp
          obtain ⟨a, us, rfl, hs, rl⟩ := asL_sq R rv hL
          rw [hk] at hs
          obtain rfl := intsD_ok rl his
          obtain ⟨m1, m2⟩ := minI_ok hm
          refine .inr ⟨a, is, rfl, hs, List.length_pos_iff.mpr (List.ne_nil_of_mem m1), fun m' h1 h2 => ?_⟩
          have e : m' = m := Int.le_antisymm (h2 _ m1) (m2 _ h1)
          rw [e]
          exact hq F H _ (.refl F) R rfl
        · cases hp
      · cases hp
    · cases hp
  · cases hp
def pSum : PL := fun xs S => match xs with
  | [x] => (match asL S x with
    | some ds => (match intsD ds with
      | some is => some (.int is.sum, S)
      | none => none)
    | none => none)
  | _ => none
def pAny : PL := fun xs S => match xs with
  | [x] => (match asL S x with
    | some ds => (match blsD ds with
      | some is => some (.bl (is.any id), S)
      | none => none)
    | none => none)
  | _ => none
def pAll : PL := fun xs S => match xs with
  | [x] => (match asL S x with
    | some ds => (match blsD ds with
      | some is => some (.bl (is.all id), S)
      | none => none)
    | none => none)
  | _ => none
theorem ok_sum {K : PySem.W.Frag} : OkL K pSum (rSum K) := fun F S H xs vs d S' Q hk R r hp hq => by
  unfold pSum at hp
  split at hp
  · obtain ⟨v, rfl, rv⟩ := one r
    split at hp
    · rename_i ds hL
      split at hp
      · rename_i is his
        cases hp
        obtain ⟨a, us, rfl, hs, rl⟩ := asL_sq R rv hL
        rw [hk] at hs
        obtain rfl := intsD_ok rl his
        exact ⟨a, is, rfl, hs, hq F H _ (.refl F) R rfl⟩
      · cases hp
    · cases hp
  · cases hp
theorem ok_any {K : PySem.W.Frag} : OkL K pAny (rAny K) := fun F S H xs vs d S' Q hk R r hp hq => by
  unfold pAny at hp
  split at hp
  · obtain ⟨v, rfl, rv⟩ := one r
    split at hp
    · rename_i ds hL
      split at hp
      · rename_i is his
        cases hp
        obtain ⟨a, us, rfl, hs, rl⟩ := asL_sq R rv hL
        rw [hk] at hs
        obtain rfl := blsD_ok rl his
        exact ⟨a, is, rfl, hs, hq F H _ (.refl F) R rfl⟩
      · cases hp
    · cases hp
  · cases hp
theorem ok_all {K : PySem.W.Frag} : OkL K pAll (rAll K) := fun F S H xs vs d S' Q hk R r hp hq => by
  unfold pAll at hp
  split at hp
  · obtain ⟨v, rfl, rv⟩ := one r
    split at hp
    · rename_i ds hL
      split at hp
      · rename_i is his
        cases hp
        obtain ⟨a, us, rfl, hs, rl⟩ := asL_sq R rv hL
        rw [hk] at hs
        obtain rfl := blsD_ok rl his
        exact ⟨a, is, rfl, hs, hq F H _ (.refl F) R rfl⟩
      · cases hp
    · cases hp
  · cases hp
end Dn

namespace Dn
open PySem PySem.Spec PyProof.Rows L2

/-! ### methods of lists -/
abbrev PM := DV → List DV → Sto → Option (DV × Sto)
def dMt (p : PM) (f : DE) (fa : DA) : DE := fun ρ S => match f ρ S with
  | some (x, S1) => (match asL S1 x with
    | some _ => (match fa ρ S1 with
      | some (xs, S2) => p x xs S2
      | none => none)
    | none => none)
  | none => none
def OkM (K : PySem.W.Frag) (p : PM) (r : V → List V → Hp → VK → Prop) : Prop := ∀ F S H x vx xs vs d S' Q, F.K = K → Rep F S H → Rel F x vx → RelL F xs vs → p x xs S = some (d, S') → PostE F S' d Q → r vx vs H Q
section
variable {X : Cx} {e a b o : Expr} {f g : DE} {fa : DA} {pos : Pos} {st : Stmt}
theorem mt_go {p : PM} {r : V → List V → Hp → VK → Prop} (hp : OkM X.K p r) {F : Fm} {S S' : Sto} {H : Hp} {ρ : Ev} {σ : L2.St} {d : DV} {Q : VK} (hk : F.K = X.K) (R : Rep F S H) (rr : RelE F ρ σ) (hf : dMt p f fa ρ S = some (d, S')) (hq : PostE F S' d Q) :
    tBM X.K "list" r (rdE X.K f) (rdA X.K fa) σ H Q := by
  unfold dMt at hf
  split at hf
  · rename_i x S1 h1
    split at hf
    · rename_i ds hL
      split at hf
      · rename_i xs S2 h2
        refine rdE.go hk R rr h1 fun F1 H1 v le hk1 R1 r1 rv => ?_
        obtain ⟨l, us, rfl, hs, rl⟩ := asL_sq R1 rv hL
        rw [hk1] at hs
        refine ⟨.inl ⟨rfl, us, hs⟩, rdA.go hk1 R1 r1 h2 fun F2 H2 vs le2 hk2 R2 r2 ra => ?_⟩
        exact hp F2 S2 H2 x _ xs vs d S' Q hk2 R2 (rv.le le2) ra hf (hq.le (le.trans le2))
      · cases hf
    · cases hf
  · cases hf
theorem ed_mt {es : List Expr} {p : PM} {r : V → List V → Hp → VK → Prop} (hp : OkM X.K p r) (ho : ED X o f) (ha : AD X es fa) (h : ∀ {t : TA} {u : TE}, PE X o u → PA X es t → PE X e (tBM X.K "list" r u t)) : ED X e (dMt p f fa) :=
  .of (h ho.pe ha.pa) fun F S H ρ σ d S' Q hk R rr hf hq => mt_go hp hk R rr hf hq
theorem ed_mt0 {p : PM} {r : V → List V → Hp → VK → Prop} (hp : OkM X.K p r) (ho : ED X o f) (h : ∀ {u : TE}, PE X o u → PE X e (tBM0 X.K "list" r u)) : ED X e (dMt p f aNil) :=
  .of (h ho.pe) fun F S H ρ σ d S' Q hk R rr hf hq => by
    unfold dMt at hf
    split at hf
    · rename_i x S1 h1
      split at hf
      · rename_i ds hL
        refine rdE.go hk R rr h1 fun F1 H1 v le hk1 R1 r1 rv => ?_
        obtain ⟨l, us, rfl, hs, rl⟩ := asL_sq R1 rv hL
        rw [hk1] at hs
        exact ⟨.inl ⟨rfl, us, hs⟩, hp F1 S1 H1 x _ [] [] d S' Q hk1 R1 rv rfl hf (hq.le le)⟩
      · cases hf
    · cases hf
end
def pAppend : PM := fun x xs S => match x, xs with
  | .loc n, [y] => (match S[n]? with
    | some (.lst ds) => if ds.length < sizeLine then some (.non, S.set n (.lst (ds ++ [y]))) else none
    | _ => none)
  | _, _ => none
def pExtend : PM := fun x xs S => match x, xs with
  | .loc n, [y] => (match S[n]?, asT S y with
    | some (.lst ds), some es => if ds.length + es.length ≤ sizeLine then some (.non, S.set n (.lst (ds ++ es))) else none
    | _, _ => none)
  | _, _ => none
def pPop0 : PM := fun x xs S => match x, xs with
  | .loc n, [] => (match S[n]? with
    | some (.lst ds) => (match ds[ds.length - 1]? with
      | some d => some (d, S.set n (.lst ds.dropLast))
      | none => none)
    | _ => none)
  | _, _ => none
def pPopAt : PM := fun x xs S => match x, xs with
  | .loc n, [.int i] => (match S[n]? with
    | some (.lst ds) => if i.natAbs < 9223372036854775808 then (match ixN ds.length i with
      | some j => (match ds[j]? with
        | some d => some (d, S.set n (.lst (ds.eraseIdx j)))
        | none => none)
      | none => none) else none
    | _ => none)
  | _, _ => none
def pReverse : PM := fun x xs S => match x, xs with
  | .loc n, [] => (match S[n]? with
    | some (.lst ds) => some (.non, S.set n (.lst ds.reverse))
    | _ => none)
  | _, _ => none
def pClear : PM := fun x xs S => match x, xs with
  | .loc n, [] => (match S[n]? with
    | some (.lst _) => some (.non, S.set n (.lst []))
    | _ => none)
  | _, _ => none
def pInsert : PM := fun x xs S => match x, xs with
  | .loc n, [.int i, y] => (match S[n]? with
    | some (.lst ds) => if ds.length < sizeLine ∧ 0 ≤ i ∧ i.natAbs < 9223372036854775808 then some (.non, S.set n (.lst (ds.take i.toNat ++ [y] ++ ds.drop i.toNat))) else none
    | _ => none)
  | _, _ => none
def ixD (y : DV) : List DV → Option Nat
  | [] => none
  | d :: ds => if eqF d y = true then some 0 else (ixD y ds).map (· + 1)
def pIndex : PM := fun x xs S => match xs with
  | [y] => (match asL S x with
    | some ds => if flD y = true ∧ ds.all flD = true then (match ixD y ds with
      | some j => some (.int j, S)
      | none => none) else none
    | none => none)
  | _ => none
theorem lst_write {F : Fm} {S : Sto} {H : Hp} {n : Nat} {ds es : List DV} {vs us : List V} {a : Addr} {v : V} {d : DV} {Q : VK} (R : Rep F S H) (hc : S[n]? = some (.lst ds)) (ha : F.lm[n]? = some a) (rl : RelL F es us) (rd : Rel F d v) (hq : PostE F (S.set n (.lst es)) d Q) : Q v (upd H a (.lst us)) :=
  hq F _ v (.refl F) (R.write hc rfl ha (fun _ q => nomatch q) rfl ⟨us, upd_same, rl⟩) rd
section
variable {K : PySem.W.Frag}
theorem ok_append : OkM K pAppend rAppend := fun F S H x vx xs vs d S' Q hk R rx rl hp hq => by
  unfold pAppend at hp
  split at hp
  · rename_i n y
    split at hp
    · rename_i ds hc
      obtain ⟨h1, h2⟩ := of_ite hp
      cases h2
      obtain ⟨a, ha, rfl⟩ := rx
      obtain ⟨v, rfl, rv⟩ := one rl
      obtain ⟨⟨us, e, ru⟩, _⟩ := R.cell n _ a hc ha
      exact ⟨a, us, v, rfl, rfl, e, by rw [← ru.length]; exact h1, lst_write (vs := us) R hc ha (us := us ++ [v]) (ru.append (rel1 rv)) (d := .non) (v := .non) rfl hq⟩
    · cases hp
  · cases hp
theorem ok_extend : OkM K pExtend rExtend := fun F S H x vx xs vs d S' Q hk R rx rl hp hq => by
  unfold pExtend at hp
  split at hp
  · rename_i n y
    split at hp
    · rename_i ds es hc he
      obtain ⟨h1, h2⟩ := of_ite hp
      cases h2
      obtain ⟨a, ha, rfl⟩ := rx
      obtain ⟨v, rfl, rv⟩ := one rl
      obtain ⟨b, ws, rfl, hb, rb⟩ := asT_sq R rv he
      obtain ⟨⟨us, e, ru⟩, _⟩ := R.cell n _ a hc ha
      exact ⟨a, b, us, ws, rfl, rfl, e, hb, by rw [← ru.length, ← rb.length]; exact h1, lst_write (vs := us) R hc ha (ru.append rb) (d := .non) (v := .non) rfl hq⟩
    · cases hp
  · cases hp
theorem ok_pop0 : OkM K pPop0 rPop := fun F S H x vx xs vs d S' Q hk R rx rl hp hq => by
  unfold pPop0 at hp
  split at hp
  · rename_i n
    split at hp
    · rename_i ds hc
      split at hp
      · rename_i d0 hd
        cases hp
        obtain ⟨a, ha, rfl⟩ := rx
        obtain rfl := rl.nil
        obtain ⟨⟨us, e, ru⟩, _⟩ := R.cell n _ a hc ha
        obtain ⟨v, hv, rv⟩ := ru.get hd
        refine ⟨a, us, v, rfl, rfl, e, by rw [← ru.length]; exact hv, lst_write (vs := us) R hc ha ?_ rv hq⟩
        rw [List.dropLast_eq_take, List.dropLast_eq_take, ← ru.length]
        exact ru.take _
      · cases hp
    · cases hp
  · cases hp
theorem ok_popAt : OkM K pPopAt rPopAt := fun F S H x vx xs vs d S' Q hk R rx rl hp hq => by
  unfold pPopAt at hp
  split at hp
  · rename_i n i
    split at hp
    · rename_i ds hc
      obtain ⟨hi, hp⟩ := of_ite hp
      split at hp
      · rename_i j hj
        split at hp
        · rename_i d0 hd
          cases hp
          obtain ⟨a, ha, rfl⟩ := rx
          obtain ⟨w, rfl, rw_⟩ := one rl
          obtain rfl := (show w = .int i from rw_)
          obtain ⟨⟨us, e, ru⟩, _⟩ := R.cell n _ a hc ha
          obtain ⟨v, hv, rv⟩ := ru.get hd
          exact ⟨a, us, i, j, v, rfl, rfl, e, by omega, by omega, by rw [← ru.length]; exact (ixN_seq hj).1, hv, lst_write (vs := us) R hc ha (ru.eraseIdx _) rv hq⟩
        · cases hp
      · cases hp
    · cases hp
  · cases hp
theorem ok_reverse : OkM K pReverse rReverse := fun F S H x vx xs vs d S' Q hk R rx rl hp hq => by
  unfold pReverse at hp
  split at hp
  · rename_i n
    split at hp
    · rename_i ds hc
      cases hp
      obtain ⟨a, ha, rfl⟩ := rx
      obtain rfl := rl.nil
      obtain ⟨⟨us, e, ru⟩, _⟩ := R.cell n _ a hc ha
      exact ⟨a, us, rfl, rfl, e, lst_write (vs := us) R hc ha ru.rev (d := .non) (v := .non) rfl hq⟩
    · cases hp
  · cases hp
theorem ok_clear : OkM K pClear rClear := fun F S H x vx xs vs d S' Q hk R rx rl hp hq => by
  unfold pClear at hp
  split at hp
  · rename_i n
    split at hp
    · rename_i ds hc
      cases hp
      obtain ⟨a, ha, rfl⟩ := rx
      obtain rfl := rl.nil
      obtain ⟨⟨us, e, ru⟩, _⟩ := R.cell n _ a hc ha
      exact ⟨a, us, rfl, rfl, e, lst_write (vs := us) R hc ha (us := []) (es := []) rfl (d := .non) (v := .non) rfl hq⟩
    · cases hp
  · cases hp
abbrev rInsert : V → List V → Hp → VK → Prop := fun x vs H Q => ∃ (l : Addr) (xs : List V) (i : Int) (y : V), x = .ref l ∧ vs = [.int i, y] ∧ H l = some (.lst xs) ∧ xs.length < sizeLine ∧ 0 ≤ i ∧ i < 2 ^ 63 ∧
    Q .non (upd H l (.lst (xs.take i.toNat ++ [y] ++ xs.drop i.toNat)))
theorem ok_insert : OkM K pInsert rInsert := fun F S H x vx xs vs d S' Q hk R rx rl hp hq => by
  unfold pInsert at hp
  split at hp
  · rename_i n i y
    split at hp
    · rename_i ds hc
      obtain ⟨hi, h2⟩ := of_ite hp
      cases h2
      obtain ⟨a, ha, rfl⟩ := rx
      obtain ⟨w, v, rfl, rw_, rv⟩ := two rl
      obtain rfl := (show w = .int i from rw_)
      obtain ⟨⟨us, e, ru⟩, _⟩ := R.cell n _ a hc ha
      exact ⟨a, us, i, v, rfl, rfl, e, by rw [← ru.length]; exact hi.1, hi.2.1, by omega, lst_write (vs := us) R hc ha (us := us.take i.toNat ++ [v] ++ us.drop i.toNat) (((ru.take _).append (rel1 rv)).append (ru.drop _)) (d := .non) (v := .non) rfl hq⟩
    · cases hp
  · cases hp
theorem ixD_ok {F : Fm} {y : DV} {vy : V} (ry : Rel F y vy) (hy : flD y = true) : ∀ {ds : List DV} {vs : List V} {j : Nat}, RelL F ds vs → ds.all flD = true → ixD y ds = some j →
    vs.all flatV = true ∧ ∃ z, vs[j]? = some z ∧ eqV z vy = true ∧ ∀ (m : Nat) (z' : V), m < j → vs[m]? = some z' → eqV z' vy = false
  | [], vs, j, _, _, h => by cases h
  | d :: ds, vs, j, rl, ha, h => by
    obtain ⟨x, xr, rfl, h1, h2⟩ := rl
    rw [List.all_cons] at ha
    obtain ⟨k1, k2⟩ := Bool.and_eq_true_iff.mp ha
    obtain ⟨f1, f2⟩ := flD_ok h1 k1
    have hall : ∀ {ds : List DV} {vs : List V}, RelL F ds vs → ds.all flD = true → vs.all flatV = true := fun {ds vs} a b => (inD_ok ry hy a b).1
    unfold ixD at h
    split at h
    · rename_i he
      cases h
      exact ⟨by rw [List.all_cons, f1, hall h2 k2] <;> rfl, x, rfl, by rw [f2 ry hy]; exact he, fun m z' hm => absurd hm (Nat.not_lt_zero _)⟩
    · rename_i he
      obtain ⟨j', hj', rfl⟩ := Option.map_eq_some_iff.mp h
      obtain ⟨i1, z, i2, i3, i4⟩ := ixD_ok ry hy h2 k2 hj'
      refine ⟨by rw [List.all_cons, f1, i1] <;> rfl, z, i2, i3, fun m z' hm hz => ?_⟩
      cases m with
      | zero =>
        have e : x = z' := Option.some.inj hz
        rw [← e, f2 ry hy]
        exact Bool.eq_false_iff.mpr he
      | succ m => exact i4 m z' (Nat.lt_of_succ_lt_succ hm) hz
theorem ok_index : OkM K pIndex (rIndex K) := fun F S H x vx xs vs d S' Q hk R rx rl hp hq => by
  unfold pIndex at hp
  split at hp
  · rename_i y
    split at hp
    · rename_i ds hL
      obtain ⟨hfl, hp⟩ := of_ite hp
      split at hp
      · rename_i j hj
        cases hp
        obtain ⟨v, rfl, rv⟩ := one rl
        obtain ⟨a, us, rfl, hs, ru⟩ := asL_sq R rx hL
        rw [hk] at hs
        obtain ⟨i1, z, i2, i3, i4⟩ := ixD_ok rv hfl.1 ru hfl.2 hj
        exact ⟨a, us, v, j, z, rfl, rfl, hs, (flD_ok rv hfl.1).1, i1, i2, i3, i4, hq F H _ (.refl F) R rfl⟩
      · cases hp
    · cases hp
  · cases hp
end

/-! ### methods of texts with one argument -/
def dM1 (p : Str → DV → Sto → Option (DV × Sto)) (f g : DE) : DE := fun ρ S => match f ρ S with
  | some (.str a, S1) => (match g ρ S1 with
    | some (y, S2) => p a y S2
    | none => none)
  | _ => none
section
variable {X : Cx} {e a b o : Expr} {f g : DE} {fa : DA} {pos : Pos} {st : Stmt}
theorem ed_m1 {p : Str → DV → Sto → Option (DV × Sto)} {r : V → List V → Hp → VK → Prop} (hp : ∀ F S H x y vy d S' Q, F.K = X.K → Rep F S H → Rel F y vy → p x y S = some (d, S') → PostE F S' d Q → r (.str x) [vy] H Q)
    (ho : ED X o f) (hb : ED X b g) (h : ∀ {t u : TE}, PE X o t → PE X b u → PE X e (tM1 r t u)) : ED X e (dM1 p f g) :=
  .of (h ho.pe hb.pe) fun F S H ρ σ d S' Q hk R rr hf hq => by
    unfold dM1 at hf
    split at hf
    · rename_i x S1 h1
      split at hf
      · rename_i y S2 h2
        refine rdE.go hk R rr h1 fun F1 H1 v le hk1 R1 r1 rv => ⟨⟨x, rv⟩, rdE.go hk1 R1 r1 h2 fun F2 H2 u le2 hk2 R2 r2 ru => ?_⟩
        obtain rfl := (show v = .str x from rv)
        exact hp F2 S2 H2 x y u d S' Q hk2 R2 ru hf (hq.le (le.trans le2))
      · cases hf
    · cases hf
def pJoin : Str → DV → Sto → Option (DV × Sto) := fun a y S => match itemsD S y with
  | some ds => (match strsD ds with
    | some ys => if (ys.map (·.length)).sum + ys.length * a.length ≤ 16777216 then some (.str (Txt.join a ys), S) else none
    | none => none)
  | none => none
theorem ok_join {K : PySem.W.Frag} (F : Fm) (S : Sto) (H : Hp) (x : Str) (y : DV) (vy : V) (d : DV) (S' : Sto) (Q : VK) (hk : F.K = K) (R : Rep F S H) (ry : Rel F y vy) (hp : pJoin x y S = some (d, S')) (hq : PostE F S' d Q) :
    ∃ a p, ∃ ys : List Str, V.str x = .str a ∧ [vy] = [.ref p] ∧ (SqL K H p (ys.map V.str) ∨ SqT K H p (ys.map V.str)) ∧ (ys.map (·.length)).sum + ys.length * a.length ≤ 16777216 ∧ Q (.str (Txt.join a ys)) H := by
  unfold pJoin at hp
  split at hp
  · rename_i ds hL
    split at hp
    · rename_i ys hy
      obtain ⟨h1, h2⟩ := of_ite hp
      cases h2
      obtain ⟨p, us, rfl, hs, rl⟩ := itemsD_sq R ry hL
      rw [hk] at hs
      obtain rfl := strsD_ok rl hy
      exact ⟨x, p, ys, rfl, rfl, hs, h1, hq F H _ (.refl F) R rfl⟩
    · cases hp
  · cases hp
def pSplit (m : Bool) : Str → DV → Sto → Option (DV × Sto) := fun a y S => match y with
  | .str b => if (b.length == 0) = false ∧ a.length + 2 ≤ sizeLine then (if m then some (.loc S.length, S ++ [.lst ((Txt.split a b).map DV.str)]) else some (.lst .own ((Txt.split a b).map DV.str), S)) else none
  | _ => none
theorem strs_rel {F : Fm} : ∀ ys : List Str, RelL F (ys.map DV.str) (ys.map V.str)
  | [] => rfl
  | y :: ys => ⟨_, _, rfl, rfl, strs_rel ys⟩
theorem ints_rel {F : Fm} : ∀ ys : List Int, RelL F (ys.map DV.int) (ys.map V.int)
  | [] => rfl
  | y :: ys => ⟨_, _, rfl, rfl, ints_rel ys⟩
theorem ok_split {K : PySem.W.Frag} {m : Bool} (F : Fm) (S : Sto) (H : Hp) (x : Str) (y : DV) (vy : V) (d : DV) (S' : Sto) (Q : VK) (hk : F.K = K) (R : Rep F S H) (ry : Rel F y vy) (hp : pSplit m x y S = some (d, S')) (hq : PostE F S' d Q) :
    ∃ a b, V.str x = .str a ∧ [vy] = [.str b] ∧ (b.length == 0) = false ∧ a.length + 2 ≤ sizeLine ∧ rNewStrs (Txt.split a b) H Q := by
  unfold pSplit at hp
  split at hp
  · rename_i b
    obtain ⟨⟨h1, h2⟩, h3⟩ := of_ite hp
    obtain rfl := (show vy = .str b from ry)
    cases m with
    | false =>
      cases h3
      exact ⟨x, b, rfl, rfl, h1, h2, new_lst R (strs_rel _) hq⟩
    | true =>
      cases h3
      exact ⟨x, b, rfl, rfl, h1, h2, new_lstM R (strs_rel _) hq⟩
  · cases hp
def pFind : Str → DV → Sto → Option (DV × Sto) := fun a y S => match y with
  | .str b => some (.int (Txt.find a b), S)
  | _ => none
theorem ok_find (F : Fm) (S : Sto) (H : Hp) (x : Str) (y : DV) (vy : V) (d : DV) (S' : Sto) (Q : VK) (R : Rep F S H) (ry : Rel F y vy) (hp : pFind x y S = some (d, S')) (hq : PostE F S' d Q) :
    ∃ a b, V.str x = .str a ∧ [vy] = [.str b] ∧ Q (.int (Txt.find a b)) H := by
  unfold pFind at hp
  split at hp
  · rename_i b
    cases hp
    obtain rfl := (show vy = .str b from ry)
    exact ⟨x, b, rfl, rfl, hq F H _ (.refl F) R rfl⟩
  · cases hp

/-! ### d.get -/
def isD (S : Sto) (x : DV) : Bool := (asK S x).isSome || (asKT S x).isSome
theorem isD_ok {F : Fm} {S : Sto} {H : Hp} {x : DV} {v : V} (R : Rep F S H) (r : Rel F x v) (h : isD S x = true) : ∃ a, v = .ref a ∧ IsD H a := by
  unfold isD at h
  cases h1 : asK S x with
  | some p =>
    obtain ⟨a, us, rfl, _, e, _⟩ := asK_ok R r (ks := p.1) (ds := p.2) h1
    exact ⟨a, rfl, .inl ⟨_, e⟩⟩
  | none =>
    cases h2 : asKT S x with
    | some p =>
      obtain ⟨a, us, rfl, _, e, _⟩ := asKT_ok R r (ks := p.1) (ds := p.2) h2
      exact ⟨a, rfl, .inr ⟨_, .inl e⟩⟩
    | none =>
      rw [h1, h2] at h
      cases h
def dGet1 (f g : DE) : DE := fun ρ S => match f ρ S with
  | some (x, S1) => if isD S1 x = true then (match g ρ S1 with
    | some (y, S2) => (match getD S2 x y with
      | some (some d) => some (d, S2)
      | some none => some (.non, S2)
      | none => none)
    | none => none) else none
  | none => none
def dGet2 (f g h : DE) : DE := fun ρ S => match f ρ S with
  | some (x, S1) => if isD S1 x = true then (match g ρ S1 with
    | some (y, S2) => (match h ρ S2 with
      | some (z, S3) => (match getD S3 x y with
        | some (some d) => some (d, S3)
        | some none => some (z, S3)
        | none => none)
      | none => none)
    | none => none) else none
  | none => none
theorem ed_get1 (ho : ED X o f) (hb : ED X b g) (h : ∀ {t u : TE}, PE X o t → PE X b u → PE X e (tDGet1 t u)) : ED X e (dGet1 f g) :=
  .of (h ho.pe hb.pe) fun F S H ρ σ d S' Q hk R rr hf hq => by
    unfold dGet1 at hf
    split at hf
    · rename_i x S1 h1
      obtain ⟨hd, hf⟩ := of_ite hf
      split at hf
      · rename_i y S2 h2
        refine rdE.go hk R rr h1 fun F1 H1 v le hk1 R1 r1 rv => ?_
        obtain ⟨a, rfl, ia⟩ := isD_ok R1 rv hd
        refine ⟨a, rfl, ia, rdE.go hk1 R1 r1 h2 fun F2 H2 u le2 hk2 R2 r2 ru => ?_⟩
        split at hf
        · rename_i d0 hg
          cases hf
          obtain ⟨a', r, e, dg, i1, _⟩ := getD_ok R2 (rv.le le2) ru hg
          cases e
          obtain ⟨w, rfl, rw_⟩ := i1 rfl
          exact ⟨_, dg, hq F2 H2 w (le.trans le2) R2 rw_⟩
        · rename_i hg
          cases hf
          obtain ⟨a', r, e, dg, _, i2⟩ := getD_ok R2 (rv.le le2) ru hg
          cases e
          obtain rfl := i2 rfl
          exact ⟨_, dg, hq F2 H2 .non (le.trans le2) R2 rfl⟩
        · cases hf
      · cases hf
    · cases hf
theorem ed_get2 {c : Expr} {h2 : DE} (ho : ED X o f) (hb : ED X b g) (hc : ED X c h2) (h : ∀ {t u w : TE}, PE X o t → PE X b u → PE X c w → PE X e (tDGet2 t u w)) : ED X e (dGet2 f g h2) :=
  .of (h ho.pe hb.pe hc.pe) fun F S H ρ σ d S' Q hk R rr hf hq => by
    unfold dGet2 at hf
    split at hf
    · rename_i x S1 h1
      obtain ⟨hd, hf⟩ := of_ite hf
      split at hf
      · rename_i y S2 h2
        split at hf
        · rename_i z S3 h3
          refine rdE.go hk R rr h1 fun F1 H1 v le hk1 R1 r1 rv => ?_
          obtain ⟨a, rfl, ia⟩ := isD_ok R1 rv hd
          refine ⟨a, rfl, ia, rdE.go hk1 R1 r1 h2 fun F2 H2 u le2 hk2 R2 r2 ru => rdE.go hk2 R2 r2 h3 fun F3 H3 zz le3 hk3 R3 r3 rz => ?_⟩
          split at hf
          · rename_i d0 hg
            cases hf
            obtain ⟨a', r, e, dg, i1, _⟩ := getD_ok R3 (rv.le (le2.trans le3)) (ru.le le3) hg
            cases e
            obtain ⟨w, rfl, rw_⟩ := i1 rfl
            exact ⟨_, dg, hq F3 H3 w ((le.trans le2).trans le3) R3 rw_⟩
          · rename_i hg
            cases hf
            obtain ⟨a', r, e, dg, _, i2⟩ := getD_ok R3 (rv.le (le2.trans le3)) (ru.le le3) hg
            cases e
            obtain rfl := i2 rfl
            exact ⟨_, dg, hq F3 H3 zz ((le.trans le2).trans le3) R3 rz⟩
          · cases hf
        · cases hf
      · cases hf
    · cases hf
theorem ed_dnewK (h : PE X e tDNewK) : ED X e (fun _ S => some (.loc S.length, S ++ [.dik [] []])) :=
  .of h fun F S H ρ σ d S' Q hk R rr hf hq p hp => by
    cases hf
    have R' := R.alloc (o := .dK []) (c := .dik [] []) hp (fun _ q => nomatch q) ⟨[], rfl, upd_same, rfl⟩
    exact hq _ _ _ (F.cell_le p) R' ⟨p, by rw [← R.len]; exact get_len _ _, rfl⟩
theorem ed_dnewT (h : PE X e tDNewT) : ED X e (fun _ S => some (.loc S.length, S ++ [.dit [] []])) :=
  .of h fun F S H ρ σ d S' Q hk R rr hf hq p hp => by
    cases hf
    have R' := R.alloc (o := .dT []) (c := .dit [] []) hp (fun _ q => nomatch q) ⟨[], rfl, upd_same, rfl⟩
    exact hq _ _ _ (F.cell_le p) R' ⟨p, by rw [← R.len]; exact get_len _ _, rfl⟩

/-! ### o[i] = v -/
def setI (x i y : DV) (S : Sto) : Option Sto := match x with
  | .loc n => (match S[n]? with
    | some (.lst ds) => (match i with
      | .int k => (match ixN ds.length k with
        | some j => some (S.set n (.lst (ds.set j y)))
        | none => none)
      | _ => none)
    | some (.dik ks ds) => (match keyD i with
      | some k => if ks.length < sizeLine then some (S.set n (.dik (putKs ks k) (putVs ks ds k y))) else none
      | none => none)
    | some (.dit ks ds) => (match keyT i with
      | some k => if ks.length < sizeLine then some (S.set n (.dit (putKs ks k) (putVs ks ds k y))) else none
      | none => none)
    | _ => none)
  | _ => none
end
theorem any_zip {κ : Type} [DecidableEq κ] {j : κ} : ∀ {ks : List κ} {xs : List V}, ks.length = xs.length → ((ks.zip xs).any fun kv => decide (kv.1 = j)) = hasK ks j
  | [], _, _ => by rw [List.zip_nil_left] <;> rfl
  | k :: ks, [], h => by cases h
  | k :: ks, x :: xs, h => by
    have ih := any_zip (j := j) (Nat.succ.inj h)
    unfold hasK at ih ⊢
    rw [List.zip_cons_cons, List.any_cons, List.any_cons, ih]
theorem rp_zip {κ : Type} [DecidableEq κ] {j : κ} {v : V} : ∀ {ks : List κ} {xs : List V}, ks.length = xs.length → ks.zip (rpG j v ks xs) = (ks.zip xs).map fun kv => if kv.1 = j then (kv.1, v) else kv
  | [], _, _ => by rw [List.zip_nil_left, List.zip_nil_left] <;> rfl
  | k :: ks, [], h => by cases h
  | k :: ks, x :: xs, h => by
    have ih := rp_zip (j := j) (v := v) (Nat.succ.inj h)
    unfold rpG
    rw [List.zip_cons_cons, List.zip_cons_cons, List.map_cons, ih]
    by_cases q : k = j
    · simp only [if_pos q]
    · simp only [if_neg q]
theorem rp_len {κ α : Type} [DecidableEq κ] {j : κ} {x : α} : ∀ {ks : List κ} {xs : List α}, ks.length = xs.length → (rpG j x ks xs).length = ks.length
  | [], _, _ => rfl
  | k :: ks, [], h => by cases h
  | k :: ks, y :: xs, h => by
    unfold rpG
    rw [List.length_cons, List.length_cons, rp_len (Nat.succ.inj h)]
theorem rp_rel {κ : Type} [DecidableEq κ] {F : Fm} {j : κ} {y : DV} {v : V} (ry : Rel F y v) : ∀ {ks : List κ} {ds : List DV} {xs : List V}, RelL F ds xs → RelL F (rpG j y ks ds) (rpG j v ks xs)
  | [], _, _, _ => rfl
  | k :: ks, [], xs, h => by
    obtain rfl := h.nil
    exact rfl
  | k :: ks, d :: ds, xs, h => by
    obtain ⟨x, xr, rfl, h1, h2⟩ := h
    refine ⟨_, _, rfl, ?_, rp_rel ry h2⟩
    by_cases q : k = j
    · rw [if_pos q, if_pos q]
      exact ry
    · rw [if_neg q, if_neg q]
      exact h1
/-- a dict's values behind a store -/
theorem put_ok {κ : Type} [DecidableEq κ] {F : Fm} {j : κ} {y : DV} {v : V} (ry : Rel F y v) {ks : List κ} {ds : List DV} {xs : List V} (hz : ks.length = ds.length) (rl : RelL F ds xs) :
    ∃ ys, (putKs ks j).length = (putVs ks ds j y).length ∧ RelL F (putVs ks ds j y) ys ∧ putK (ks.zip xs) j v = (putKs ks j).zip ys := by
  have hx : ks.length = xs.length := hz.trans rl.length
  unfold putKs putVs putK
  rw [any_zip hx]
  by_cases q : hasK ks j = true
  · rw [if_pos q, if_pos q, if_pos q]
    exact ⟨rpG j v ks xs, (rp_len hz).symm, rp_rel ry rl, (rp_zip hx).symm⟩
  · rw [if_neg q, if_neg q, if_neg q]
    refine ⟨xs ++ [v], by simp [hz], rl.append (rel1 ry), ?_⟩
    rw [List.zip_append hx] <;> rfl
def rSetD : V → V → V → Hp → (Hp → Prop) → Prop := fun o i v H Q => ∃ a H', o = .ref a ∧ DPut H a i v H' ∧ Q H'
theorem set_dict {X : Cx} (hu : X.A.units + 1 < cLine) : PSet X rSetD := fun pins s σ H o i v ov iv u Q I ro ri rv h => by
  obtain ⟨a, H', rfl, g, q⟩ := h
  obtain rfl : ov = Value.ref a := ro
  exact d_setItem hu I g ri rv fun s' I' => ⟨H', I', q⟩
theorem PSet.or {X : Cx} {t u : TSet} (h : PSet X t) (k : PSet X u) : PSet X (fun o i v H Q => t o i v H Q ∨ u o i v H Q) := fun pins s σ H o i v ov iv w Q I ro ri rv h' => h'.elim (h pins s σ H o i v ov iv w Q I ro ri rv) (k pins s σ H o i v ov iv w Q I ro ri rv)
theorem setI_ok {F : Fm} {S S' : Sto} {H : Hp} {x i y : DV} {vx vi vy : V} {Q : Hp → Prop} (R : Rep F S H) (rx : Rel F x vx) (ri : Rel F i vi) (ry : Rel F y vy) (h : setI x i y S = some S') (hq : ∀ H', Rep F S' H' → Q H') : rSetL vx vi vy H Q ∨ rSetD vx vi vy H Q := by
  unfold setI at h
  split at h
  · rename_i n
    obtain ⟨a, ha, rfl⟩ := rx
    split at h
    · rename_i ds hc
      split at h
      · rename_i k
        split at h
        · rename_i j hj
          cases h
          obtain rfl := (show vi = .int k from ri)
          obtain ⟨⟨us, e, ru⟩, _⟩ := R.cell n _ a hc ha
          exact .inl ⟨a, us, k, j, rfl, rfl, e, by rw [← ru.length]; exact hj, hq _ (R.write hc rfl ha (fun _ q => nomatch q) rfl ⟨us.set j vy, upd_same, ru.set ry j⟩)⟩
        · cases h
      · cases h
    · rename_i ks ds hc
      split at h
      · rename_i k hk
        obtain ⟨h1, h⟩ := of_ite h
        cases h
        obtain rfl := keyD_ok ri hk
        obtain ⟨⟨us, hz, e, ru⟩, _⟩ := R.cell n _ a hc ha
        obtain ⟨ys, p1, p2, p3⟩ := put_ok (j := k) ry hz ru
        have hl : (ks.zip us).length < sizeLine := by
          rw [List.length_zip, ← ru.length, hz, Nat.min_self, ← hz]
          exact h1
        refine .inr ⟨a, _, rfl, DPut.k e hl, hq _ ?_⟩
        rw [p3]
        exact R.write hc rfl ha (fun _ q => nomatch q) rfl ⟨ys, p1, upd_same, p2⟩
      · cases h
    · rename_i ks ds hc
      split at h
      · rename_i k hk
        obtain ⟨h1, h⟩ := of_ite h
        cases h
        unfold keyT at hk
        split at hk
        · rename_i es
          obtain ⟨b, ws, rfl, hb, rb⟩ := tup_at R ri
          obtain rfl := keysD_ok rb hk
          obtain ⟨⟨us, hz, e, ru⟩, _⟩ := R.cell n _ a hc ha
          obtain ⟨ys, p1, p2, p3⟩ := put_ok (j := k) ry hz ru
          have hl : (ks.zip us).length < sizeLine := by
            rw [List.length_zip, ← ru.length, hz, Nat.min_self, ← hz]
            exact h1
          refine .inr ⟨a, _, rfl, DPut.t e hb hl, hq _ ?_⟩
          rw [p3]
          exact R.write hc rfl ha (fun _ q => nomatch q) rfl ⟨ys, p1, upd_same, p2⟩
        · cases hk
      · cases h
    · cases h
  · cases h
def dSub (v o i : DE) : DS := fun ρ S => match v ρ S with
  | some (y, S1) => (match o ρ S1 with
    | some (x, S2) => (match i ρ S2 with
      | some (k, S3) => (match setI x k y S3 with
        | some S4 => some (.nx ρ S4)
        | none => none)
      | none => none)
    | none => none)
  | none => none
section
variable {X : Cx} {e a b o : Expr} {f g : DE} {fa : DA} {pos : Pos} {st : Stmt}
theorem sd_sub {v : DE} (h : PS X st (tAsg (rdE X.K v) (L2.gSub (rdE X.K f) (rdE X.K g) (fun o i v H Q => rSetL o i v H Q ∨ rSetD o i v H Q)))) : SD X st (dSub v f g) := .of h fun F S H ρ σ o D hk R rr hf hq => by
  unfold dSub at hf
  split at hf
  · rename_i y S1 h1
    split at hf
    · rename_i x S2 h2
      split at hf
      · rename_i k S3 h3
        split at hf
        · rename_i S4 h4
          cases hf
          exact rdE.go hk R rr h1 fun F1 H1 vy le1 hk1 R1 r1 ry => rdE.go hk1 R1 r1 h2 fun F2 H2 vx le2 hk2 R2 r2 rx => rdE.go hk2 R2 r2 h3 fun F3 H3 vk le3 hk3 R3 r3 rk =>
            setI_ok R3 (rx.le le3) rk (ry.le (le2.trans le3)) h4 fun H' R' => hq F3 H' ((le1.trans le2).trans le3) R' σ r3
        · cases hf
      · cases hf
    · cases hf
  · cases hf
/-- x += e over ints -/
def dAug (i : Nat) (p : P2) (f : DE) : DS := fun ρ S => match ρ[i]? with
  | some (some x) => (match f ρ S with
    | some (y, S1) => (match p x y S1 with
      | some (d, S2) => some (.nx (ρ.set i (some d)) S2)
      | none => none)
    | none => none)
  | _ => none
theorem sd_aug {i : Nat} {p : P2} {t : TIp} (hp : Ok2 X.K p t) (h : PS X st (tAug i (rdE X.K f) t)) : SD X st (dAug i p f) := .of h fun F S H ρ σ o D hk R rr hf hq => by
  unfold dAug at hf
  split at hf
  · rename_i x hx
    split at hf
    · rename_i y S1 h1
      split at hf
      · rename_i d S2 h2
        cases hf
        obtain ⟨vx, e1, rx⟩ := rr.at_ i x hx
        exact ⟨vx, e1, rdE.go hk R rr h1 fun F1 H1 vy le1 hk1 R1 r1 ry => hp F1 S1 H1 x y vx vy d S2 _ hk1 R1 (rx.le le1) ry h2 fun F2 H2 v le2 R2 rv => hq F2 H2 (le1.trans le2) R2 _ ((r1.le le2).set i rv)⟩
      · cases hf
    · cases hf
  · cases hf
abbrev pAddI : P2 := pI fun i j => some (i + j)
theorem ok_ipadd {K : PySem.W.Frag} : Ok2 K pAddI (ipI fun i j => i + j) := ok_I0
theorem ok_ipsub {K : PySem.W.Frag} : Ok2 K pSub (ipI fun i j => i - j) := ok_I0

/-! ### what loops walk -/
def iSeq (f : DE) : DI := fun ρ S => match f ρ S with
  | some (x, S1) => (match x with
    | .tup ds => some (ds, S1)
    | .tupx ds => some (ds, S1)
    | .lst _ ds => some (ds, S1)
    | .str s => some (s.cps.toList.map fun c => .str ⟨#[c]⟩, S1)
    | .loc n => (match S1[n]? with
      | some (.frz (.lst _ ds)) => some (ds, S1)
      | _ => none)
    | _ => none)
  | none => none
theorem walks_list {F : Fm} {a : Addr} {ds : List DV} (h : ∀ F' S H, Wk F F' → Rep F' S H → ∃ xs, SqL F.K H a xs ∧ RelL F' ds xs) : Walks (Itl F.K a) F ds := fun i F' S H w _ R => by
  obtain ⟨xs, hs, rl⟩ := h F' S H w R
  refine ⟨fun e => ⟨xs, hs, by rw [e, rl.length]; exact Nat.le_refl _⟩, fun d hd => ?_⟩
  obtain ⟨x, hx, rx⟩ := rl.get hd
  refine ⟨⟨xs, x, hs, hx⟩, fun y H' yl => ?_⟩
  obtain ⟨rfl, y2⟩ := yl
  have e := (y2 xs hs).symm.trans hx
  cases e
  exact ⟨F', .refl F', R, rx⟩
theorem walks_tup {F : Fm} {a : Addr} {ds : List DV} (h : ∀ F' S H, Wk F F' → Rep F' S H → ∃ xs, SqT F.K H a xs ∧ RelL F' ds xs) : Walks (Itt F.K a) F ds := fun i F' S H w _ R => by
  obtain ⟨xs, hs, rl⟩ := h F' S H w R
  refine ⟨fun e => ⟨xs, hs, by rw [e, rl.length]; exact Nat.le_refl _⟩, fun d hd => ?_⟩
  obtain ⟨x, hx, rx⟩ := rl.get hd
  refine ⟨⟨xs, x, hs, hx⟩, fun y H' yl => ?_⟩
  obtain ⟨rfl, y2⟩ := yl
  have e := (y2 xs hs).symm.trans hx
  cases e
  exact ⟨F', .refl F', R, rx⟩
theorem walks_str {F : Fm} {s : Str} : Walks (Its s) F (s.cps.toList.map fun c => .str ⟨#[c]⟩) := fun i F' S H w _ R => by
  refine ⟨fun e => ?_, fun d hd => ?_⟩
  · have : i = s.cps.size := by simpa using e
    show s.cps.size ≤ i
    omega
  · rw [List.getElem?_map] at hd
    cases e : s.cps.toList[i]? with
    | none =>
      rw [e] at hd
      cases hd
    | some c =>
      rw [e] at hd
      cases hd
      have e2 : s.cps[i]? = some c := by simpa using e
      refine ⟨(Array.getElem?_eq_some_iff.mp e2).1, fun x H' y => ?_⟩
      obtain ⟨rfl, c', h1, rfl⟩ := y
      rw [e2] at h1
      cases h1
      exact ⟨F', .refl F', R, rfl⟩
theorem walks_range {F : Fm} {lo : Int} {n : Nat} : Walks (Itr lo n) F ((List.range n).map fun i => .int (lo + (i : Nat))) := fun i F' S H w _ R => by
  refine ⟨fun e => ?_, fun d hd => ?_⟩
  · have : i = n := by simpa using e
    show n ≤ i
    omega
  · rw [List.getElem?_map] at hd
    cases e : (List.range n)[i]? with
    | none =>
      rw [e] at hd
      cases hd
    | some c =>
      rw [e] at hd
      cases hd
      obtain ⟨h1, h2⟩ := List.getElem?_eq_some_iff.mp e
      rw [List.getElem_range] at h2
      subst h2
      refine ⟨(by simpa using h1 : i < n), fun x H' y => ?_⟩
      obtain ⟨rfl, rfl⟩ := y
      exact ⟨F', .refl F', R, rfl⟩
theorem walks_rangeC {F : Fm} {lo c : Int} {n : Nat} : Walks (Itc lo c n) F ((List.range n).map fun i => .int (lo + (i : Nat) * c)) := fun i F' S H w _ R => by
  refine ⟨fun e => ?_, fun d hd => ?_⟩
  · have : i = n := by simpa using e
    show n ≤ i
    omega
  · rw [List.getElem?_map] at hd
    cases e : (List.range n)[i]? with
    | none =>
      rw [e] at hd
      cases hd
    | some k =>
      rw [e] at hd
      cases hd
      obtain ⟨h1, h2⟩ := List.getElem?_eq_some_iff.mp e
      rw [List.getElem_range] at h2
      subst h2
      refine ⟨(by simpa using h1 : i < n), fun x H' y => ?_⟩
      obtain ⟨rfl, rfl⟩ := y
      exact ⟨F', .refl F', R, rfl⟩
theorem seq_src {F : Fm} {S : Sto} {H : Hp} {k : LK} {ds : List DV} {v : V} (R : Rep F S H) (rv : Rel F (.lst k ds) v) : ∃ a, v = .ref a ∧ (∃ xs, SqL F.K H a xs) ∧ Walks (Itl F.K a) F ds := by
  obtain ⟨a, xs, rfl, hs, _⟩ := rv.lstSq R
  refine ⟨a, rfl, ⟨xs, hs⟩, walks_list fun F' S' H' w R' => ?_⟩
  obtain ⟨a', xs', e, hs', rl'⟩ := (Rel.wk w _ _ rv).lstSq R'
  cases e
  rw [w.k] at hs'
  exact ⟨xs', hs', rl'⟩
theorem id_seq {tg : Expr} (h : ED X e f) : ID X tg e (iSeq f) :=
  .of (PI.or (pi_list h.pe) (PI.or (pi_tup h.pe) (pi_str h.pe))) fun F S H ρ σ ds S' Q hk R rr hf hq => by
    unfold iSeq at hf
    split at hf
    · rename_i x S1 h1
      split at hf
      · rename_i es
        cases hf
        refine .inr (.inl (rdE.go hk R rr h1 fun F1 H1 v le hk1 R1 r1 rv => ?_))
        obtain ⟨a, xs, rfl, hs, rl⟩ := rv
        rw [← hk1]
        refine ⟨a, rfl, ⟨xs, SqT.of (R1.g _ _ hs)⟩, hq _ F1 H1 le R1 (walks_tup fun F' S' H' w R' => ⟨xs, SqT.of (R'.g _ _ (w.g _ _ hs)), RelL.wk w _ _ rl⟩)⟩
      · rename_i es
        cases hf
        refine .inr (.inl (rdE.go hk R rr h1 fun F1 H1 v le hk1 R1 r1 rv => ?_))
        obtain ⟨a, xs, rfl, hs, rl⟩ := rv
        rw [← hk1]
        refine ⟨a, rfl, ⟨xs, sqT_same R1.g hs⟩, hq _ F1 H1 le R1 (walks_tup fun F' S' H' w R' => ⟨xs, sqT_same R'.g (sqT_same w.g hs), RelL.wk w _ _ rl⟩)⟩
      · rename_i k es
        cases hf
        refine .inl (rdE.go hk R rr h1 fun F1 H1 v le hk1 R1 r1 rv => ?_)
        obtain ⟨a, rfl, hs, hw⟩ := seq_src R1 rv
        rw [← hk1]
        exact ⟨a, rfl, hs, hq _ F1 H1 le R1 hw⟩
      · rename_i s
        cases hf
        refine .inr (.inr (rdE.go hk R rr h1 fun F1 H1 v le hk1 R1 r1 rv => ?_))
        exact ⟨s, rv, hq _ F1 H1 le R1 walks_str⟩
      · rename_i n
        split at hf
        · rename_i k es hc
          cases hf
          refine .inl (rdE.go hk R rr h1 fun F1 H1 v le hk1 R1 r1 rv => ?_)
          obtain ⟨a, ha, rfl⟩ := rv
          obtain ⟨rl, _⟩ := R1.cell n _ a hc ha
          obtain ⟨a', e, hs, hw⟩ := seq_src R1 (show Rel F1 (.lst k ds) (.ref a) from rl)
          cases e
          rw [← hk1]
          exact ⟨a, rfl, hs, hq _ F1 H1 le R1 hw⟩
        · cases hf
      · cases hf
    · cases hf
def rgD (lo : Int) (n : Nat) : List DV := (List.range n).map fun i => .int (lo + (i : Nat))
def iRange1 (f : DA) : DI := fun ρ S => match f ρ S with
  | some ([.int j], S1) => if j.natAbs < 4611686018427387904 then some (rgD 0 j.toNat, S1) else none
  | _ => none
def iRange2 (f : DA) : DI := fun ρ S => match f ρ S with
  | some ([.int i, .int j], S1) => if i.natAbs < 4611686018427387904 ∧ j.natAbs < 4611686018427387904 then some (rgD i (j - i).toNat, S1) else none
  | _ => none
theorem id_range1 {tg : Expr} {es : List Expr} (ha : AD X es fa) (h : ∀ {t : TA}, PA X es t → PI X tg e (iRng1 t)) : ID X tg e (iRange1 fa) :=
  .of (h ha.pa) fun F S H ρ σ ds S' Q hk R rr hf hq => by
    unfold iRange1 at hf
    split at hf
    · rename_i j S1 h1
      obtain ⟨hb, hf⟩ := of_ite hf
      cases hf
      refine rdA.go hk R rr h1 fun F1 H1 vs le hk1 R1 r1 rl => ?_
      obtain ⟨v, rfl, rv⟩ := one rl
      obtain rfl := (show v = .int j from rv)
      exact ⟨j, rfl, by omega, by omega, hq _ F1 H1 le R1 walks_range⟩
    · cases hf
theorem id_range2 {tg : Expr} {es : List Expr} (ha : AD X es fa) (h : ∀ {t : TA}, PA X es t → PI X tg e (iRng2 t)) : ID X tg e (iRange2 fa) :=
  .of (h ha.pa) fun F S H ρ σ ds S' Q hk R rr hf hq => by
    unfold iRange2 at hf
    split at hf
    · rename_i i j S1 h1
      obtain ⟨hb, hf⟩ := of_ite hf
      cases hf
      refine rdA.go hk R rr h1 fun F1 H1 vs le hk1 R1 r1 rl => ?_
      obtain ⟨v, u, rfl, rv, ru⟩ := two rl
      obtain rfl := (show v = .int i from rv)
      obtain rfl := (show u = .int j from ru)
      exact ⟨i, j, rfl, ⟨by omega, by omega, by omega, by omega⟩, hq _ F1 H1 le R1 walks_range⟩
    · cases hf
def enD : Nat → List DV → List DV
  | _, [] => []
  | i, d :: ds => .tup [.int (i : Nat), d] :: enD (i + 1) ds
theorem enD_get : ∀ {ds : List DV} {k i : Nat}, (enD k ds)[i]? = (ds[i]?).map fun d => .tup [.int ((k + i : Nat) : Int), d]
  | [], k, i => by unfold enD; simp
  | d :: ds, k, 0 => by unfold enD; simp
  | d :: ds, k, i + 1 => by
    unfold enD
    rw [List.getElem?_cons_succ, List.getElem?_cons_succ, enD_get]
    have e : k + 1 + i = k + (i + 1) := by omega
    rw [e]
theorem enD_len : ∀ {ds : List DV} {k : Nat}, (enD k ds).length = ds.length
  | [], k => rfl
  | d :: ds, k => by
    unfold enD
    rw [List.length_cons, List.length_cons, enD_len]
def valL (S : Sto) : DV → Option (List DV)
  | .lst _ ds => some ds
  | .loc n => match S[n]? with
    | some (.frz (.lst _ ds)) => some ds
    | _ => none
  | _ => none
theorem valL_ok {F : Fm} {S : Sto} {H : Hp} {x : DV} {v : V} {ds : List DV} (R : Rep F S H) (r : Rel F x v) (h : valL S x = some ds) : ∃ k, Rel F (.lst k ds) v := by
  unfold valL at h
  split at h
  · rename_i k es
    cases h
    exact ⟨k, r⟩
  · rename_i n
    split at h
    · rename_i k es hc
      cases h
      obtain ⟨a, ha, rfl⟩ := r
      obtain ⟨rl, _⟩ := R.cell n _ a hc ha
      exact ⟨k, rl⟩
    · cases h
  · cases h
def iEnum (f : DA) : DI := fun ρ S => match f ρ S with
  | some ([x], S1) => (match valL S1 x with
    | some ds => some (enD 0 ds, S1)
    | none => none)
  | _ => none
theorem walks_enum {F : Fm} {a : Addr} {ds : List DV} (h : ∀ F' S H, Wk F F' → Rep F' S H → ∃ xs, SqL F.K H a xs ∧ RelL F' ds xs) : Walks (Ite F.K a) F (enD 0 ds) := fun i F' S H w _ R => by
  obtain ⟨xs, hs, rl⟩ := h F' S H w R
  refine ⟨fun e => ⟨xs, hs, by rw [e, enD_len, rl.length]; exact Nat.le_refl _⟩, fun d hd => ?_⟩
  rw [enD_get] at hd
  cases hd0 : ds[i]? with
  | none =>
    rw [hd0] at hd
    cases hd
  | some d0 =>
    rw [hd0] at hd
    cases hd
    obtain ⟨x, hx, rx⟩ := rl.get hd0
    refine ⟨⟨xs, x, hs, hx⟩, fun y H' yl => ?_⟩
    obtain ⟨T, x', rfl, hT, rfl, hy⟩ := yl
    have e := (hy xs hs).symm.trans hx
    cases e
    obtain ⟨R', le⟩ := R.add (o := .tup [.int (i : Nat), x]) hT
    exact ⟨_, le, R', T, _, rfl, upd_same, .cons (by rw [Nat.zero_add]; exact rfl) (.cons (rx.le le) rfl)⟩
theorem id_enum {tg : Expr} {es : List Expr} (ha : AD X es fa) (h : ∀ {t : TA}, PA X es t → PI X tg e (L2.iEnum X.K t)) : ID X tg e (iEnum fa) :=
  .of (h ha.pa) fun F S H ρ σ ds S' Q hk R rr hf hq => by
    unfold iEnum at hf
    split at hf
    · rename_i x S1 h1
      split at hf
      · rename_i es hv
        cases hf
        refine rdA.go hk R rr h1 fun F1 H1 vs le hk1 R1 r1 rl => ?_
        obtain ⟨v, rfl, rv⟩ := one rl
        obtain ⟨k, rv⟩ := valL_ok R1 rv hv
        obtain ⟨a, xs, rfl, hs, _⟩ := rv.lstSq R1
        rw [← hk1]
        refine ⟨a, xs, rfl, hs, hq _ F1 H1 le R1 (walks_enum fun F' S' H' w R' => ?_)⟩
        obtain ⟨a', xs', e, hs', rl'⟩ := (Rel.wk w _ _ rv).lstSq R'
        cases e
        rw [w.k] at hs'
        exact ⟨xs', hs', rl'⟩
      · cases hf
    · cases hf
end
end Dn

namespace Dn
open PySem PySem.Spec PyProof.Rows L2

/-! ### a def that is ready to be called -/
structure FnC (P : Program) (w : World) (K : PySem.W.Frag) (mg : Str → Option Value) (base : Heap) (x : Str) (k : Nat) (ps : List Str) (dvs : List V) (f : PL) : Prop where
  ex : ∃ (a : Addr) (fd : FuncData) (ds : List Value), mg x = some (.ref a) ∧ FnOk P w K mg base CX0 k a fd ps (spS K ps.length f) ∧ PySem.W.keepIn K (.ref a) = true ∧ Binds K fd ps ds ∧ Vals dvs ds
section
variable {X : Cx} {x : Str} {k j : Nat} {ps : List Str} {dvs : List V} {f : PL} {dds : List DV} {p pos : Pos} {e a b : Expr} {es : List Expr} {fa : DA}
theorem FnC.pe (C : FnC X.prog X.w X.K X.mg X.base x k ps dvs f) (hr : Room j X.A) (hj : k ≤ j) (hg : Gl X x) {t : TA} (ha : PA X (e :: es) t) (hdb : (x == ("__debug__" : Str)) = false := by decide)
    (he : starEach (e :: es) X.env = (false, eval e X.env) :: starEach es X.env := by rfl) (hpl : (backTo pos (starEach es X.env)).any (·.1) = false := by rfl) :
    PE X (.Call (.Name x p) (e :: es) [] pos) (tCall (spS X.K ps.length f) dvs E0 t) := by
  obtain ⟨a, fd, ds, h1, h2, h3, h4, h5⟩ := C.ex
  exact pe_call h2 (hr.mono hj) hg h1 h3 h4 h5 pass0 ha hdb he hpl
theorem ed_callS (C : FnC X.prog X.w X.K X.mg X.base x k ps dvs (runF np n b0)) (hn : ps.length = np) (hr : Room j X.A) (hj : k ≤ j) (hg : Gl X x) (hd : ∀ F : Fm, RelL F dds dvs) (ha : AD X (e :: es) fa) (hdb : (x == ("__debug__" : Str)) = false := by decide)
    (he : starEach (e :: es) X.env = (false, eval e X.env) :: starEach es X.env := by rfl) (hpl : (backTo pos (starEach es X.env)).any (·.1) = false := by rfl) :
    ED X (.Call (.Name x p) (e :: es) [] pos) (dPrim (cS (runF np n b0) dds) fa) := by
  subst hn
  exact ed_call (fun {t} ha => C.pe hr hj hg ha hdb he hpl) (ok_cS hd runF_len) ha
theorem ed_callP (C : FnC X.prog X.w X.K X.mg X.base x k ps dvs (runF np n b0)) (hn : ps.length = np) (hr : Room j X.A) (hj : k ≤ j) (hg : Gl X x) (hd : ∀ F : Fm, RelL F dds dvs) (ha : AD X (e :: es) fa) (hdb : (x == ("__debug__" : Str)) = false := by decide)
    (he : starEach (e :: es) X.env = (false, eval e X.env) :: starEach es X.env := by rfl) (hpl : (backTo pos (starEach es X.env)).any (·.1) = false := by rfl) :
    ED X (.Call (.Name x p) (e :: es) [] pos) (dPrim (cP (pureOf (runF np n b0)) dds) fa) := by
  subst hn
  exact ed_call (fun {t} ha => C.pe hr hj hg ha hdb he hpl) (ok_cP hd runF_len) ha
theorem ed_callM (C : FnC X.prog X.w X.K X.mg X.base x k ps dvs (runF np n b0)) (hn : ps.length = np) (hr : Room j X.A) (hj : k ≤ j) (hg : Gl X x) (hd : ∀ F : Fm, RelL F dds dvs) (ha : AD X (e :: es) fa) (hdb : (x == ("__debug__" : Str)) = false := by decide)
    (he : starEach (e :: es) X.env = (false, eval e X.env) :: starEach es X.env := by rfl) (hpl : (backTo pos (starEach es X.env)).any (·.1) = false := by rfl) :
    ED X (.Call (.Name x p) (e :: es) [] pos) (dPrim (cM (freshOf (runF np n b0)) dds) fa) := by
  subst hn
  exact ed_call (fun {t} ha => C.pe hr hj hg ha hdb he hpl) (ok_cM hd runF_len) ha
theorem dd0 (F : Fm) : RelL F [] [] := rfl
theorem FnC.of {P : Program} {w : World} {K : PySem.W.Frag} {mg : Str → Option Value} {base : Heap} {a : Addr} {fd : FuncData} {qual : Str} {params : Arguments} {body : List Stmt} {scope : Scope}
    (F : FunD K x qual params body scope [] [] a fd) (hm : mg x = some (.ref a)) (h : FnOk P w K mg base CX0 k a fd ps (spS K ps.length f))
    (hb : ∀ (kV doc pm : Value) (an : Option Addr) (cdv ct : Value) (us : List Value), us.length = ps.length → bindArgs (PySem.W.fnOf x qual params body scope .none kV doc pm an cdv ct) ⟨us, []⟩ = pure (ps.zip us)) : FnC P w K mg base x k ps [] f :=
  ⟨a, fd, [], hm, h, F.kp, F.bindsN hb, .nil⟩

/-! ### names of the module -/
def dvD : He.Dv → DV
  | .bl b => .bl b
  | .int i => .int i
  | .str s => .str s
  | _ => .non
def dvOk : He.Dv → Bool
  | .non => true
  | .bl _ => true
  | .int _ => true
  | .str _ => true
  | _ => false
theorem dvD_rel {K : PySem.W.Frag} {F : Fm} : ∀ {vs : List He.Dv}, vs.all dvOk = true → RelL F (vs.map dvD) (vs.map (He.Dv.v K))
  | [], _ => rfl
  | v :: vs, h => by
    rw [List.all_cons] at h
    obtain ⟨h1, h2⟩ := Bool.and_eq_true_iff.mp h
    refine ⟨_, _, rfl, ?_, dvD_rel h2⟩
    cases v <;> first | exact rfl | cases h1
theorem ed_kint {i : Int} (h : ∃ t, X.mg x = some (.int i t)) (hg : Gl X x := by rfl) (hd : (x == ("__debug__" : Str)) = false := by decide) : ED X (.Name x pos) (dC (.int i)) := by
  obtain ⟨t, h⟩ := h
  exact ed_c (pe_glob (v := .int i) hg h ⟨t, rfl⟩ hd) fun _ => rfl
theorem ed_kstr {i : Str} (h : ∃ t, X.mg x = some (.str i t)) (hg : Gl X x := by rfl) (hd : (x == ("__debug__" : Str)) = false := by decide) : ED X (.Name x pos) (dC (.str i)) := by
  obtain ⟨t, h⟩ := h
  exact ed_c (pe_glob (v := .str i) hg h ⟨t, rfl⟩ hd) fun _ => rfl
theorem ed_ktup {vs : List He.Dv} (h : X.mg x = some (.ref (He.ga X.K x))) (ht : He.tupB X.K x vs = true) (ho : vs.all dvOk = true := by decide) (hg : Gl X x := by rfl) (hd : (x == ("__debug__" : Str)) = false := by decide) : ED X (.Name x pos) (dC (.tupx (vs.map dvD))) :=
  .of (pe_glob (v := .ref (He.ga X.K x)) hg h rfl hd) fun F S H ρ σ d S' Q hk R rr hf hq => by
    cases (show some (DV.tupx (vs.map dvD), S) = some (d, S') from hf)
    exact hq F H _ (.refl F) R ⟨_, _, rfl, by rw [hk]; exact He.tupB_ok ht _, dvD_rel ho⟩

/-! ### built-in calls in short -/
structure TB (mg : Str → Option Value) : Prop where
  len : mg "len" = none
  isinstance : mg "isinstance" = none
  range : mg "range" = none
  enumerate : mg "enumerate" = none
  list : mg "list" = none
  tuple : mg "tuple" = none
  str : mg "str" = none
  int : mg "int" = none
  max : mg "max" = none
  min : mg "min" = none
  sum : mg "sum" = none
  any : mg "any" = none
  all : mg "all" = none
  sorted : mg "sorted" = none
  set : mg "set" = none
  reversed : mg "reversed" = none
  bool : mg "bool" = none
  dict : mg "dict" = none
  zip : mg "zip" = none
  ve : mg "ValueError" = none
def frees : List He.Fa := [.free "len", .free "isinstance", .free "range", .free "enumerate", .free "list", .free "tuple", .free "str", .free "int", .free "max", .free "min", .free "sum", .free "any", .free "all", .free "sorted", .free "set", .free "reversed", .free "bool", .free "dict", .free "zip", .free "ValueError"]
theorem tb_of {K : PySem.W.Frag} {h : Heap} {mg : Str → Option Value} (X : K.In h) (G : h.Ns mainGlobals mg) (c : ∀ f ∈ frees, f.ok K = true) : TB mg := by
  have g : ∀ {x : Str}, He.Fa.free x ∈ frees → mg x = none := fun {x} hx => He.free_ok X G (c _ hx)
  have m : ∀ (i : Nat) {x : Str}, frees[i]? = some (He.Fa.free x) → mg x = none := fun i {x} e => g (List.mem_of_getElem? e)
  exact ⟨m 0 rfl, m 1 rfl, m 2 rfl, m 3 rfl, m 4 rfl, m 5 rfl, m 6 rfl, m 7 rfl, m 8 rfl, m 9 rfl, m 10 rfl, m 11 rfl, m 12 rfl, m 13 rfl, m 14 rfl, m 15 rfl, m 16 rfl, m 17 rfl, m 18 rfl, m 19 rfl⟩
section
theorem e_isi {T7 : Ty7} {e1 : Expr} {f : DE} {p1 p2 : Pos} (T : TB X.mg) (hm : X.mg (Str.ofString T7.name) = none) (hT : T7 ≠ .non) (hg : Gl X "isinstance") (hg2 : Gl X (Str.ofString T7.name)) (hb : bootBuiltins (Str.ofString T7.name) = some (.type T7.name))
    (hx : ED X e1 f) (hn : Str.ofString T7.name ≠ "__name__" := by decide) (hd : (Str.ofString T7.name == ("__debug__" : Str)) = false := by decide)
    (h1 : starEach [e1, .Name (Str.ofString T7.name) p2] X.env = (false, eval e1 X.env) :: starEach [.Name (Str.ofString T7.name) p2] X.env := by rfl)
    (hpl : (backTo pos (starEach [.Name (Str.ofString T7.name) p2] X.env)).any (·.1) = false := by rfl) :
    ED X (.Call (.Name "isinstance" p1) [e1, .Name (Str.ofString T7.name) p2] [] pos) (dIsi T7 f) :=
  ed_isi hT hx fun h => pe_callB call_isi hg T.isinstance boot_isinstance (pa_cons h (pa_cons (pe_bltn hg2 hm hb rfl hn hd) pa_nil) h1) (he := h1) (hpl := hpl)
end
end
theorem call_tupAll {X : Cx} : CallR X (.type "tuple") (rTupAll X.K) := call_tuple_of
/-! ### targets in short -/
section
variable {X : Cx} {e : Expr} {es : List Expr}
theorem gds_c {g : DG} {h : DGs} (h1 : GD X e g) (h2 : GDs X es h) (ha : (assignEach (e :: es) X.env).map (·.2) = assign e X.env :: (assignEach es X.env).map (·.2) := by rfl) : GDs X (e :: es) (gsCons g h) := gds_cons (t := rdG X.K g) (u := rdGs X.K h) h1 h2 (pgs_cons h1.pg h2.pg ha)
theorem gd_t {h : DGs} {k n : Nat} {pos : Pos} (hc : X.calm = true) (h2 : GDs X es h) (hn : (assignEach es X.env).length = n := by rfl) (hst : (assignEach es X.env).findIdx? (·.1) = none := by rfl) : GD X (.Tuple es k pos) (gTupD n h) := gd_tup h2 (pg_tup hc h2.pg hn hst)
end
/-! ### the head -/
abbrev AlX : Type := He.AlD × Bool
def obsX (n : Nat) (fa : List He.Fa) (fn : List He.DefD) (ex : PySem.W.Frag → Bool) (g : Addr → Option Obj) : AlX := (He.obsD fa fn (He.frG g (He.asD g n)), ex (He.frG g (He.asD g n)))
def hookX (n : Nat) (fa : List He.Fa) (fn : List He.DefD) (ex : PySem.W.Frag → Bool) : PySem.W.Hook where
  α := AlX
  obs := fun s => obsX n fa fn ex s.heap.get?
  val := fun _ => (He.valD fn, true)
  says := fun _ h => ∃ K : PySem.W.Frag, K.In h ∧ He.SaysD fa fn K ∧ ex K = true
  of := fun _ _ e => ⟨_, He.frG_in, congrArg Prod.fst e, congrArg Prod.snd e⟩
  keeps := fun _ _ _ ⟨K, hK, c⟩ k => ⟨K, PySem.W.Frag.In.keeps hK k, c⟩
theorem obsX_eq {n : Nat} {fa : List He.Fa} {fn : List He.DefD} {ex : PySem.W.Frag → Bool} {g : Addr → Option Obj} {s : Shared} (h : ∀ a, g a = s.heap.get? a) : obsX n fa fn ex g = (hookX n fa fn ex).obs s := by
  have e : g = s.heap.get? := funext h
  rw [e] <;> rfl
structure Facts (fa : List He.Fa) (fn : List He.DefD) (ex : PySem.W.Frag → Bool) (K : PySem.W.Frag) (mg : Str → Option Value) : Prop where
  h : ∃ h : Heap, K.In h ∧ h.Ns mainGlobals mg
  c : He.SaysD fa fn K
  e : ex K = true
section
variable {fa : List He.Fa} {fn : List He.DefD} {ex : PySem.W.Frag → Bool} {K : PySem.W.Frag} {mg : Str → Option Value}
theorem Facts.glo (Y : Facts fa fn ex K mg) (i : Nat) {x : Str} (h : fa[i]? = some (.glo x) := by rfl) : mg x = some (.ref (He.ga K x)) := by
  obtain ⟨hp, X, G⟩ := Y.h
  exact He.glo_ok X G (Y.c.fact i h)
theorem Facts.int (Y : Facts fa fn ex K mg) (i : Nat) {x : Str} {k : Int} (h : fa[i]? = some (.int x k) := by rfl) : ∃ t, mg x = some (.int k t) := by
  obtain ⟨hp, X, G⟩ := Y.h
  exact He.int_ok X G (Y.c.fact i h)
theorem Facts.str (Y : Facts fa fn ex K mg) (i : Nat) {x k : Str} (h : fa[i]? = some (.str x k) := by rfl) : ∃ t, mg x = some (.str k t) := by
  obtain ⟨hp, X, G⟩ := Y.h
  exact He.str_ok X G (Y.c.fact i h)
theorem Facts.tb0 (Y : Facts fa fn ex K mg) (hl : ∃ l, fa = l ++ frees) : TB mg := by
  obtain ⟨hp, X, G⟩ := Y.h
  obtain ⟨l, rfl⟩ := hl
  refine tb_of X G fun f hf => ?_
  obtain ⟨i, hi⟩ := List.mem_iff_getElem?.mp (List.mem_append_right l hf)
  exact Y.c.fact i hi
end
/-- the law's promise off its mathematics -/
theorem spS_law {K : PySem.W.Frag} {f : PL} {H : Hp} {a : Addr} {ns : List Int} {E : XK} (hS : SqL K H a (ns.map V.int)) (h : ∃ S', f [.lst .ext (ns.map DV.int)] [] = some (.bl true, S')) : spS K 1 f [.ref a] H (fun v _ => v = .bl true) E := by
  obtain ⟨S', h⟩ := h
  refine ⟨⟨K, H, fun _ => none, fun _ => none, []⟩, [], [.lst .ext (ns.map DV.int)], .bl true, S', rfl, ⟨Same.refl _, (fun _ _ q => nomatch q), (fun _ _ q => nomatch q), fun _ _ e => e, rfl, fun n c a h _ => by simp at h, fun n m c c' a h => by simp at h⟩, rel1 ⟨a, _, rfl, hS, ints_rel _⟩, rfl, h, fun F' H' v le R' rv => rv⟩
end Dn

namespace Dn
open PySem PySem.Spec PyProof.Rows L2

/-! ### the laws' mathematics: evaluating denotations -/
mutual
/-- a value without cells and borrowed parts -/
def plain : DV → Bool
  | .loc _ => false
  | .tup ds => plainL ds
  | .tupx ds => plainL ds
  | .lst k ds => (match k with | .bor => false | _ => true) && plainL ds
  | .dik k _ ds => (match k with | .own => true | _ => false) && plainL ds
  | .dit k _ ds => (match k with | .own => true | _ => false) && plainL ds
  | _ => true
def plainL : List DV → Bool
  | [] => true
  | d :: ds => plain d && plainL ds
end
mutual
theorem mapD_plain {b : Bool} {h : Nat → Option DV} : ∀ {d : DV}, plain d = true → mapD b h d = some d
  | .loc _, e => by cases e
  | .non, _ => rfl
  | .bl _, _ => rfl
  | .int _, _ => rfl
  | .str _, _ => rfl
  | .tup ds, e => by
    unfold mapD
    rw [mapDL_plain (d := ds) e]
  | .tupx ds, e => by
    unfold mapD
    rw [mapDL_plain (d := ds) e]
  | .lst k ds, e => by
    unfold plain at e
    obtain ⟨e1, e2⟩ := Bool.and_eq_true_iff.mp e
    unfold mapD
    rw [mapDL_plain e2]
    cases k with
    | bor => cases e1
    | own => rfl
    | ext => rfl
  | .dik k ks ds, e => by
    unfold plain at e
    obtain ⟨e1, e2⟩ := Bool.and_eq_true_iff.mp e
    unfold mapD
    rw [mapDL_plain e2]
    cases k with
    | bor => cases e1
    | own => rfl
    | ext => cases e1
  | .dit k ks ds, e => by
    unfold plain at e
    obtain ⟨e1, e2⟩ := Bool.and_eq_true_iff.mp e
    unfold mapD
    rw [mapDL_plain e2]
    cases k with
    | bor => cases e1
    | own => rfl
    | ext => cases e1
theorem mapDL_plain {b : Bool} {h : Nat → Option DV} : ∀ {d : List DV}, plainL d = true → mapDL b h d = some d
  | [], _ => rfl
  | d :: ds, e => by
    unfold plainL at e
    obtain ⟨e1, e2⟩ := Bool.and_eq_true_iff.mp e
    unfold mapDL
    rw [mapD_plain e1, mapDL_plain e2]
end
theorem cpD_plain {b : Bool} {S : Sto} {d : DV} (h : plain d = true) : cpD b S d = some d := mapD_plain h
theorem cpL_plain {b : Bool} {S : Sto} {d : List DV} (h : plainL d = true) : cpL b S d = some d := mapDL_plain h
section
variable {b : Bool} {x : Str} {i : Int} {ds : List DV} {d : DV}
@[simp] theorem plain_non : plain .non = true := (rfl)
@[simp] theorem plain_bl : plain (.bl b) = true := (rfl)
@[simp] theorem plain_int : plain (.int i) = true := (rfl)
@[simp] theorem plain_str : plain (.str x) = true := (rfl)
@[simp] theorem plain_tup : plain (.tup ds) = plainL ds := (rfl)
@[simp] theorem plain_tupx : plain (.tupx ds) = plainL ds := (rfl)
@[simp] theorem plain_own : plain (.lst .own ds) = plainL ds := by simp [plain]
@[simp] theorem plain_ext : plain (.lst .ext ds) = plainL ds := by simp [plain]
@[simp] theorem plainL_nil : plainL [] = true := (rfl)
@[simp] theorem plainL_cons : plainL (d :: ds) = (plain d && plainL ds) := (rfl)
theorem plainL_iff : ∀ {ds : List DV}, plainL ds = true ↔ ∀ d ∈ ds, plain d = true
  | [] => by simp
  | d :: ds => by simp [plainL_iff (ds := ds)]
@[simp] theorem plainL_app {a b : List DV} : plainL (a ++ b) = (plainL a && plainL b) := by
  induction a with
  | nil => simp
  | cons x r ih => simp [ih, Bool.and_assoc]
@[simp] theorem plainL_ints {ns : List Int} : plainL (ns.map DV.int) = true := plainL_iff.mpr fun d h => by
  obtain ⟨i, _, rfl⟩ := List.mem_map.mp h
  rfl
@[simp] theorem plainL_strs {ns : List Str} : plainL (ns.map DV.str) = true := plainL_iff.mpr fun d h => by
  obtain ⟨i, _, rfl⟩ := List.mem_map.mp h
  rfl
end
/-- a cell's copy -/
theorem cpD_loc {b : Bool} {S : Sto} {n : Nat} {ds : List DV} (h : S[n]? = some (.lst ds)) (hp : plainL ds = true) : cpD b S (.loc n) = some (.lst (bk b) ds) := by
  show cpN b (S.length + 1) S n = _
  unfold cpN
  simp only [h, mapDL_plain hp]
theorem pureOf_of {f : PL} {ds : List DV} {d : DV} {S' : Sto} (h : f ds [] = some (d, S')) (hp : plain d = true) : pureOf f ds = some d := by
  unfold pureOf
  rw [h]
  exact cpD_plain hp
theorem pureOf_loc {f : PL} {ds es : List DV} {n : Nat} {S' : Sto} (h : f ds [] = some (.loc n, S')) (hn : S'[n]? = some (.lst es)) (hp : plainL es = true) : pureOf f ds = some (.lst .own es) := by
  unfold pureOf
  rw [h]
  exact cpD_loc hn hp
theorem freshOf_loc {f : PL} {ds es : List DV} {n : Nat} {S' : Sto} (h : f ds [] = some (.loc n, S')) (hn : S'[n]? = some (.lst es)) (hp : plainL es = true) : freshOf f ds = some es := by
  unfold freshOf
  simp only [h, hn]
  exact cpL_plain hp

section
variable {f g h : DE} {fa : DA} {s t : DS} {p : P2} {ρ : Ev} {S : Sto} {i : Nat} {d : DV} {pl : PL} {pf : List DV → Option DV} {xs : List DV}
@[simp] theorem v_var : dVar i ρ S = (match ρ[i]? with | some (some d) => some (d, S) | _ => none) := (rfl)
@[simp] theorem v_c : dC d ρ S = some (d, S) := (rfl)
@[simp] theorem v_un {p : P1} : dUn p f ρ S = (match f ρ S with | some (x, S1) => p x S1 | none => none) := (rfl)
@[simp] theorem v_bin : dBin p f g ρ S = (match f ρ S with | some (x, S1) => (match g ρ S1 with | some (y, S2) => p x y S2 | none => none) | none => none) := (rfl)
@[simp] theorem v_and : dAnd f g ρ S = (match f ρ S with | some (.bl true, S1) => g ρ S1 | some (.bl false, S1) => some (.bl false, S1) | _ => none) := (rfl)
@[simp] theorem v_or : dOr f g ρ S = (match f ρ S with | some (.bl true, S1) => some (.bl true, S1) | some (.bl false, S1) => g ρ S1 | _ => none) := (rfl)
@[simp] theorem v_not : dNot f ρ S = (match f ρ S with | some (.bl c, S1) => some (.bl (!c), S1) | _ => none) := (rfl)
@[simp] theorem v_if : dIf h f g ρ S = (match h ρ S with | some (.bl true, S1) => f ρ S1 | some (.bl false, S1) => g ρ S1 | _ => none) := (rfl)
@[simp] theorem v_nil : aNil ρ S = some ([], S) := (rfl)
@[simp] theorem v_cons : aCons f fa ρ S = (match f ρ S with | some (x, S1) => (match fa ρ S1 with | some (xs, S2) => some (x :: xs, S2) | none => none) | none => none) := (rfl)
@[simp] theorem v_prim : dPrim pl fa ρ S = (match fa ρ S with | some (xs, S1) => pl xs S1 | none => none) := (rfl)
@[simp] theorem v_next : dNext ρ S = some (.nx ρ S) := (rfl)
@[simp] theorem v_seq : dSeq s t ρ S = (match s ρ S with | some (.nx ρ' S') => t ρ' S' | o => o) := (rfl)
@[simp] theorem v_break : dBreak ρ S = some (.bk ρ S) := (rfl)
@[simp] theorem v_cont : dCont ρ S = some (.ct ρ S) := (rfl)
@[simp] theorem v_expr : dExpr f ρ S = (match f ρ S with | some (_, S') => some (.nx ρ S') | none => none) := (rfl)
@[simp] theorem v_ret : dRet f ρ S = (match f ρ S with | some (d, S') => some (.rt d S') | none => none) := (rfl)
@[simp] theorem v_retN : dRetN ρ S = some (.rt .non S) := (rfl)
@[simp] theorem v_ifS : dIfS f s t ρ S = (match f ρ S with | some (.bl true, S1) => s ρ S1 | some (.bl false, S1) => t ρ S1 | _ => none) := (rfl)
@[simp] theorem v_gset : gSet i d ρ S = some (ρ.set i (some d), S) := (rfl)
@[simp] theorem v_set : dSet i f ρ S = (match f ρ S with | some (d, S1) => some (.nx (ρ.set i (some d)) S1) | none => none) := (rfl)
@[simp] theorem v_isi {T : Ty7} : dIsi T f ρ S = (match f ρ S with | some (x, S1) => (match tyD S1 x with | some t => some (.bl (isT t T), S1) | none => none) | none => none) := (rfl)
@[simp] theorem v_for {it : DI} {gt : DG} : dFor it gt s ρ S = (match it ρ S with | some (ds, S1) => forL gt s ds ρ S1 | none => none) := (rfl)
@[simp] theorem v_aug : dAug i p f ρ S = (match ρ[i]? with | some (some x) => (match f ρ S with | some (y, S1) => (match p x y S1 with | some (d, S2) => some (.nx (ρ.set i (some d)) S2) | none => none) | none => none) | _ => none) := (rfl)
theorem cP_plain (h : plainL xs = true) : cP pf [] xs S = (match pf xs with | some d => some (d, S) | none => none) := by
  unfold cP
  rw [List.append_nil, cpL_plain h] <;> rfl
@[simp] theorem cP_eq : cP pf [] xs S = (match cpL true S xs with | some ys => (match pf ys with | some d => some (d, S) | none => none) | none => none) := by
  unfold cP
  rw [List.append_nil] <;> rfl
@[simp] theorem cM_eq {pm : List DV → Option (List DV)} : cM pm [] xs S = (match cpL true S xs with | some ys => (match pm ys with | some es => some (.loc S.length, S ++ [.lst es]) | none => none) | none => none) := by
  unfold cM
  rw [List.append_nil] <;> rfl
@[simp] theorem v_subI {a b : Int} : pSub (.int a) (.int b) S = some (.int (a - b), S) := (rfl)
@[simp] theorem v_addI {a b : Int} : pAdd (.int a) (.int b) S = some (.int (a + b), S) := (rfl)
@[simp] theorem v_addI2 {a b : Int} : pAddI (.int a) (.int b) S = some (.int (a + b), S) := (rfl)
@[simp] theorem v_andI {a b : Int} : pAnd (.int a) (.int b) S = some (.int (Builtin.bitAnd a b), S) := (rfl)
@[simp] theorem v_orI {a b : Int} : pOr (.int a) (.int b) S = some (.int (Builtin.bitOr a b), S) := (rfl)
@[simp] theorem v_xorI {a b : Int} : pXor (.int a) (.int b) S = some (.int (Builtin.bitXor a b), S) := (rfl)
@[simp] theorem v_neg {a : Int} : pNeg (.int a) S = some (.int (-a), S) := (rfl)
theorem v_modI {a b : Int} (h : 0 < b) : pMod (.int a) (.int b) S = some (.int (a % b), S) := by
  show (match gMod a b with | some k => some (DV.int k, S) | none => none) = _
  unfold gMod
  rw [if_pos h]
theorem v_divI {a b : Int} (h : 0 < b) (h2 : b < 18446744073709551616) : pDiv (.int a) (.int b) S = some (.int (a / b), S) := by
  have h3 : b.natAbs < 2 ^ 64 := by omega
  have h4 : b.natAbs.log2 < 64 := (Nat.log2_lt (by omega)).mpr h3
  have e : gDiv a b = some (a / b) := by
    unfold gDiv
    exact if_pos ⟨h, by omega⟩
  show (match gDiv a b with | some k => some (DV.int k, S) | none => none) = _
  rw [e]
theorem v_mulI {a b : Int} (h : -18446744073709551616 < b ∧ b < 18446744073709551616) : pMul (.int a) (.int b) S = some (.int (a * b), S) := by
  show (match gMul a b with | some k => some (DV.int k, S) | none => none) = _
  unfold gMul
  rw [if_pos (.inl (.inr (by omega)))]
theorem v_mulIl {a b : Int} (h : -18446744073709551616 < a ∧ a < 18446744073709551616) : pMul (.int a) (.int b) S = some (.int (a * b), S) := by
  show (match gMul a b with | some k => some (DV.int k, S) | none => none) = _
  unfold gMul
  rw [if_pos (.inl (.inl (by omega)))]
theorem v_powI {a : Int} {b : Nat} (h2 : b ≤ 1000000) (h3 : a.natAbs < 18446744073709551616) : pPow (.int a) (.int b) S = some (.int (a ^ b), S) := by
  show (match gPow a b with | some k => some (DV.int k, S) | none => none) = _
  unfold gPow
  rw [if_pos ⟨by omega, by omega, h3⟩]
  rfl
@[simp] theorem v_addL {k l : LK} {xs ys : List DV} (hk : k ≠ .ext := by decide) (hl : l ≠ .ext := by decide) : pAdd (.lst k xs) (.lst l ys) S = (if xs.length + ys.length ≤ sizeLine then some (.lst .own (xs ++ ys), S) else none) := by
  cases k <;> cases l <;> first | rfl | exact absurd rfl hk | exact absurd rfl hl
@[simp] theorem v_addS {a b : Str} : pAdd (.str a) (.str b) S = (if a.length + b.length ≤ sizeLine then some (.str (a ++ b), S) else none) := (rfl)
@[simp] theorem v_addT {xs ys : List DV} : pAdd (.tup xs) (.tup ys) S = (if xs.length + ys.length ≤ sizeLine then some (.tup (xs ++ ys), S) else none) := (rfl)
@[simp] theorem v_pLst {xs : List DV} : pLst xs S = (if xs.length ≤ sizeLine then some (.lst .own xs, S) else none) := (rfl)
@[simp] theorem v_pLstM {xs : List DV} : pLstM xs S = (if xs.length ≤ sizeLine then some (.loc S.length, S ++ [.lst xs]) else none) := (rfl)
@[simp] theorem v_pTup {xs : List DV} : pTup xs S = (if xs.length ≤ sizeLine then some (.tup xs, S) else none) := (rfl)
@[simp] theorem size_eq : sizeLine = 16777216 := (rfl)
@[simp] theorem v_lt {a b : Int} : pLt (.int a) (.int b) S = some (.bl (decide (a < b)), S) := (rfl)
@[simp] theorem v_le {a b : Int} : pLe (.int a) (.int b) S = some (.bl (decide (a ≤ b)), S) := (rfl)
@[simp] theorem v_gt {a b : Int} : pGt (.int a) (.int b) S = some (.bl (decide (b < a)), S) := (rfl)
@[simp] theorem v_ge {a b : Int} : pGe (.int a) (.int b) S = some (.bl (decide (b ≤ a)), S) := (rfl)
@[simp] theorem v_eqI {a b : Int} : pEq false (.int a) (.int b) S = some (.bl (decide (a = b)), S) := (rfl)
@[simp] theorem v_neI {a b : Int} : pEq true (.int a) (.int b) S = some (.bl (!decide (a = b)), S) := (rfl)
@[simp] theorem v_eqS {a b : Str} : pEq false (.str a) (.str b) S = some (.bl (decide (a = b)), S) := (rfl)
@[simp] theorem v_neS {a b : Str} : pEq true (.str a) (.str b) S = some (.bl (!decide (a = b)), S) := (rfl)
@[simp] theorem v_isN : pIs false d .non S = some (.bl (isNon d), S) := (rfl)
@[simp] theorem v_isnN : pIs true d .non S = some (.bl (!isNon d), S) := (rfl)
end
@[simp] theorem isNon_int {i : Int} : isNon (.int i) = false := (rfl)
@[simp] theorem isNon_str {i : Str} : isNon (.str i) = false := (rfl)
@[simp] theorem isNon_non : isNon .non = true := (rfl)
@[simp] theorem isNon_loc {n : Nat} : isNon (.loc n) = false := (rfl)
section
variable {f : DE} {ρ : Ev} {S : Sto}
theorem iSeq_k {x : DV} {ds : List DV} {k : LK} {S1 : Sto} (h : f ρ S = some (.lst k ds, S1)) : iSeq f ρ S = some (ds, S1) := by
  unfold iSeq
  simp only [h]
@[simp] theorem iSeq_eq : iSeq f ρ S = (match f ρ S with | some (x, S1) => (match x with | .tup ds => some (ds, S1) | .tupx ds => some (ds, S1) | .lst _ ds => some (ds, S1) | .str s => some (s.cps.toList.map fun c => .str ⟨#[c]⟩, S1) | .loc n => (match S1[n]? with | some (.frz (.lst _ ds)) => some (ds, S1) | _ => none) | _ => none) | none => none) := (rfl)
end
/-! ### places -/
theorem ixN_nat {n k : Nat} (h : k < n) : ixN n (k : Int) = some k := by
  unfold ixN
  rw [if_pos (by omega), if_pos (by omega), Int.toNat_natCast]
theorem ixN_int {n : Nat} {i : Int} (h : 0 ≤ i) (h2 : i < n) : ixN n i = some i.toNat := by
  unfold ixN
  rw [if_pos h, if_pos h2]
theorem ixN_neg {n : Nat} {i : Int} (h : i < 0) (h2 : -(n : Int) ≤ i) : ixN n i = some (i + n).toNat := by
  unfold ixN
  rw [if_neg (by omega), if_pos h2]
section
variable {S : Sto} {ds : List DV} {i : Int} {d : DV}
theorem ix_seq {k : LK} (h : atD ds i = some d) : pIx (.lst k ds) (.int i) S = some (d, S) := by
  show (match atD ds i with | some d => some (d, S) | none => none) = _
  rw [h]
theorem ix_tup (h : atD ds i = some d) : pIx (.tup ds) (.int i) S = some (d, S) := by
  show (match atD ds i with | some d => some (d, S) | none => none) = _
  rw [h]
theorem ix_tupx (h : atD ds i = some d) : pIx (.tupx ds) (.int i) S = some (d, S) := by
  show (match atD ds i with | some d => some (d, S) | none => none) = _
  rw [h]
theorem ix_loc {n : Nat} (hn : S[n]? = some (.lst ds)) (h : atD ds i = some d) : pIx (.loc n) (.int i) S = some (d, S) := by
  show (match asL S (.loc n) with | some ds => (match atD ds i with | some d => some (d, S) | none => none) | none => _) = _
  unfold asL
  simp only [hn, h]
theorem ix_str {s : Str} {c : Nat} (hl : s.length ≤ sizeLine) (h : atI s.cps.toList i = some c) : pIx (.str s) (.int i) S = some (.str ⟨#[c]⟩, S) := by
  show (if s.length ≤ sizeLine then (match atI s.cps.toList i with | some c => some (DV.str ⟨#[c]⟩, S) | none => none) else none) = _
  rw [if_pos hl, h]
theorem atD_nat {k : Nat} (h : ds[k]? = some d) : atD ds (k : Int) = some d := by
  unfold atD
  rw [ixN_nat (List.getElem?_eq_some_iff.mp h).1]
  exact h
theorem atD_int (h0 : 0 ≤ i) (h : ds[i.toNat]? = some d) : atD ds i = some d := by
  have := atD_nat h
  rwa [Int.toNat_of_nonneg h0] at this
/-- a written text's sign at a place that is within -/
theorem ix_str_some {s : Str} (hl : s.length ≤ sizeLine) (h0 : 0 ≤ i) (h1 : i < s.cps.toList.length) : ∃ c, c ∈ s.cps.toList ∧ pIx (.str s) (.int i) S = some (.str ⟨#[c]⟩, S) := by
  have hlt : i.toNat < s.cps.toList.length := by omega
  refine ⟨s.cps.toList[i.toNat], List.getElem_mem hlt, ix_str hl ?_⟩
  unfold atI
  rw [ixN_int h0 h1]
  exact List.getElem?_eq_getElem hlt
end

/-! ### comprehensions and loops -/
inductive All2 {α β : Type} (P : α → β → Prop) : List α → List β → Prop where
  | nil : All2 P [] []
  | cons {a b as bs} (h : P a b) (t : All2 P as bs) : All2 P (a :: as) (b :: bs)
theorem lcL_all {g : DG} {c fe : DE} {ρ : Ev} {S : Sto} {P : DV → DV → Prop} : ∀ {ds : List DV}, (∀ d ∈ ds, ∃ ρ1 y, g d ρ S = some (ρ1, S) ∧ c ρ1 S = some (.bl true, S) ∧ fe ρ1 S = some (y, S) ∧ P d y) → ∃ ys, lcL g c fe ρ ds S = some (ys, S) ∧ All2 P ds ys
  | [], _ => ⟨[], rfl, .nil⟩
  | d :: ds, h => by
    obtain ⟨ρ1, y, h1, h2, h3, h4⟩ := h d List.mem_cons_self
    obtain ⟨ys, e, f⟩ := lcL_all (ds := ds) fun d hd => h d (List.mem_cons_of_mem _ hd)
    refine ⟨y :: ys, ?_, .cons h4 f⟩
    unfold lcL
    simp only [h1, h2, h3, e]
theorem lcL_map {g : DG} {c fe : DE} {ρ : Ev} {S : Sto} {f : DV → DV} {ds : List DV} (h : ∀ d ∈ ds, ∃ ρ1, g d ρ S = some (ρ1, S) ∧ c ρ1 S = some (.bl true, S) ∧ fe ρ1 S = some (f d, S)) : lcL g c fe ρ ds S = some (ds.map f, S) := by
  obtain ⟨ys, e, hf⟩ := lcL_all (P := fun d y => y = f d) fun d hd => by
    obtain ⟨ρ1, h1, h2, h3⟩ := h d hd
    exact ⟨ρ1, _, h1, h2, h3, rfl⟩
  rw [e]
  have : ∀ {ds ys : List DV}, All2 (fun d y => y = f d) ds ys → ys = ds.map f := fun {ds ys} h => by
    induction h with
    | nil => rfl
    | cons a _ ih => rw [a, ih] <;> rfl
  rw [this hf]
theorem lcR_of {it : DI} {g : DG} {c fe : DE} {vs : List Nat} {ρ : Ev} {S S1 S2 : Sto} {ds ys : List DV} (hi : it ρ S = some (ds, S1)) (hl : lcL g c fe (dwipe ρ vs) ds S1 = some (ys, S2)) (hz : ys.length ≤ sizeLine) : lcR it g c fe vs ρ S = some (ys, S2) := by
  unfold lcR
  simp only [hi, hl]
  rw [if_pos hz]
theorem dLc_of {it : DI} {g : DG} {c fe : DE} {vs : List Nat} {ρ : Ev} {S S1 S2 : Sto} {ds ys : List DV} (hi : it ρ S = some (ds, S1)) (hl : lcL g c fe (dwipe ρ vs) ds S1 = some (ys, S2)) (hz : ys.length ≤ sizeLine) : dLc it g c fe vs ρ S = some (.lst .own ys, S2) := by
  unfold dLc
  simp only [lcR_of hi hl hz]
theorem dLcM_of {it : DI} {g : DG} {c fe : DE} {vs : List Nat} {ρ : Ev} {S S1 S2 : Sto} {ds ys : List DV} (hi : it ρ S = some (ds, S1)) (hl : lcL g c fe (dwipe ρ vs) ds S1 = some (ys, S2)) (hz : ys.length ≤ sizeLine) : dLcM it g c fe vs ρ S = some (.loc S2.length, S2 ++ [.lst ys]) := by
  unfold dLcM
  simp only [lcR_of hi hl hz]
theorem size_ok {n : Nat} (h : n ≤ 1000000) : n ≤ sizeLine := Nat.le_trans h (by decide)
theorem mem_rgD {lo : Int} {n : Nat} {d : DV} (h : d ∈ rgD lo n) : ∃ k : Nat, k < n ∧ d = .int (lo + (k : Nat)) := by
  unfold rgD at h
  obtain ⟨k, hk, rfl⟩ := List.mem_map.mp h
  exact ⟨k, List.mem_range.mp hk, rfl⟩
theorem len_rgD {lo : Int} {n : Nat} : (rgD lo n).length = n := by unfold rgD; simp
/-- a loop by an invariant: no return, no break -/
theorem forL_inv {g : DG} {body : DS} {I : Nat → Ev → Sto → Prop} : ∀ {ds : List DV} {k : Nat} {ρ : Ev} {S : Sto}, I k ρ S →
    (∀ (i : Nat) (d : DV) ρ S, ds[i]? = some d → I (k + i) ρ S → ∃ ρ1 S1 ρ2 S2, g d ρ S = some (ρ1, S1) ∧ (body ρ1 S1 = some (.nx ρ2 S2) ∨ body ρ1 S1 = some (.ct ρ2 S2)) ∧ I (k + i + 1) ρ2 S2) →
    ∃ ρ' S', forL g body ds ρ S = some (.nx ρ' S') ∧ I (k + ds.length) ρ' S'
  | [], k, ρ, S, h, _ => ⟨ρ, S, rfl, h⟩
  | d :: ds, k, ρ, S, h, st => by
    obtain ⟨ρ1, S1, ρ2, S2, h1, h2, h3⟩ := st 0 d ρ S rfl h
    obtain ⟨ρ', S', e, i⟩ := forL_inv (k := k + 1) (ds := ds) h3 fun i d ρ S hd hi => by
      obtain ⟨a, b, c, e, x, y, z⟩ := st (i + 1) d ρ S (by simpa using hd) (by rw [show k + (i + 1) = k + 1 + i by omega]; exact hi)
      exact ⟨a, b, c, e, x, y, by rw [show k + 1 + i + 1 = k + (i + 1) + 1 by omega]; exact z⟩
    refine ⟨ρ', S', ?_, by rw [List.length_cons, show k + (ds.length + 1) = k + 1 + ds.length by omega]; exact i⟩
    unfold forL
    simp only [h1]
    rcases h2 with h2 | h2 <;> simp only [h2, e]
end Dn

namespace Dn
open PySem PySem.Spec PyProof.Rows L2
/-! ### texts of single signs -/
abbrev one1 (c : Nat) : Str := ⟨#[c]⟩
def txt (cs : List Nat) : Str := ⟨cs.toArray⟩
theorem joinL_nil : ∀ ls : List (List Nat), TL.joinL [] ls = ls.flatten
  | [] => rfl
  | [a] => by simp [TL.joinL]
  | a :: b :: r => by
    have ih := joinL_nil (b :: r)
    simp only [TL.joinL] at ih ⊢
    simp [ih]
theorem join_ones (cs : List Nat) : Txt.join "" (cs.map one1) = txt cs := by
  apply TL.ext_tl
  rw [TL.join_eq, TL.tl_join]
  show TL.joinL [] _ = cs
  rw [joinL_nil, List.map_map]
  induction cs with
  | nil => rfl
  | cons a r ih =>
    rw [List.map_cons, List.flatten_cons, ih]
    rfl
theorem strsD_map {α : Type} {f : α → Str} : ∀ {l : List α}, strsD (l.map fun a => .str (f a)) = some (l.map f)
  | [] => rfl
  | a :: l => by
    rw [List.map_cons, List.map_cons]
    unfold strsD
    rw [strsD_map]
theorem ones_sum : ∀ cs : List Nat, ((cs.map one1).map (·.length)).sum = cs.length
  | [] => rfl
  | a :: r => by
    rw [List.map_cons, List.map_cons, List.sum_cons, ones_sum r]
    show 1 + _ = _ + 1
    omega
/-- ''.join of single signs -/
theorem join_signs {f : DE} {ρ : Ev} {S : Sto} {k : LK} {cs : List Nat} (h : f ρ S = some (.lst k (cs.map fun c => .str (one1 c)), S)) (hl : cs.length ≤ 1000000) : dM1 pJoin (dC (.str "")) f ρ S = some (.str (txt cs), S) := by
  unfold dM1
  simp only [v_c, h]
  unfold pJoin itemsD
  simp only [asL, strsD_map]
  have e := ones_sum cs
  rw [if_pos, join_ones]
  rw [e]
  show cs.length + (cs.map one1).length * 0 ≤ _
  omega
def abc : Str := "abcdefghijklmnopqrstuvwxyz"
theorem abc_at : ∀ k < 26, atI abc.cps.toList (k : Nat) = some (97 + k) := by decide +kernel
theorem abc_ix {S : Sto} {i : Int} (h0 : 0 ≤ i) (h1 : i < 26) : pIx (.str "abcdefghijklmnopqrstuvwxyz") (.int i) S = some (.str (one1 (97 + i.toNat)), S) := by
  have e := abc_at i.toNat (by omega)
  rw [Int.toNat_of_nonneg h0] at e
  exact ix_str (s := abc) (by decide) e
/-- a comprehension over a range -/
theorem lcL_range {g : DG} {c fe : DE} {ρ : Ev} {S : Sto} {lo : Int} {n : Nat} {h : Nat → DV} (hh : ∀ k, k < n → ∃ ρ1, g (.int (lo + (k : Nat))) ρ S = some (ρ1, S) ∧ c ρ1 S = some (.bl true, S) ∧ fe ρ1 S = some (h k, S)) : lcL g c fe ρ (rgD lo n) S = some ((List.range n).map h, S) := by
  have gen : ∀ l : List Nat, (∀ k ∈ l, k < n) → lcL g c fe ρ (l.map fun i => .int (lo + (i : Nat))) S = some (l.map h, S) := by
    intro l
    induction l with
    | nil => intro _; rfl
    | cons a r ih =>
      intro hl
      obtain ⟨ρ1, h1, h2, h3⟩ := hh a (hl a List.mem_cons_self)
      rw [List.map_cons]
      unfold lcL
      simp only [h1, h2, h3, ih fun k hk => hl k (List.mem_cons_of_mem _ hk)]
      rfl
  exact gen _ fun k hk => List.mem_range.mp hk
theorem All2.mem {α β : Type} {P : α → β → Prop} : ∀ {as : List α} {bs : List β}, All2 P as bs → ∀ b ∈ bs, ∃ a ∈ as, P a b
  | _, _, .nil, b, h => by cases h
  | _, _, .cons h t, b, hb => by
    rcases List.mem_cons.mp hb with rfl | hb
    · exact ⟨_, List.mem_cons_self, h⟩
    · obtain ⟨a, h1, h2⟩ := All2.mem t b hb
      exact ⟨a, List.mem_cons_of_mem _ h1, h2⟩
theorem All2.len {α β : Type} {P : α → β → Prop} : ∀ {as : List α} {bs : List β}, All2 P as bs → as.length = bs.length
  | _, _, .nil => rfl
  | _, _, .cons h t => by rw [List.length_cons, List.length_cons, t.len]
/-! ### equal data -/
mutual
/-- data that == can look at -/
def good : DV → Bool
  | .non => true
  | .bl _ => true
  | .int _ => true
  | .str s => PyData.strOk s
  | .tup ds => goodL ds
  | .lst _ ds => goodL ds
  | _ => false
def goodL : List DV → Bool
  | [] => true
  | d :: ds => good d && goodL ds
end
mutual
def deep : DV → Nat
  | .tup ds => deepL ds + 1
  | .lst _ ds => deepL ds + 1
  | _ => 0
def deepL : List DV → Nat
  | [] => 0
  | d :: ds => max (deep d) (deepL ds)
end
mutual
theorem toPy_good : ∀ {d : DV}, good d = true → ∃ p, toPy d = some p ∧ p.canLay0 = true ∧ p.depth = deep d
  | .non, _ => ⟨_, rfl, rfl, rfl⟩
  | .bl b, _ => ⟨_, rfl, rfl, rfl⟩
  | .int b, _ => ⟨_, rfl, rfl, rfl⟩
  | .str b, h => ⟨_, rfl, h, rfl⟩
  | .tup ds, h => by
    obtain ⟨p, h1, h2, h3⟩ := toPyL_good (ds := ds) h
    refine ⟨.tuple p, ?_, h2, ?_⟩
    · unfold toPy
      rw [h1]
    · show PyData.depthAll p + 1 = _
      rw [h3] <;> rfl
  | .lst k ds, h => by
    obtain ⟨p, h1, h2, h3⟩ := toPyL_good (ds := ds) h
    refine ⟨.list p, ?_, h2, ?_⟩
    · unfold toPy
      rw [h1]
    · show PyData.depthAll p + 1 = _
      rw [h3] <;> rfl
  | .tupx _, h => by cases h
  | .dik _ _ _, h => by cases h
  | .dit _ _ _, h => by cases h
  | .loc _, h => by cases h
theorem toPyL_good : ∀ {ds : List DV}, goodL ds = true → ∃ p, toPyL ds = some p ∧ PyData.canLayAll0 p = true ∧ PyData.depthAll p = deepL ds
  | [], _ => ⟨[], rfl, rfl, rfl⟩
  | d :: ds, h => by
    obtain ⟨h1, h2⟩ := Bool.and_eq_true_iff.mp (show (good d && goodL ds) = true from h)
    obtain ⟨p, a1, a2, a3⟩ := toPy_good h1
    obtain ⟨q, b1, b2, b3⟩ := toPyL_good h2
    refine ⟨p :: q, ?_, ?_, ?_⟩
    · unfold toPyL
      simp only [a1, b1]
    · show (p.canLay0 && PyData.canLayAll0 q) = true
      rw [a2, b2] <;> rfl
    · show max p.depth (PyData.depthAll q) = max (deep d) (deepL ds)
      rw [a3, b3]
end
/-- what a value or a cell holds: for == -/
theorem eqDeep_same {S : Sto} {x y x' y' : DV} {p : PyData} (hx : cpD true S x = some x') (hy : cpD true S y = some y') (px : toPy x' = some p) (py : toPy y' = some p) (hl : p.canLay0 = true) (hd : p.depth ≤ 64) : eqDeep S x y = some true := by
  have s : SeqAt.shaped p = true := by
    unfold SeqAt.shaped
    rw [hl, decide_eq_true hd] <;> rfl
  unfold eqDeep
  simp only [hx, hy, px, py]
  rw [if_pos ⟨s, s⟩, SeqAt.eqv_refl p hl]
/-- two lists of the same items -/
theorem eq_lists {S : Sto} {x y : DV} {k k' : LK} {ds : List DV} (hx : cpD true S x = some (.lst k ds)) (hy : cpD true S y = some (.lst k' ds)) (hg : goodL ds = true) (hd : deepL ds ≤ 63) (hs : scD x y = none) (neg : Bool) : pEq neg x y S = some (.bl (if neg then false else true), S) := by
  obtain ⟨p, h1, h2, h3⟩ := toPyL_good hg
  have t : ∀ k, toPy (.lst k ds) = some (.list p) := fun k => by
    unfold toPy
    rw [h1]
  have e := eqDeep_same hx hy (t _) (t _) h2 (show PyData.depthAll p + 1 ≤ 64 by omega)
  unfold pEq eqD
  rw [hs]
  simp only [e]
  cases neg <;> rfl
/-! ### lists of texts, each once -/
def isStr : DV → Bool
  | .str _ => true
  | _ => false
def dedup : List DV → List DV → List DV
  | acc, [] => acc
  | acc, d :: ds => dedup (if isStr d = true ∧ inD d acc = false then acc ++ [d] else acc) ds
/-- an atom: a text or a whole number -/
def Atom (d : DV) : Prop := (∃ i, d = .int i) ∨ ∃ s, d = .str s
theorem dedup_strs : ∀ {ds acc : List DV}, acc.all isStr = true → (dedup acc ds).all isStr = true
  | [], acc, h => h
  | d :: ds, acc, h => by
    unfold dedup
    refine dedup_strs ?_
    split
    · rename_i q
      rw [List.all_append, h]
      simp [q.1]
    · exact h
theorem dedup_len : ∀ {ds acc : List DV}, (dedup acc ds).length ≤ acc.length + ds.length
  | [], acc => by simp [dedup]
  | d :: ds, acc => by
    unfold dedup
    refine Nat.le_trans dedup_len ?_
    split <;> simp <;> omega
theorem dedup_good : ∀ {ds acc : List DV}, (∀ d ∈ ds, good d = true ∧ deep d = 0) → goodL acc = true ∧ deepL acc = 0 → goodL (dedup acc ds) = true ∧ deepL (dedup acc ds) = 0
  | [], acc, _, h => h
  | d :: ds, acc, hd, h => by
    unfold dedup
    refine dedup_good (fun d h => hd d (List.mem_cons_of_mem _ h)) ?_
    split
    · have snoc : ∀ {a : List DV} {x : DV}, good x = true ∧ deep x = 0 → goodL a = true ∧ deepL a = 0 → goodL (a ++ [x]) = true ∧ deepL (a ++ [x]) = 0 := fun {a x} hx => by
        induction a with
        | nil =>
          intro _
          exact ⟨by show (good x && true) = true; rw [hx.1] <;> rfl, by show max (deep x) 0 = 0; rw [hx.2] <;> rfl⟩
        | cons y r ih =>
          intro ha
          obtain ⟨a1, a2⟩ := Bool.and_eq_true_iff.mp (show (good y && goodL r) = true from ha.1)
          have a3 : max (deep y) (deepL r) = 0 := ha.2
          obtain ⟨b1, b2⟩ := ih ⟨a2, by omega⟩
          exact ⟨by show (good y && goodL (r ++ [x])) = true; rw [a1, b1] <;> rfl, by show max (deep y) (deepL (r ++ [x])) = 0; omega⟩
      exact snoc (hd d List.mem_cons_self) h
    · exact h
theorem strs_flat {ds : List DV} (h : ds.all isStr = true) : ds.all flD = true := by
  rw [List.all_eq_true] at h ⊢
  intro d hd
  have := h d hd
  cases d <;> first | rfl | cases this
theorem strs_plain {ds : List DV} (h : ds.all isStr = true) : plainL ds = true := plainL_iff.mpr fun d hd => by
  have := List.all_eq_true.mp h d hd
  cases d <;> first | rfl | cases this
theorem set_get {n : Nat} {S : Sto} {c : Cell} (h : n < S.length) : (S.set n c)[n]? = some c := List.getElem?_set_self h
theorem get_lt {n : Nat} {S : Sto} {c : Cell} (h : S[n]? = some c) : n < S.length := (List.getElem?_eq_some_iff.mp h).1
theorem rset_get {i : Nat} {ρ : Ev} {x : Option DV} (h : i < ρ.length) : (ρ.set i x)[i]? = some x := List.getElem?_set_self h
theorem rset_ne {i j : Nat} {ρ : Ev} {x : Option DV} (h : i ≠ j) : (ρ.set i x)[j]? = ρ[j]? := List.getElem?_set_ne h
theorem loop_dedup {i j n : Nat} (hij : i ≠ j) : ∀ {ds : List DV} {ρ : Ev} {S : Sto} {acc : List DV}, (∀ d ∈ ds, Atom d) → i < ρ.length → ρ[j]? = some (some (.loc n)) → S[n]? = some (.lst acc) → acc.all isStr = true → acc.length + ds.length ≤ 1000 →
    ∃ ρ', forL (gSet i) (dIfS (dAnd (dIsi .str (dVar i)) (dBin (pIn true) (dVar i) (dVar j))) (dExpr (dMt pAppend (dVar j) (aCons (dVar i) aNil))) dNext) ds ρ S = some (.nx ρ' (S.set n (.lst (dedup acc ds)))) ∧ ρ'.length = ρ.length ∧ ∀ k, k ≠ i → ρ'[k]? = ρ[k]?
  | [], ρ, S, acc, _, hi, hj, hn, ha, hl => by
    refine ⟨ρ, ?_, rfl, fun _ _ => rfl⟩
    show some (Out.nx ρ S) = _
    have e : S.set n (.lst (dedup acc [])) = S := by
      obtain ⟨h1, h2⟩ := List.getElem?_eq_some_iff.mp hn
      show S.set n (.lst acc) = S
      rw [← h2]
      exact List.set_getElem_self h1
    rw [e]
  | d :: ds, ρ, S, acc, hd, hi, hj, hn, ha, hl => by
    have hl2 : acc.length + (ds.length + 1) ≤ 1000 := by simpa using hl
    have hi2 : i < (ρ.set i (some d)).length := by simpa using hi
    have hj2 : (ρ.set i (some d))[j]? = some (some (.loc n)) := by rw [rset_ne hij]; exact hj
    have hg : (ρ.set i (some d))[i]? = some (some d) := rset_get hi
    have keep : ∀ (ρ' : Ev), (∀ k, k ≠ i → ρ'[k]? = (ρ.set i (some d))[k]?) → ∀ k, k ≠ i → ρ'[k]? = ρ[k]? := fun ρ' h k hk => by rw [h k hk, rset_ne fun z => hk z.symm]
    unfold forL
    simp only [v_gset]
    rcases hd d List.mem_cons_self with ⟨z, rfl⟩ | ⟨s, rfl⟩
    · have e : dIfS (dAnd (dIsi .str (dVar i)) (dBin (pIn true) (dVar i) (dVar j))) (dExpr (dMt pAppend (dVar j) (aCons (dVar i) aNil))) dNext (ρ.set i (some (.int z))) S = some (.nx (ρ.set i (some (.int z))) S) := by
        simp [hg, tyD, isT]
      rw [e]
      obtain ⟨ρ', h1, h2, h3⟩ := loop_dedup hij (ds := ds) (fun d h => hd d (List.mem_cons_of_mem _ h)) hi2 hj2 hn ha (by omega)
      exact ⟨ρ', h1, h2.trans (by simp), keep ρ' h3⟩
    · have hin : pIn true (.str s) (.loc n) S = some (.bl (!inD (.str s) acc), S) := by
        have e1 : asL S (.loc n) = some acc := by
          unfold asL
          simp only [hn]
        show (match asL S (.loc n) with | some ds => _ | none => _) = _
        simp only [e1]
        rw [if_pos ⟨rfl, strs_flat ha⟩]
        rfl
      by_cases q : inD (.str s) acc = true
      · have e : dIfS (dAnd (dIsi .str (dVar i)) (dBin (pIn true) (dVar i) (dVar j))) (dExpr (dMt pAppend (dVar j) (aCons (dVar i) aNil))) dNext (ρ.set i (some (.str s))) S = some (.nx (ρ.set i (some (.str s))) S) := by
          simp [hg, hj2, tyD, isT, hin, q]
        rw [e]
        obtain ⟨ρ', h1, h2, h3⟩ := loop_dedup hij (ds := ds) (fun d h => hd d (List.mem_cons_of_mem _ h)) hi2 hj2 hn ha (by omega)
        refine ⟨ρ', ?_, h2.trans (by simp), keep ρ' h3⟩
        have e2 : dedup acc (.str s :: ds) = dedup acc ds := by
          show dedup (if isStr (.str s) = true ∧ inD (.str s) acc = false then acc ++ [.str s] else acc) ds = _
          rw [if_neg fun z => by rw [q] at z; exact nomatch z.2]
        rw [e2]
        exact h1
      · have q' : inD (.str s) acc = false := Bool.eq_false_iff.mpr q
        have e : dIfS (dAnd (dIsi .str (dVar i)) (dBin (pIn true) (dVar i) (dVar j))) (dExpr (dMt pAppend (dVar j) (aCons (dVar i) aNil))) dNext (ρ.set i (some (.str s))) S = some (.nx (ρ.set i (some (.str s))) (S.set n (.lst (acc ++ [.str s])))) := by
          have hz : acc.length < 16777216 := by omega
          simp [hg, hj2, tyD, isT, hin, q', dMt, asL, hn, pAppend, hz]
        rw [e]
        obtain ⟨ρ', h1, h2, h3⟩ := loop_dedup hij (ds := ds) (acc := acc ++ [.str s]) (fun d h => hd d (List.mem_cons_of_mem _ h)) hi2 hj2 (set_get (get_lt hn)) (by rw [List.all_append, ha] <;> rfl) (by simp; omega)
        refine ⟨ρ', ?_, h2.trans (by simp), keep ρ' h3⟩
        have e2 : dedup acc (.str s :: ds) = dedup (acc ++ [.str s]) ds := by
          show dedup (if isStr (.str s) = true ∧ inD (.str s) acc = false then acc ++ [.str s] else acc) ds = _
          rw [if_pos ⟨rfl, q'⟩]
        rw [e2]
        rw [List.set_set] at h1
        exact h1
end Dn

/-! enumerate over a tuple -/
namespace Dn
open PySem PySem.Spec PyProof.Rows L2
set_option maxHeartbeats 1000000 in
theorem meets_enum1 {v : Value} {o : Obj} {H : Heap → Prop} (B : Begins v o H) :
    Meets (Builtin.«enumerate.__new__» ⟨[.type "enumerate", v], []⟩) (fun _ R s => H s.heap ∧
      R (.ok (.ret (.ref (s.heap.push o).objs.size))) { s with heap := (s.heap.push o).push { cls := .type "enumerate", data := .fields #[.none, .bool false, .ref s.heap.objs.size, rawInt 0, .none, .none] } }) :=
  .of_wp fun prog w A R s h => by
    obtain ⟨hp, g, d, tk, os⟩ := s; obtain ⟨h1, h⟩ := h
    have hsub := sub_enumerate
    have q1 : ∀ {A' : Around} {E : Value → Shared → Prop} {Q : Value → Shared → Prop}, Q (.ref hp.objs.size) ⟨hp.push o, g, d, tk, os⟩ → wpAny (model prog w) A' (pyIter v) Q E ⟨hp, g, d, tk, os⟩ :=
      fun q => B.iter prog w _ _ ⟨hp, g, d, tk, os⟩ _ h1 q
    wp_walk using q1
    refine wpAny_stack_any fun st => wpAny_pure ?_
    split
    · rename_i c _ _ _ _ _
      cases (c == Value.type "enumerate")
      · wp_walk using q1
        exact ⟨_, rfl, h⟩
      · wp_walk using q1
        exact ⟨_, rfl, h⟩
    · wp_walk using q1
      exact ⟨_, rfl, h⟩
section
variable {prog : Program} {w : World} {A : Around} {E : Value → Shared → Prop} {s : Shared}
theorem call_enum1 {v : Value} {o : Obj} {H : Heap → Prop} {Q : Value → Shared → Prop} (B : Begins v o H) (h1 : H s.heap)
    (h : ∀ h', IsEnum h' (s.heap.objs.size + 1) s.heap.objs.size 0 .none → h'.get? s.heap.objs.size = some o → h'.objs.size = s.heap.objs.size + 2 →
      (∀ b o, s.heap.get? b = some o → h'.get? b = some o) → Q (.ref (s.heap.objs.size + 1)) { s with heap := h' }) :
    wpAny (model prog w) A (call (.type "enumerate") [v]) Q E s := by
  refine callType_new F.called_enumerate (by decide) (F.typeCall_enumerate_1 _) (F.newCall_enumerate_1 _) (fun obj => F.args_object_init_2 obj _) F.entry_enumerate_new
    (meets_enum1 B) ⟨h1, ?_⟩
  have hz : (s.heap.push o).objs.size = s.heap.objs.size + 1 := Heap.size_push ..
  show _ ∧ _
  rw [hz]
  have he : IsEnum ((s.heap.push o).push { cls := .type "enumerate", data := .fields #[.none, .bool false, .ref s.heap.objs.size, rawInt 0, .none, .none] }) (s.heap.objs.size + 1) s.heap.objs.size 0 .none := by
    have := Heap.get?_push_size (s.heap.push o) (o := { cls := .type "enumerate", data := .fields #[.none, .bool false, .ref s.heap.objs.size, rawInt 0, .none, .none] }) rfl
    rw [hz] at this; exact this
  refine ⟨⟨_, he, rfl⟩, h _ he (Heap.get?_push_of_some _ (Heap.get?_push_size _ B.free)) (by rw [Heap.size_push, hz]) fun b o x => Heap.get?_push_of_some _ (Heap.get?_push_of_some _ x)⟩
end
/-- the tuple at a, each item in a new pair -/
def Itet (K : PySem.W.Frag) (a : Addr) : It :=
  ⟨fun i H => ∃ (xs : List V) (x : V), SqT K H a xs ∧ xs[i]? = some x, fun i H v H' => ∃ T x, v = .ref T ∧ H T = none ∧ H' = upd H T (.tup [.int (i : Nat), x]) ∧ ∀ xs, SqT K H a xs → xs[i]? = some x, fun i H => ∃ xs : List V, SqT K H a xs ∧ xs.length ≤ i⟩
theorem turn_enumT {P : Program} {w : World} {K : PySem.W.Frag} {elts : List Expr} {kk : Nat} {tpos : Pos} (a e it : Addr) :
    Turn P w K (.Tuple elts kk tpos) (Itet K a) [e, it] e (fun i h => (∃ old, IsEnum h e it ((i : Nat) : Int) old) ∧ h.IsTupleIter it a i ∧ e ≠ it) where
  mem := by simp
  obj := fun i h st b hb => by
    obtain ⟨⟨old, he⟩, ⟨o, ho, hc, hd⟩, _⟩ := st
    have e' : b = e ∨ b = it := by simpa using hb
    rcases e' with z | z
    · rw [z]; exact ⟨_, he, fun v q => nomatch q⟩
    · rw [z]; exact ⟨o, ho, fun v q => by rw [hd] at q; cases q⟩
  keep := fun i h h' st k => let ⟨⟨old, he⟩, hi, hne⟩ := st; ⟨⟨old, k e (by simp) _ he⟩, hi.at fun o q => k it (by simp) o q, hne⟩
  item := by
    intro X hP hw hK hc i pins s σ H E I hf st hg
    subst hP hw hK
    obtain ⟨⟨old, he⟩, hit, hne⟩ := st
    obtain ⟨xs, x, hq, hx⟩ := hg
    obtain ⟨its, rv, p, hz⟩ := I.tuple hq
    obtain ⟨u, hu, ru⟩ := rv.get hx
    have hel : e < s.heap.objs.size := Heap.lt_size he
    have hil : it < s.heap.objs.size := by obtain ⟨_, q, _⟩ := hit; exact Heap.lt_size q
    have pt : s.heap.IsTuple a its.toArray := p
    have nai : a ≠ it := fun q => by
      obtain ⟨o1, h1, c1, _⟩ := pt
      obtain ⟨o2, h2, c2, _⟩ := id hit
      rw [q, h2] at h1
      cases h1
      rw [c2] at c1
      exact absurd c1 (by simp)
    have nae : a ≠ e := fun q => by
      obtain ⟨o1, h1, c1, _⟩ := pt
      rw [q, he] at h1
      cases h1
      exact absurd c1 (by simp)
    have hlt : i < its.toArray.size := by
      have := (List.getElem?_eq_some_iff.mp hu).1
      simpa using this
    refine wpAny_pyNext_enum_itemD (Draws.tuple (A := X.A.in1) (I.ok.hd hc) it a nai its.toArray) he ⟨hit, pt⟩ hlt hne (by simp [hne]; exact fun q => nae q.symm) fun x' h' tk hPx ho hst' hT hsz hk => ?_
    have ex' : x' = u := by
      have h2 : its.toArray[i]? = some x' := hPx
      have h3 : its.toArray[i]? = some u := by simpa using hu
      rw [h3] at h2
      exact (Option.some.inj h2).symm
    subst ex'
    refine ⟨_, rfl, wpAny_letOwnedTupleGo_enum (s := { s with heap := h', toks := tk + 1 }) ho fun h'' he' sb => ?_⟩
    have hT2 : h''.get? s.heap.objs.size = some { cls := .type "tuple", data := .seq #[.int i tk, x'] } := (sb.2 _ (Nat.ne_of_gt hel)).trans hT
    have new : ObjOk X.prog X.w (upd H s.heap.objs.size (.tup [.int (i : Nat), x])) h'' s.heap.objs.size (.tup [.int (i : Nat), x]) :=
      ⟨by show 2 ≤ sizeLine; decide, [.int i tk, x'], .cons ⟨_, rfl⟩ (.cons ru .nil), ⟨_, hT2, rfl, _, rfl⟩⟩
    have I1 : Inv X pins σ (upd H s.heap.objs.size (.tup [.int (i : Nat), x])) { s with heap := h'', toks := tk + 1 } :=
      I.turnedNew (ch := [e, it]) (fun b ob hb q => (sb.2 b (fun z => hb (by simp [z]))).trans (hk b ob (fun z => hb (by simp [z])) (fun z => hb (by simp [z])) q)) hf (Nat.le_refl _) new
    refine ⟨.ref s.heap.objs.size, _, I1, rfl, ⟨_, x, rfl, I.hok.fresh (Nat.le_refl _), rfl, fun ys hy => by rw [I.tuple_inj hy hq]; exact hx⟩, ⟨⟨x', ?_⟩, hst'.1.at fun o q => (sb.2 it (Ne.symm hne)).trans q, hne⟩, fun b hb => ?_⟩
    · have e1 : ((i + 1 : Nat) : Int) = (i : Int) + 1 := by omega
      rw [e1]; exact he'
    · have hb' : b < s.heap.objs.size := by
        have e' : b = e ∨ b = it := by simpa using hb
        rcases e' with z | z
        · rw [z]; exact hel
        · rw [z]; exact hil
      rw [upd_ne (Nat.ne_of_lt hb')]
      exact (hf b hb).1
  done := by
    intro X hP hw hK hc i pins s σ H E I hf st hg
    subst hP hw hK
    obtain ⟨⟨old, he⟩, hit, hne⟩ := st
    obtain ⟨xs, hq, hx⟩ := hg
    obtain ⟨its, rv, p, hz⟩ := I.tuple hq
    obtain ⟨f0, f1, f2, f3, f4, f5⟩ := hf it (by simp)
    have hl := rv.length
    have pt : s.heap.IsTuple a its.toArray := p
    have hT : s.TypeIs (.ref e) "enumerate" := ⟨_, he, rfl⟩
    unfold pyNext
    refine wpAny_bind (wpAny_attempt (wpAny_callSpecial?_slot (name := Str.ofString "__next__") hT F.slot_enumerate_next
      (wpAny_call_entry F.slot_enumerate_next hT F.entry_enumerate_next ?_ (F.args_enumerate_next_1 _))))
    show wpAny _ _ (PySem.field (.ref e) 2 >>= _) _ _ _
    refine wpAny_bind (wpAny_field he rfl (x := .ref it) rfl ?_)
    refine wpAny_bind (wpAny_nextOf_tuple_end (I.ok.hd hc) hit pt (by simp; omega) fun h' x he' hx' => ?_)
    obtain ⟨o, ho, hcl⟩ := hx'
    refine wpAny_bind (wpAny_isInstance (T := "StopIteration") (b := true) ⟨o, ho, hcl⟩ isSubtype_stop ?_)
    exact wpAny_pure ⟨rfl, I.turned (t' := s.toks) (fun b o hb q => he' b o hb q) f0 f1 f3 f4 f5⟩
  self := fun A i s Q E st h => let ⟨⟨_, he⟩, _⟩ := st; wpAny_pyIter_enum he h
def iEnT (K : PySem.W.Frag) (ta : TA) : TI := fun σ H R => ta σ H fun vs H1 => ∃ a xs, vs = [.ref a] ∧ SqT K H1 a xs ∧ R (Itet K a) H1
theorem pi_enumT {X : Cx} {e : Expr} {ta : TA} {p pos tpos : Pos} {elts : List Expr} {kk : Nat} (hg : Gl X "enumerate") (hm : X.mg "enumerate" = none) (ha : PA X [e] ta) (hs : starEach [e] X.env = [(false, eval e X.env)] := by rfl) :
    PI X (.Tuple elts kk tpos) (.Call (.Name "enumerate" p) [e] [] pos) (iEnT X.K ta) := by
  refine ⟨fun pins s σ H R I h => ?_⟩
  refine Call_ (ld_blt I hg hm boot_enumerate (PyProof.Rows.callWith_type1 (thn (ha.run pos pins s σ H _ I h) fun us s1 ⟨vs, H1, I1, r1, q1⟩ => ?_) hs rfl))
  obtain ⟨a, xs, ex, hq, q⟩ := q1
  subst ex
  cases r1 with
  | cons r rr =>
    cases rr
    cases r
    obtain ⟨its, rv, p', hz⟩ := I1.tuple hq
    refine call_enum1 (begins_tuple a its.toArray) (show s1.heap.IsTuple a its.toArray from p') fun h' he hit hsz hk => wpAny_pyIter_enum he ?_
    have I2 : Inv X pins σ H1 { s1 with heap := h' } := I1.kept (t' := s1.toks) hk
    refine ⟨s1.heap.objs.size + 1, [s1.heap.objs.size + 1, s1.heap.objs.size], _, _, H1, rfl, I2, turn_enumT a (s1.heap.objs.size + 1) s1.heap.objs.size, ⟨⟨.none, he⟩, ⟨_, hit, rfl, rfl⟩, Nat.succ_ne_self _⟩, fun b hb => ?_, q⟩
    have e' : b = s1.heap.objs.size + 1 ∨ b = s1.heap.objs.size := by simpa using hb
    have hle : s1.heap.objs.size ≤ b := by
      rcases e' with z | z
      · rw [z]; exact Nat.le_add_right _ _
      · rw [z]; exact Nat.le_refl _
    exact I1.fpOk hle (I1.hok.fresh hle)
theorem walks_enumT {F : Fm} {a : Addr} {ds : List DV} (h : ∀ F' S H, Wk F F' → Rep F' S H → ∃ xs, SqT F.K H a xs ∧ RelL F' ds xs) : Walks (Itet F.K a) F (enD 0 ds) := fun i F' S H w _ R => by
  obtain ⟨xs, hs, rl⟩ := h F' S H w R
  refine ⟨fun e => ⟨xs, hs, by rw [e, enD_len, rl.length]; exact Nat.le_refl _⟩, fun d hd => ?_⟩
  rw [enD_get] at hd
  cases hd0 : ds[i]? with
  | none =>
    rw [hd0] at hd
    cases hd
  | some d0 =>
    rw [hd0] at hd
    cases hd
    obtain ⟨x, hx, rx⟩ := rl.get hd0
    refine ⟨⟨xs, x, hs, hx⟩, fun y H' yl => ?_⟩
    obtain ⟨T, x', rfl, hT, rfl, hy⟩ := yl
    have e := (hy xs hs).symm.trans hx
    cases e
    obtain ⟨R', le⟩ := R.add (o := .tup [.int (i : Nat), x]) hT
    exact ⟨_, le, R', T, _, rfl, upd_same, .cons (by rw [Nat.zero_add]; exact rfl) (.cons (rx.le le) rfl)⟩
def iEnum2 (f : DA) : DI := fun ρ S => match f ρ S with
  | some ([.tup ds], S1) => some (enD 0 ds, S1)
  | some ([x], S1) => (match valL S1 x with
    | some ds => some (enD 0 ds, S1)
    | none => none)
  | _ => none
section
variable {X : Cx} {e : Expr} {fa : DA}
theorem id_enum2 {tg : Expr} {es : List Expr} (ha : AD X es fa) (h : ∀ {t : TA}, PA X es t → PI X tg e (L2.iEnum X.K t)) (h2 : ∀ {t : TA}, PA X es t → PI X tg e (iEnT X.K t)) : ID X tg e (iEnum2 fa) :=
  .of (PI.or (h ha.pa) (h2 ha.pa)) fun F S H ρ σ ds S' Q hk R rr hf hq => by
    unfold iEnum2 at hf
    split at hf
    · rename_i es S1 h1
      cases hf
      refine .inr (rdA.go hk R rr h1 fun F1 H1 vs le hk1 R1 r1 rl => ?_)
      obtain ⟨v, rfl, rv⟩ := one rl
      obtain ⟨a, xs, rfl, hs, rl⟩ := rv
      rw [← hk1]
      exact ⟨a, xs, rfl, SqT.of (R1.g _ _ hs), hq _ F1 H1 le R1 (walks_enumT fun F' S' H' w R' => ⟨xs, SqT.of (R'.g _ _ (w.g _ _ hs)), RelL.wk w _ _ rl⟩)⟩
    · rename_i x S1 h1
      split at hf
      · rename_i es hv
        cases hf
        refine .inl (rdA.go hk R rr h1 fun F1 H1 vs le hk1 R1 r1 rl => ?_)
        obtain ⟨v, rfl, rv⟩ := one rl
        obtain ⟨k, rv⟩ := valL_ok R1 rv hv
        obtain ⟨a, xs, rfl, hs, _⟩ := rv.lstSq R1
        rw [← hk1]
        refine ⟨a, xs, rfl, hs, hq _ F1 H1 le R1 (walks_enum fun F' S' H' w R' => ?_)⟩
        obtain ⟨a', xs', e, hs', rl'⟩ := (Rel.wk w _ _ rv).lstSq R'
        cases e
        rw [w.k] at hs'
        exact ⟨xs', hs', rl'⟩
      · cases hf
    · cases hf
end

theorem chain_go {K : PySem.W.Frag} {r r' : R2} {p q : P2} {f g h : DE} (hp : Ok2 K p r) (hp' : Ok2 K q r') {F : Fm} {S S' : Sto} {H : Hp} {ρ : Ev} {σ : L2.St} {d : DV} {Q : VK} (hk : F.K = K) (R : Rep F S H) (rr : RelE F ρ σ) (hf : dChain p q f g h ρ S = some (d, S')) (hq : PostE F S' d Q) :
    tChain r r' (rdE K f) (rdE K g) (rdE K h) σ H Q := by
  unfold dChain at hf
  split at hf
  · rename_i x S1 h1
    split at hf
    · rename_i y S2 h2
      refine rdE.go hk R rr h1 fun F1 H1 v le hk1 R1 r1 rx => rdE.go hk1 R1 r1 h2 fun F2 H2 u le2 hk2 R2 r2 ry => ?_
      split at hf
      · rename_i S3 h3
        refine hp F2 S2 H2 x y v u _ _ _ hk2 R2 (rx.le le2) ry h3 fun F3 H3 z le3 R3 rz => ⟨true, rz, ?_⟩
        rw [if_pos rfl]
        split at hf
        · rename_i z S4 h4
          exact rdE.go (le3.k.trans hk2) R3 (r2.le le3) h4 fun F4 H4 w le4 hk4 R4 r4 rw_ => hp' F4 S4 H4 y z u w d S' Q hk4 R4 (ry.le (le3.trans le4)) rw_ hf (hq.le (((le.trans le2).trans le3).trans le4))
        · cases hf
      · rename_i S3 h3
        cases hf
        refine hp F2 S2 H2 x y v u _ _ _ hk2 R2 (rx.le le2) ry h3 fun F3 H3 z le3 R3 rz => ⟨false, rz, ?_⟩
        rw [if_neg Bool.false_ne_true]
        exact hq F3 H3 _ ((le.trans le2).trans le3) R3 rfl
      · cases hf
    · cases hf
  · cases hf
theorem td_chain {X : Cx} {a b c : Expr} {pos : Pos} {op op' : CmpOp} {r r' : R2} {p q : P2} {f g h : DE} (ho : OpR X (compareOp op) r) (hp : Ok2 X.K p r) (ho' : OpR X (compareOp op') r') (hp' : Ok2 X.K q r') (ha : ED X a f) (hb : ED X b g) (hc : ED X c h)
    (hm : lastMarks [op, op'] [b, c] = false := by with_unfolding_all rfl) : TD X (.Compare a [op, op'] [b, c] pos) (dChain p q f g h) :=
  .of (pt_chain ho ho' ha.pe hb.pe hc.pe hm) fun F S H ρ σ d S' Q hk R rr hf hq => chain_go hp hp' hk R rr hf fun F' H' v le R' rv => by
    have e : v = .bl d := rv
    exact ⟨d, e, hq F' H' le R'⟩
theorem ed_chain2 {X : Cx} {a b c : Expr} {pos : Pos} {op op' : CmpOp} {r r' : R2} {p q : P2} {f g h : DE} (ho : OpR X (compareOp op) r) (hp : Ok2 X.K p r) (ho' : OpR X (compareOp op') r') (hp' : Ok2 X.K q r') (ha : ED X a f) (hb : ED X b g) (hc : ED X c h)
    (hm : lastMarks [op, op'] [b, c] = false := by with_unfolding_all rfl) : ED X (.Compare a [op, op'] [b, c] pos) (dChain p q f g h) :=
  .of (pe_chain ho ho' ha.pe hb.pe hc.pe hm) fun F S H ρ σ d S' Q hk R rr hf hq => chain_go hp hp' hk R rr hf hq

/-! ### written texts are alike just where they are written alike -/
theorem charNat_inj {x y : Char} (h : x.toNat = y.toNat) : x = y := by
  apply Char.ext
  exact UInt32.toNat_inj.mp h
theorem mapNat_inj : ∀ {l m : List Char}, l.map Char.toNat = m.map Char.toNat → l = m
  | [], [], _ => rfl
  | [], _ :: _, h => by cases h
  | _ :: _, [], h => by cases h
  | x :: l, y :: m, h => by
    rw [List.map_cons, List.map_cons] at h
    injection h with h1 h2
    rw [charNat_inj h1, mapNat_inj h2]
@[simp] theorem ofString_inj {a b : String} : (Str.ofString a = Str.ofString b) = (a = b) := by
  apply propext
  constructor
  · intro h
    rw [Str.ofString_eq_toList, Str.ofString_eq_toList] at h
    have h2 : a.toList.map Char.toNat = b.toList.map Char.toNat := by
      have := congrArg (fun s : Str => s.cps.toList) h
      simpa using this
    exact String.toList_inj.mp (mapNat_inj h2)
  · intro h
    rw [h]
end Dn

namespace Dn
open PySem PySem.Spec PyProof.Rows L2
section
variable {f g : DE} {lo hi : DO} {ρ : Ev} {S : Sto} {p : DV → Option Int → Option Int → Sto → Option (DV × Sto)} {fa : DA} {pm : PM}
@[simp] theorem v_sl : dSl p f lo hi ρ S = (match f ρ S with | some (x, S1) => (match lo ρ S1 with | some (l, S2) => (match hi ρ S2 with | some (u, S3) => p x l u S3 | none => none) | none => none) | none => none) := (rfl)
@[simp] theorem dwipe_nil : dwipe ρ [] = ρ := (rfl)
@[simp] theorem dwipe_cons {v : Nat} {vs : List Nat} : dwipe ρ (v :: vs) = (dwipe ρ vs).set v none := (rfl)
@[simp] theorem v_oN : oNone ρ S = some (none, S) := (rfl)
@[simp] theorem v_oS : oSome f ρ S = (match f ρ S with | some (.int i, S1) => some (some i, S1) | _ => none) := (rfl)
@[simp] theorem v_slS {s : Str} {l u : Option Int} : pSl (.str s) l u S = (if s.length ≤ sizeLine then some (.str (cutS s l u), S) else none) := (rfl)
@[simp] theorem v_slL {k : LK} {xs : List DV} {l u : Option Int} : pSl (.lst k xs) l u S = some (.lst .own (cutD xs l u), S) := (rfl)
@[simp] theorem v_slT {xs : List DV} {l u : Option Int} : pSl (.tup xs) l u S = some (.tup (cutD xs l u), S) := (rfl)
@[simp] theorem v_mt : dMt pm f fa ρ S = (match f ρ S with | some (x, S1) => (match asL S1 x with | some _ => (match fa ρ S1 with | some (xs, S2) => pm x xs S2 | none => none) | none => none) | none => none) := (rfl)
theorem app_loc {n : Nat} {y : DV} {xs : List DV} (h : S[n]? = some (.lst xs)) (hz : xs.length < 16777216) : pAppend (.loc n) [y] S = some (.non, S.set n (.lst (xs ++ [y]))) := by
  unfold pAppend
  simp only [h]
  exact if_pos hz
theorem asL_loc {n : Nat} {xs : List DV} (h : S[n]? = some (.lst xs)) : asL S (.loc n) = some xs := by
  unfold asL
  simp only [h]
@[simp] theorem asL_lst {k : LK} {xs : List DV} : asL S (.lst k xs) = some xs := (rfl)
@[simp] theorem v_lenL {k : LK} {xs : List DV} : pLen [.lst k xs] S = some (.int xs.length, S) := (rfl)
@[simp] theorem v_lenT {xs : List DV} : pLen [.tup xs] S = some (.int xs.length, S) := (rfl)
@[simp] theorem v_lenS {x : Str} : pLen [.str x] S = (if x.length ≤ sizeLine then some (.int x.length, S) else none) := (rfl)
@[simp] theorem v_tupL {k : LK} {xs : List DV} : pTuple [.lst k xs] S = some (.tup xs, S) := (rfl)
@[simp] theorem v_tupT {xs : List DV} : pTuple [.tup xs] S = some (.tup xs, S) := (rfl)
@[simp] theorem v_listT {xs : List DV} : pList [.tup xs] S = some (.lst .own xs, S) := (rfl)
@[simp] theorem v_listL {k : LK} {xs : List DV} : pList [.lst k xs] S = some (.lst .own xs, S) := (rfl)
@[simp] theorem v_intB {b : Bool} : pInt [.bl b] S = some (.int (if b then 1 else 0), S) := (rfl)
@[simp] theorem v_intI {b : Int} : pInt [.int b] S = some (.int b, S) := (rfl)
@[simp] theorem v_chain {p q : P2} {f g h : DE} : dChain p q f g h ρ S = (match f ρ S with
  | some (x, S1) => (match g ρ S1 with
    | some (y, S2) => (match p x y S2 with
      | some (.bl true, S3) => (match h ρ S3 with
        | some (z, S4) => q y z S4
        | none => none)
      | some (.bl false, S3) => some (.bl false, S3)
      | _ => none)
    | none => none)
  | none => none) := (rfl)
@[simp] theorem v_addM {k l : LK} {xs ys : List DV} (hk : k ≠ .ext := by decide) (hl : l ≠ .ext := by decide) : pAddM (.lst k xs) (.lst l ys) S = (if xs.length + ys.length ≤ sizeLine then some (.loc S.length, S ++ [.lst (xs ++ ys)]) else none) := by
  cases k <;> cases l <;> first | rfl | exact absurd rfl hk | exact absurd rfl hl
theorem v_addMl {n : Nat} {l : LK} {xs ys : List DV} (h : S[n]? = some (.lst xs)) (hl : l ≠ .ext := by decide) : pAddM (.loc n) (.lst l ys) S = (if xs.length + ys.length ≤ sizeLine then some (.loc S.length, S ++ [.lst (xs ++ ys)]) else none) := by
  unfold pAddM asT
  simp only [h]
  cases l <;> first | rfl | exact absurd rfl hl
theorem v_addl {n : Nat} {l : LK} {xs ys : List DV} (h : S[n]? = some (.lst xs)) (hl : l ≠ .ext := by decide) : pAdd (.loc n) (.lst l ys) S = (if xs.length + ys.length ≤ sizeLine then some (.lst .own (xs ++ ys), S) else none) := by
  unfold pAdd asT
  simp only [h]
  cases l <;> first | rfl | exact absurd rfl hl
@[simp] theorem ty_int {i : Int} : tyD S (.int i) = some .int := (rfl)
@[simp] theorem ty_str {i : Str} : tyD S (.str i) = some .str := (rfl)
@[simp] theorem ty_bl {i : Bool} : tyD S (.bl i) = some .bool := (rfl)
@[simp] theorem ty_non : tyD S .non = some .non := (rfl)
@[simp] theorem ty_tup {i : List DV} : tyD S (.tup i) = some .tuple := (rfl)
@[simp] theorem ty_own {i : List DV} : tyD S (.lst .own i) = some .list := (rfl)
@[simp] theorem ty_bor {i : List DV} : tyD S (.lst .bor i) = some .list := (rfl)
theorem ty_loc {n : Nat} {xs : List DV} (h : S[n]? = some (.lst xs)) : tyD S (.loc n) = some .list := by
  unfold tyD
  simp only [h]
end
theorem cutS_len (z : Str) (l u : Option Int) : (cutS z l u).length ≤ z.length := by
  show ((List.take _ (List.drop _ z.cps.toList)).toArray).size ≤ z.cps.size
  simp
  omega
theorem cutD_mem {xs : List DV} {l u : Option Int} {d : DV} (h : d ∈ cutD xs l u) : d ∈ xs := by
  unfold cutD at h
  exact List.mem_of_mem_drop (List.mem_of_mem_take h)
theorem cutD_len {xs : List DV} {l u : Option Int} : (cutD xs l u).length ≤ xs.length := by
  unfold cutD
  simp
  omega
theorem txt_len (cs : List Nat) : (txt cs).length = cs.length := by
  show cs.toArray.size = _
  simp
theorem app_len (a b : Str) : (a ++ b).length = a.length + b.length := Str.length_append a b
/-- where each gives a value: a comprehension over any list, the store as it was -/
theorem lcL_ex {g : DG} {c fe : DE} {ρ : Ev} {S : Sto} {P : DV → DV → Prop} {ds : List DV} (h : ∀ d ∈ ds, ∃ ρ1 y, g d ρ S = some (ρ1, S) ∧ c ρ1 S = some (.bl true, S) ∧ fe ρ1 S = some (y, S) ∧ P d y) : ∃ ys, lcL g c fe ρ ds S = some (ys, S) ∧ All2 P ds ys := lcL_all h
theorem All2.get {α β : Type} {P : α → β → Prop} : ∀ {as : List α} {bs : List β} {i : Nat} {a : α}, All2 P as bs → as[i]? = some a → ∃ b, bs[i]? = some b ∧ P a b
  | _, _, i, a, .nil, h => by simp at h
  | _, _, 0, a, .cons p t, h => by
    cases h
    exact ⟨_, rfl, p⟩
  | _, _, i + 1, a, .cons p t, h => by
    rw [List.getElem?_cons_succ] at h
    obtain ⟨b, h1, h2⟩ := t.get h
    exact ⟨b, by rw [List.getElem?_cons_succ]; exact h1, h2⟩
theorem pureOf_ex {f : PL} {ds : List DV} {d : DV} (h : ∃ S', f ds [] = some (d, S')) (hp : plain d = true) : pureOf f ds = some d := by
  obtain ⟨S', h⟩ := h
  exact pureOf_of h hp
theorem cpL_loc {b : Bool} {S : Sto} {n : Nat} {xs : List DV} {d : DV} (h : S[n]? = some (.lst xs)) (hp : plainL xs = true) (hd : plain d = true) : cpL b S [.loc n, d] = some [.lst (bk b) xs, d] := by
  have h1 : mapD b (cpN b (S.length + 1) S) (.loc n) = some (.lst (bk b) xs) := cpD_loc h hp
  have h2 : mapD b (cpN b (S.length + 1) S) d = some d := mapD_plain hd
  unfold cpL mapDL mapDL mapDL
  simp only [h1, h2]
end Dn

/-! objects -/
namespace Dn
open PySem PySem.Spec PyProof.Rows L2
/-- the classes' attributes that instances may have -/
abbrev ATab := List (Str × Str)
def insD (S : Sto) : DV → Option (Str × List (Str × DV))
  | .loc n => match S[n]? with
    | some (.ins C fs) => some (C, fs)
    | _ => none
  | _ => none
theorem insD_ok {F : Fm} {S : Sto} {H : Hp} {d : DV} {v : V} {C : Str} {fs : List (Str × DV)} (R : Rep F S H) (r : Rel F d v) (h : insD S d = some (C, fs)) : ∃ n a dx xs, d = .loc n ∧ S[n]? = some (.ins C fs) ∧ F.lm[n]? = some a ∧ v = .ref a ∧ H a = some (.ins (He.ga F.K C) dx ((fs.map (·.1)).zip xs)) ∧ RelL F (fs.map (·.2)) xs := by
  unfold insD at h
  split at h
  · rename_i n
    split at h
    · rename_i C' fs' hc
      cases h
      obtain ⟨a, ha, rfl⟩ := r
      obtain ⟨⟨dx, xs, e, rl⟩, _⟩ := R.cell n _ a hc ha
      exact ⟨n, a, dx, xs, rfl, hc, ha, rfl, e, rl⟩
    · cases h
  · cases h
theorem lookup_ok {F : Fm} {f : Str} : ∀ {fs : List (Str × DV)} {xs : List V}, RelL F (fs.map (·.2)) xs → (∀ {d}, fs.lookup f = some d → ∃ v, ((fs.map (·.1)).zip xs).lookup f = some v ∧ Rel F d v) ∧ (fs.lookup f = none → ((fs.map (·.1)).zip xs).lookup f = none)
  | [], xs, h => ⟨(fun {d} q => nomatch q), fun _ => by rw [List.map_nil, List.zip_nil_left] <;> rfl⟩
  | (g, d0) :: fs, xs, h => by
    obtain ⟨x, r, rfl, h1, h2⟩ := h
    obtain ⟨i1, i2⟩ := lookup_ok (f := f) h2
    rw [List.map_cons, List.zip_cons_cons]
    cases q : (f == g) with
    | true =>
      refine ⟨fun {d} e => ?_, fun e => ?_⟩
      · simp only [List.lookup_cons, q] at e
        cases e
        exact ⟨x, by simp only [List.lookup_cons, q], h1⟩
      · simp only [List.lookup_cons, q] at e
        cases e
    | false =>
      refine ⟨fun {d} e => ?_, fun e => ?_⟩
      · simp only [List.lookup_cons, q] at e ⊢
        exact i1 e
      · simp only [List.lookup_cons, q] at e ⊢
        exact i2 e
def putFD (f : Str) (v : DV) : List (Str × DV) → List (Str × DV)
  | [] => [(f, v)]
  | (g, x) :: r => if g = f then (g, v) :: r else (g, x) :: putFD f v r
theorem putF_ok {F : Fm} {f : Str} {d : DV} {v : V} (rd : Rel F d v) : ∀ {fs : List (Str × DV)} {xs : List V}, RelL F (fs.map (·.2)) xs → ∃ ys, RelL F ((putFD f d fs).map (·.2)) ys ∧ putF f v ((fs.map (·.1)).zip xs) = ((putFD f d fs).map (·.1)).zip ys
  | [], xs, h => ⟨[v], rel1 rd, by rw [List.map_nil, List.zip_nil_left] <;> rfl⟩
  | (g, d0) :: fs, xs, h => by
    obtain ⟨x, r, rfl, h1, h2⟩ := h
    rw [List.map_cons, List.zip_cons_cons]
    unfold putFD putF
    by_cases q : g = f
    · simp only [q, if_true]
      exact ⟨v :: r, .cons rd h2, by rw [List.map_cons, List.zip_cons_cons]⟩
    · simp only [q, if_false]
      obtain ⟨ys, i1, i2⟩ := putF_ok (f := f) rd h2
      exact ⟨x :: ys, .cons h1 i1, by rw [List.map_cons, List.zip_cons_cons, i2]⟩
def dFld (T : ATab) (f : Str) (o : DE) : DE := fun ρ S => match o ρ S with
  | some (x, S1) => (match insD S1 x with
    | some (C, fs) => if T.contains (C, f) = true then (match fs.lookup f with
      | some d => some (d, S1)
      | none => none) else none
    | none => none)
  | none => none
/-- what is known of the classes -/
def ATOk (K : PySem.W.Frag) (T : ATab) : Prop := ∀ C f, T.contains (C, f) = true → Cls K (He.ga K C) ∧ NoAttr K (He.ga K C) f
section
variable {X : Cx} {e o : Expr} {g : DE} {T : ATab} {f : Str} {pos : Pos}
theorem ed_fld (hT : ATOk X.K T) (h : ED X e g) (hb : attributeBase e f X.env (eval e X.env) = eval e X.env := by rfl) : ED X (.Attribute e f pos) (dFld T f g) :=
  .of (pe_fld h.pe hb) fun F S H ρ σ d S' Q hk R rr hf hq => by
    unfold dFld at hf
    split at hf
    · rename_i x S1 h1
      split at hf
      · rename_i C fs hi
        obtain ⟨ht, hf⟩ := of_ite hf
        split at hf
        · rename_i d0 hl
          cases hf
          refine rdE.go hk R rr h1 fun F1 H1 v le hk1 R1 r1 rv => ?_
          obtain ⟨n, a, dx, xs, rfl, hc, ha, rfl, e, rl⟩ := insD_ok R1 rv hi
          obtain ⟨w, e1, rw_⟩ := (lookup_ok (f := f) rl).1 hl
          obtain ⟨c1, c2⟩ := hT C f ht
          rw [hk1] at e
          exact ⟨a, _, dx, _, w, rfl, e, c1, c2, e1, hq F1 H1 w le R1 rw_⟩
        · cases hf
      · cases hf
    · cases hf
def dSetF (T : ATab) (f : Str) (v o : DE) : DS := fun ρ S => match v ρ S with
  | some (y, S1) => (match o ρ S1 with
    | some (.loc n, S2) => (match insD S2 (.loc n) with
      | some (C, fs) => if T.contains (C, f) = true ∧ fs.length < 1000 then some (.nx ρ (S2.set n (.ins C (putFD f y fs)))) else none
      | none => none)
    | _ => none)
  | none => none
theorem len_zip {fs : List (Str × DV)} {F : Fm} {xs : List V} (rl : RelL F (fs.map (·.2)) xs) : ((fs.map (·.1)).zip xs).length = fs.length := by
  have := rl.length
  rw [List.length_map] at this
  rw [List.length_zip, List.length_map, ← this, Nat.min_self]
theorem sd_setF {v : Expr} {gv : DE} {spos pos' : Pos} (hT : ATOk X.K T) (hv : ED X v gv) (ho : ED X o g) (hs : swapsWith v (some (.Attribute o f pos')) spos.line X.env = pure false := by rfl) : SD X (.Assign [.Attribute o f pos'] v spos) (dSetF T f gv g) :=
  .of (ps_fld ho.pe hv.pe hs) fun F S H ρ σ oo D hk R rr hf hq => by
    unfold dSetF at hf
    split at hf
    · rename_i y S1 h1
      split at hf
      · rename_i n S2 h2
        split at hf
        · rename_i C fs hi
          obtain ⟨⟨ht, hlen⟩, hf⟩ := of_ite hf
          cases hf
          refine rdE.go hk R rr h1 fun F1 H1 vy le1 hk1 R1 r1 ry => rdE.go hk1 R1 r1 h2 fun F2 H2 vx le2 hk2 R2 r2 rx => ?_
          obtain ⟨n', a, dx, xs, e0, hc, ha, rfl, e, rl⟩ := insD_ok R2 rx hi
          cases e0
          obtain ⟨c1, c2⟩ := hT C f ht
          obtain ⟨ys, i1, i2⟩ := putF_ok (f := f) (ry.le le2) rl
          have e' := e
          rw [hk2] at e'
          refine ⟨a, _, dx, _, rfl, e', c1, c2, by rw [len_zip rl]; exact hlen, hq F2 _ (le1.trans le2) ?_ σ r2⟩
          rw [i2]
          exact R2.write hc rfl ha (fun _ q => nomatch q) rfl ⟨dx, ys, by rw [upd_same, hk2], i1⟩
        · cases hf
      · cases hf
    · cases hf
/-- o.f op= v -/
def dAugF (T : ATab) (f : Str) (p : P2) (v o : DE) : DS := fun ρ S => match o ρ S with
  | some (.loc n, S1) => (match insD S1 (.loc n) with
    | some (C, fs) => if T.contains (C, f) = true then (match fs.lookup f with
      | some x => (match v ρ S1 with
        | some (y, S2) => (match p x y S2 with
          | some (d, S3) => (match insD S3 (.loc n) with
            | some (C', fs') => if C' = C ∧ fs'.length < 1000 then some (.nx ρ (S3.set n (.ins C' (putFD f d fs')))) else none
            | none => none)
          | none => none)
        | none => none)
      | none => none) else none
    | none => none)
  | _ => none
end

/-! ### methods, makers -/
structure MtC (P : Program) (w : World) (K : PySem.W.Frag) (mg : Str → Option Value) (base : Heap) (C m : Str) (k : Nat) (ps : List Str) (dvs : List V) (f : PL) : Prop where
  ex : ∃ (a : Addr) (fd : FuncData) (ds : List Value), Cls K (He.ga K C) ∧ Meth K (He.ga K C) m a ∧ FnOk P w K mg base CX0 k a fd ps (spS K ps.length f) ∧ Binds K fd ps ds ∧ Vals dvs ds
structure MkC (P : Program) (w : World) (K : PySem.W.Frag) (mg : Str → Option Value) (base : Heap) (C : Str) (k : Nat) (ps : List Str) (dvs : List V) (f : PL) : Prop where
  ex : ∃ (a : Addr) (fd : FuncData) (ds : List Value), mg C = some (.ref (He.ga K C)) ∧ Mk K (He.ga K C) a ∧ FnOk P w K mg base CX0 k a fd ps (spS K ps.length f) ∧ Binds K fd ps ds ∧ Vals dvs ds
def dMeth (C m : Str) (f : PL) (dds : List DV) (o : DE) (fa : DA) : DE := fun ρ S => match o ρ S with
  | some (x, S1) => (match insD S1 x with
    | some (C', fs) => if C' = C ∧ fs.lookup m = none then (match fa ρ S1 with
      | some (xs, S2) => f (x :: (xs ++ dds)) S2
      | none => none) else none
    | none => none)
  | none => none
def dMake (C : Str) (f : PL) (dds : List DV) (fa : DA) : DE := fun ρ S => match fa ρ S with
  | some (xs, S1) => (match f (.loc S1.length :: (xs ++ dds)) (S1 ++ [.ins C []]) with
    | some (.non, S2) => some (.loc S1.length, S2)
    | _ => none)
  | none => none
section
variable {X : Cx} {e o : Expr} {es : List Expr} {g : DE} {fa : DA} {C m x : Str} {k j : Nat} {ps : List Str} {dvs : List V} {dds : List DV} {np n : Nat} {b0 : DS} {p pos apos : Pos}
theorem meth_go {a : Addr} {E : XK} (hd : ∀ F : Fm, RelL F dds dvs) {F : Fm} {S S' : Sto} {H : Hp} {ρ : Ev} {σ : L2.St} {d : DV} {Q : VK} (hk : F.K = X.K) (R : Rep F S H) (rr : RelE F ρ σ) (hf : dMeth C m (runF np n b0) dds g fa ρ S = some (d, S')) (hq : PostE F S' d Q) :
    tMeth (He.ga X.K C) m (spS X.K np (runF np n b0)) dvs E (rdE X.K g) (rdA X.K fa) σ H Q := by
  unfold dMeth at hf
  split at hf
  · rename_i x S1 h1
    split at hf
    · rename_i C' fs hi
      obtain ⟨hc0, hf2⟩ := of_ite hf
      clear hf
      obtain ⟨e0, hl⟩ := hc0
      subst e0
      cases h2 : fa ρ S1 with
      | none =>
        rw [h2] at hf2
        cases hf2
      | some z =>
        obtain ⟨xs, S2⟩ := z
        rw [h2] at hf2
        refine rdE.go hk R rr h1 fun F1 H1 v le hk1 R1 r1 rv => ?_
        obtain ⟨n, a, dx, us, rfl, hc, ha, rfl, e, rl⟩ := insD_ok R1 rv hi
        have hlk := (lookup_ok (f := m) rl).2 hl
        rw [hk1] at e
        refine ⟨a, dx, _, rfl, e, hlk, rdA.go hk1 R1 r1 h2 fun F2 H2 vs le2 hk2 R2 r2 ra => ?_⟩
        exact ⟨F2, S2, .loc n :: (xs ++ dds), d, S', hk2, R2, .cons (rv.le le2) (ra.append (hd F2)), runF_len _ _ _ hf2, hf2, hq.le (le.trans le2)⟩
    · cases hf
  · cases hf
theorem ed_meth (M : MtC X.prog X.w X.K X.mg X.base C m k ps dvs (runF np n b0)) (hn : ps.length = np) (hr : Room j X.A) (hj : k ≤ j) (hd : ∀ F : Fm, RelL F dds dvs) (ho : ED X o g) (ha : AD X (e :: es) fa) {pl : Sem Bool}
    (hst : starEach (e :: es) X.env = (false, eval e X.env) :: starEach es X.env := by rfl) (hpl : (backTo pos (starEach es X.env)).any (·.1) = false := by rfl)
    (ht : eval (.Call (.Attribute o m apos) (e :: es) [] pos) X.env = (do
      let ov ← eval o X.env
      standAt apos.atName
      let (f, first) ← holding [ov] (getMethod ov m pl)
      callWith pos f first (backTo pos (starEach (e :: es) X.env)) (backToKw pos (keywordEach [] X.env))) := by rfl) : ED X (.Call (.Attribute o m apos) (e :: es) [] pos) (dMeth C m (runF np n b0) dds g fa) := by
  subst hn
  obtain ⟨a, fd, ds, h1, h2, h3, h4, h5⟩ := M.ex
  exact .of (pe_meth (E := E0) ho.pe h1 h2 h3 (hr.mono hj) h4 h5 pass0 ha.pa hst hpl ht) fun F S H ρ σ d S' Q hk R rr hf hq => meth_go (a := a) hd hk R rr hf hq
theorem ed_meth0 (M : MtC X.prog X.w X.K X.mg X.base C m k ps dvs (runF np n b0)) (hn : ps.length = np) (hr : Room j X.A) (hj : k ≤ j) (hd : ∀ F : Fm, RelL F dds dvs) (ho : ED X o g) {pl : Sem Bool}
    (ht : eval (.Call (.Attribute o m apos) [] [] pos) X.env = (do
      let ov ← eval o X.env
      standAt apos.atName
      let (f, first) ← holding [ov] (getMethod ov m pl)
      callWith pos f first (backTo pos (starEach [] X.env)) (backToKw pos (keywordEach [] X.env))) := by rfl) : ED X (.Call (.Attribute o m apos) [] [] pos) (dMeth C m (runF np n b0) dds g aNil) := by
  subst hn
  obtain ⟨a, fd, ds, h1, h2, h3, h4, h5⟩ := M.ex
  refine .of (pe_meth0 (E := E0) ho.pe h1 h2 h3 (hr.mono hj) h4 h5 pass0 ht) fun F S H ρ σ d S' Q hk R rr hf hq => ?_
  have g0 := meth_go (a := a) (E := E0) hd hk R rr hf hq
  obtain ⟨F0, S0, ρ0, x0, S10, q1, q2, q3, q4, q5⟩ := g0
  refine ⟨F0, S0, ρ0, x0, S10, q1, q2, q3, q4, fun F' H' v le R' rv => ?_⟩
  obtain ⟨a', dx, fs, z1, z2, z3, z4⟩ := q5 F' H' v le R' rv
  refine ⟨a', dx, fs, z1, z2, z3, ?_⟩
  obtain ⟨F9, S9, ρ9, x9, S19, y1, y2, y3, y4, y5⟩ := z4
  cases (show some (([] : List DV), S9) = some (x9, S19) from y4)
  exact y5 F9 H' [] (.refl F9) y2 rfl
theorem make_go {E : XK} (hd : ∀ F : Fm, RelL F dds dvs) {F : Fm} {S S' : Sto} {H : Hp} {ρ : Ev} {σ : L2.St} {d : DV} {Q : VK} (hk : F.K = X.K) (R : Rep F S H) (rr : RelE F ρ σ) (hf : dMake C (runF np n b0) dds fa ρ S = some (d, S')) (hq : PostE F S' d Q) :
    tMake (He.ga X.K C) (spS X.K np (runF np n b0)) dvs E (rdA X.K fa) σ H Q := by
  unfold dMake at hf
  split at hf
  · rename_i xs S1 h1
    split at hf
    · rename_i S2 h2
      cases hf
      refine rdA.go hk R rr h1 fun F1 H1 vs le hk1 R1 r1 ra x dx hx hdx hne => ?_
      have R2 := R1.beside (o := .own x) hdx (fun _ q => nomatch q)
      have hx2 : upd H1 dx (.own x) x = none := by rw [upd_ne fun q => hne q.symm]; exact hx
      have R3 := R2.alloc (o := .ins (He.ga X.K C) dx []) (c := .ins C []) hx2 (fun _ q => nomatch q) ⟨dx, [], by rw [upd_same, show (F1.cell x).K = X.K from hk1] <;> rfl, rfl⟩
      have le3 := F1.cell_le x
      have rloc : Rel (F1.cell x) (.loc S1.length) (.ref x) := ⟨x, by rw [← R1.len]; exact get_len _ _, rfl⟩
      refine ⟨F1.cell x, S1 ++ [.ins C []], .loc S1.length :: (xs ++ dds), .non, S', hk1, R3, .cons rloc ((ra.append (hd F1)).le le3), runF_len _ _ _ h2, h2, fun F' H' v le' R' rv => ⟨rv, ?_⟩⟩
      exact hq F' H' (.ref x) ((le.trans le3).trans le') R' (rloc.le le')
    · cases hf
  · cases hf
theorem ed_make (M : MkC X.prog X.w X.K X.mg X.base x k ps dvs (runF np n b0)) (hn : ps.length = np) (hr : Room j X.A) (hj : k + 1 ≤ j) (hg : Gl X x) (hd : ∀ F : Fm, RelL F dds dvs) (ha : AD X (e :: es) fa) (hdb : (x == ("__debug__" : Str)) = false := by decide)
    (he : starEach (e :: es) X.env = (false, eval e X.env) :: starEach es X.env := by rfl) (hpl : (backTo pos (starEach es X.env)).any (·.1) = false := by rfl) : ED X (.Call (.Name x p) (e :: es) [] pos) (dMake x (runF np n b0) dds fa) := by
  subst hn
  obtain ⟨a, fd, ds, h1, h2, h3, h4, h5⟩ := M.ex
  exact .of (pe_make (E := E0) h2 h3 (hr.mono hj) hg h1 h4 h5 pass0 ha.pa hdb he hpl) fun F S H ρ σ d S' Q hk R rr hf hq => make_go hd hk R rr hf hq
theorem ed_make0 (M : MkC X.prog X.w X.K X.mg X.base x k ps dvs (runF np n b0)) (hn : ps.length = np) (hr : Room j X.A) (hj : k + 1 ≤ j) (hg : Gl X x) (hd : ∀ F : Fm, RelL F dds dvs) (hdb : (x == ("__debug__" : Str)) = false := by decide) : ED X (.Call (.Name x p) [] [] pos) (dMake x (runF np n b0) dds aNil) := by
  subst hn
  obtain ⟨a, fd, ds, h1, h2, h3, h4, h5⟩ := M.ex
  refine .of (pe_make0 (E := E0) h2 h3 (hr.mono hj) hg h1 h4 h5 pass0 hdb) fun F S H ρ σ d S' Q hk R rr hf hq => ?_
  have g0 := make_go (C := x) (fa := aNil) (E := E0) hd hk R rr hf hq
  obtain ⟨F0, S0, ρ0, x0, S10, q1, q2, q3, q4, q5⟩ := g0
  cases (show some (([] : List DV), S0) = some (x0, S10) from q4)
  exact q5 F0 H [] (.refl F0) q2 rfl
end
theorem MtC.of {P : Program} {w : World} {K : PySem.W.Frag} {mg : Str → Option Value} {base : Heap} {C m x : Str} {k : Nat} {ps : List Str} {f : PL} {a : Addr} {fd : FuncData} {qual : Str} {params : Arguments} {body : List Stmt} {scope : Scope}
    (F : FunD K x qual params body scope [] [] a fd) (hc : (He.Fa.cls C).ok K = true) (hm : (He.Fa.meth C m).ok K = true) (ha : a = He.ma K (He.ga K C) m) (h : FnOk P w K mg base CX0 k a fd ps (spS K ps.length f))
    (hb : ∀ (kV doc pm : Value) (an : Option Addr) (cdv ct : Value) (us : List Value), us.length = ps.length → bindArgs (PySem.W.fnOf x qual params body scope .none kV doc pm an cdv ct) ⟨us, []⟩ = pure (ps.zip us)) : MtC P w K mg base C m k ps [] f := by
  subst ha
  exact ⟨_, fd, [], He.cls_ok hc, He.meth_ok hm, h, F.bindsN hb, .nil⟩
theorem MkC.of {P : Program} {w : World} {K : PySem.W.Frag} {mg : Str → Option Value} {base : Heap} {C x : Str} {k : Nat} {ps : List Str} {f : PL} {a : Addr} {fd : FuncData} {qual : Str} {params : Arguments} {body : List Stmt} {scope : Scope}
    (F : FunD K x qual params body scope [] [] a fd) (hg : mg C = some (.ref (He.ga K C))) (hm : (He.Fa.mkr C).ok K = true) (ha : a = He.ma K (He.ga K C) "__init__") (h : FnOk P w K mg base CX0 k a fd ps (spS K ps.length f))
    (hb : ∀ (kV doc pm : Value) (an : Option Addr) (cdv ct : Value) (us : List Value), us.length = ps.length → bindArgs (PySem.W.fnOf x qual params body scope .none kV doc pm an cdv ct) ⟨us, []⟩ = pure (ps.zip us)) : MkC P w K mg base C k ps [] f := by
  subst ha
  exact ⟨_, fd, [], hg, He.mkr_ok hm, h, F.bindsN hb, .nil⟩
def atB (K : PySem.W.Frag) (T : ATab) : Bool := T.all fun p => (He.Fa.cls p.1).ok K && (He.Fa.noat p.1 p.2).ok K
theorem atOk_of {K : PySem.W.Frag} {T : ATab} (h : atB K T = true) : ATOk K T := fun C f hc => by
  have h1 := List.all_eq_true.mp h (C, f) (List.contains_iff_mem.mp hc)
  obtain ⟨a, b⟩ := Bool.and_eq_true_iff.mp h1
  exact ⟨He.cls_ok a, He.noat_ok b⟩
end Dn

/-! loops and comprehensions over a list that may be changed elsewhere: read place by place -/
namespace Dn
open PySem PySem.Spec PyProof.Rows L2
def forV (n : Nat) (g : DG) (body : DS) : Nat → Nat → DS
  | 0, _ => fun _ _ => none
  | m + 1, i => fun ρ S => match asL S (.loc n) with
    | some ds => (match ds[i]? with
      | some d => (match g d ρ S with
        | some (ρ1, S1) => (match body ρ1 S1 with
          | some (.nx ρ2 S2) => forV n g body m (i + 1) ρ2 S2
          | some (.ct ρ2 S2) => forV n g body m (i + 1) ρ2 S2
          | some (.bk ρ2 S2) => some (.nx ρ2 S2)
          | some (.rt v S2) => some (.rt v S2)
          | none => none)
        | none => none)
      | none => some (.nx ρ S))
    | none => none
def dForV (f : DE) (g : DG) (body : DS) (m : Nat) : DS := fun ρ S => match f ρ S with
  | some (.loc n, S1) => forV n g body m 0 ρ S1
  | _ => none
theorem forV_go {f : DE} {g : DG} {body : DS} {m : Nat} {F : Fm} {S : Sto} {H : Hp} {ρ : Ev} {σ : L2.St} {o : Out} {D : Ends} {K : PySem.W.Frag} (hk : F.K = K) (R : Rep F S H) (rr : RelE F ρ σ) (hf : dForV f g body m ρ S = some o) (hq : PostS F o D) : tFor (iList K (rdE K f)) (rdG K g) (rdS K body) D σ H := by
  unfold dForV at hf
  split at hf
  · rename_i n S1 h1
    refine rdE.go hk R rr h1 fun F1 H1 v le1 hk1 R1 r1 rv => ?_
    have rv0 := rv
    obtain ⟨a, ha, rfl⟩ := rv
    have live : ∀ {F' : Fm} {S' : Sto} {H' : Hp} {ds : List DV}, Le F1 F' → Rep F' S' H' → asL S' (.loc n) = some ds → ∃ xs, SqL K H' a xs ∧ RelL F' ds xs := fun {F' S' H' ds} le R' e => by
      obtain ⟨a', xs, e1, hs, rl⟩ := asL_sq R' (rv0.le le) e
      cases e1
      rw [le.k.trans hk1] at hs
      exact ⟨xs, hs, rl⟩
    cases m with
    | zero => cases hf
    | succ m0 =>
      have h0 : ∃ ds, asL S1 (.loc n) = some ds := by
        unfold forV at hf
        cases e : asL S1 (.loc n) with
        | none =>
          rw [e] at hf
          cases hf
        | some ds => exact ⟨ds, rfl⟩
      obtain ⟨ds0, h0⟩ := h0
      obtain ⟨xs0, hs0, _⟩ := live (.refl F1) R1 h0
      refine ⟨a, rfl, ⟨xs0, hs0⟩, fun i m σ H => ∃ F' S' ρ', Le F1 F' ∧ Rep F' S' H ∧ RelE F' ρ' σ ∧ forV n g body m i ρ' S' = some o, ⟨m0 + 1, F1, S1, ρ, .refl F1, R1, r1, hf⟩, ?_⟩
      rintro i m σ H ⟨F', S', ρ', le', R', r', hf'⟩
      cases m with
      | zero => cases hf'
      | succ m =>
        unfold forV at hf'
        cases e : asL S' (.loc n) with
        | none =>
          rw [e] at hf'
          cases hf'
        | some ds =>
          obtain ⟨xs, hs, rl⟩ := live le' R' e
          simp only [e] at hf'
          cases ed : ds[i]? with
          | none =>
            simp only [ed] at hf'
            cases hf'
            refine .inl ⟨⟨xs, hs, by rw [← rl.length]; exact List.getElem?_eq_none_iff.mp ed⟩, hq F' H (le1.trans le') R' σ r'⟩
          | some d =>
            simp only [ed] at hf'
            obtain ⟨x, hx, rx⟩ := rl.get ed
            refine .inr ⟨⟨xs, x, hs, hx⟩, fun σ' H' => ∃ m', m' < m + 1 ∧ ∃ F' S' ρ', Le F1 F' ∧ Rep F' S' H' ∧ RelE F' ρ' σ' ∧ forV n g body m' (i + 1) ρ' S' = some o, fun _ _ z => z, fun y H2 yl => ?_⟩
            obtain ⟨rfl, y2⟩ := yl
            have ey := (y2 xs hs).symm.trans hx
            cases ey
            cases hg : g d ρ' S' with
            | none =>
              rw [hg] at hf'
              cases hf'
            | some z =>
              obtain ⟨ρ1, S3⟩ := z
              simp only [hg] at hf'
              refine ⟨F', S', ρ', d, ρ1, S3, le'.k.trans hk1, R', r', rx, hg, fun F3 H3 σ3 le3 R3 r3 => ?_⟩
              have le03 : Le F1 F3 := le'.trans le3
              split at hf'
              · rename_i ρ2 S2 hb
                exact rdS.go (le03.k.trans hk1) R3 r3 hb fun F4 H4 le4 R4 σ4 r4 => ⟨m, Nat.lt_succ_self _, F4, S2, ρ2, le03.trans le4, R4, r4, hf'⟩
              · rename_i ρ2 S2 hb
                exact rdS.go (le03.k.trans hk1) R3 r3 hb fun F4 H4 le4 R4 σ4 r4 => ⟨m, Nat.lt_succ_self _, F4, S2, ρ2, le03.trans le4, R4, r4, hf'⟩
              · rename_i ρ2 S2 hb
                cases hf'
                exact rdS.go (le03.k.trans hk1) R3 r3 hb fun F4 H4 le4 R4 σ4 r4 => hq F4 H4 (le1.trans (le03.trans le4)) R4 σ4 r4
              · rename_i v S2 hb
                cases hf'
                exact rdS.go (le03.k.trans hk1) R3 r3 hb fun F4 H4 le4 R4 v rv => hq F4 H4 (le1.trans (le03.trans le4)) R4 v rv
              · cases hf'
  · cases hf
theorem sd_forV {X : Cx} {st : Stmt} {f : DE} {g : DG} {body : DS} (m : Nat) (h : PS X st (tFor (iList X.K (rdE X.K f)) (rdG X.K g) (rdS X.K body))) : SD X st (dForV f g body m) := .of h fun F S H ρ σ o D hk R rr hf hq => forV_go hk R rr hf hq

def lcV (n : Nat) (g : DG) (c fe : DE) (ρ : Ev) : Nat → Nat → Sto → Option (List DV × Sto)
  | 0, _, _ => none
  | m + 1, i, S => match asL S (.loc n) with
    | some ds => (match ds[i]? with
      | some d => (match g d ρ S with
        | some (ρ1, S1) => (match c ρ1 S1 with
          | some (.bl true, S2) => (match fe ρ1 S2 with
            | some (y, S3) => (match lcV n g c fe ρ m (i + 1) S3 with
              | some (ys, S4) => some (y :: ys, S4)
              | none => none)
            | none => none)
          | some (.bl false, S2) => lcV n g c fe ρ m (i + 1) S2
          | _ => none)
        | none => none)
      | none => some ([], S))
    | none => none
def lcRV (f : DE) (g : DG) (c fe : DE) (vs : List Nat) (m : Nat) : DA := fun ρ S => match f ρ S with
  | some (.loc n, S1) => (match lcV n g c fe (dwipe ρ vs) m 0 S1 with
    | some (ys, S2) => if ys.length ≤ sizeLine then some (ys, S2) else none
    | none => none)
  | _ => none
def dLcV (f : DE) (g : DG) (c fe : DE) (vs : List Nat) (m : Nat) : DE := fun ρ S => match lcRV f g c fe vs m ρ S with
  | some (ys, S2) => some (.lst .own ys, S2)
  | none => none
def dLcVM (f : DE) (g : DG) (c fe : DE) (vs : List Nat) (m : Nat) : DE := fun ρ S => match lcRV f g c fe vs m ρ S with
  | some (ys, S2) => some (.loc S2.length, S2 ++ [.lst ys])
  | none => none
theorem lcV_go {K : PySem.W.Frag} {f : DE} {g : DG} {c fe : DE} {vs : List Nat} {m0 : Nat} {t : TG} {tt : TT} (hg : GW K t g vs) (hc : ∀ σ H Q, rdT K c σ H Q → tt σ H Q) {F : Fm} {S S2 : Sto} {H : Hp} {ρ : Ev} {σ : L2.St} {ys : List DV} {Q : VK}
    (hk : F.K = K) (R : Rep F S H) (rr : RelE F ρ σ) (hf : lcRV f g c fe vs m0 ρ S = some (ys, S2))
    (hq : ∀ F' H' D xs, Le F F' → Rep F' S2 H' → H' D = some (.lst xs) → RelL F' ys xs → F'.G D = none → F'.free D → NoCell F' S2 D → Q (.ref D) H') : tLc (iList K (rdE K f)) t tt (rdE K fe) vs σ H Q := by
  unfold lcRV at hf
  split at hf
  · rename_i n S1 h1
    split at hf
    · rename_i ys' S2' h2
      obtain ⟨hsz, hf⟩ := of_ite hf
      cases hf
      refine rdE.go hk R rr h1 fun F1 H1 v le1 hk1 R1 r1' rv => ?_
      have rv0 := rv
      obtain ⟨a, ha, rfl⟩ := rv
      have live : ∀ {F' : Fm} {S' : Sto} {H' : Hp} {ds : List DV}, F'.K = K → F1.lm <+: F'.lm → Rep F' S' H' → asL S' (.loc n) = some ds → ∃ xs, SqL K H' a xs ∧ RelL F' ds xs := fun {F' S' H' ds} hk' hm R' e => by
        obtain ⟨a', xs, e1, hs, rl⟩ := asL_sq R' (d := .loc n) (v := .ref a) ⟨a, prefix_get hm ha, rfl⟩ e
        cases e1
        rw [hk'] at hs
        exact ⟨xs, hs, rl⟩
      have h0 : ∃ ds, asL S1 (.loc n) = some ds := by
        cases m0 with
        | zero => cases h2
        | succ m0 =>
          unfold lcV at h2
          cases e : asL S1 (.loc n) with
          | none =>
            rw [e] at h2
            cases h2
          | some ds => exact ⟨ds, rfl⟩
      obtain ⟨ds0, h0⟩ := h0
      obtain ⟨xs0, hs0, _⟩ := live hk1 (List.prefix_refl _) R1 h0
      refine ⟨a, rfl, ⟨xs0, hs0⟩, fun D hD => ?_⟩
      have r1 := rr.le le1
      refine ⟨fun i m H => ∃ F' S' acc accV rest, Le F1 F' ∧ Rep F' S' H ∧ H D = some (.lst accV) ∧ RelL F' acc accV ∧ F'.G D = none ∧ F'.free D ∧ NoCell F' S' D ∧ lcV n g c fe (dwipe ρ vs) m i S' = some (rest, S2) ∧ ys = acc ++ rest,
        ⟨m0, F1, S1, [], [], ys, .refl F1, R1.beside hD (fun _ q => nomatch q), upd_same, rfl, R1.g.free hD, ⟨R1.b.free hD, R1.p.free hD⟩, R1.noCell hD, h2, rfl⟩, ?_⟩
      rintro i m H ⟨F', S', acc, accV, rest, le', R', eD, ra, gD, fD, nc, hl, ey⟩
      have Rp : Rep (F'.prot (upd F'.P D (.lst accV))) S' H := by
        refine R'.prot (fun a o e => ?_) (fun a o u e => by
          show upd F'.P D (.lst accV) a = _
          rw [upd_ne fun q => by rw [q, fD.2] at e; cases e]
          exact e) fun n c a h l e => ?_
        · by_cases q : a = D
          · rw [q, upd_same] at e
            rw [q, eD]
            exact e
          · rw [upd_ne q] at e
            exact R'.p _ _ e
        · rw [upd_ne fun q => nc n c h l (by rw [← q]; exact e)]
          exact ((R'.cell n c a h e).2 l).2.2
      have wk1 : Wk F1 (F'.prot (upd F'.P D (.lst accV))) := ⟨le'.k, le'.wk.b, le'.g, le'.m⟩
      cases m with
      | zero => cases hl
      | succ m =>
        unfold lcV at hl
        cases e : asL S' (.loc n) with
        | none =>
          rw [e] at hl
          cases hl
        | some ds =>
          simp only [e] at hl
          obtain ⟨xs, hs, rl⟩ := live (le'.k.trans hk1) le'.m R' e
          cases ed : ds[i]? with
          | none =>
            simp only [ed] at hl
            cases hl
            rw [List.append_nil] at ey
            subst ey
            exact .inl ⟨⟨xs, hs, by rw [← rl.length]; exact List.getElem?_eq_none_iff.mp ed⟩, hq F' H D accV (le1.trans le') R' eD ra gD fD nc⟩
          | some d =>
            simp only [ed] at hl
            obtain ⟨x0, hx0, rx0⟩ := rl.get ed
            refine .inr ⟨⟨xs, x0, hs, hx0⟩, fun H' => ∃ m', m' < m + 1 ∧ (∃ F' S' acc accV rest, Le F1 F' ∧ Rep F' S' H' ∧ H' D = some (.lst accV) ∧ RelL F' acc accV ∧ F'.G D = none ∧ F'.free D ∧ NoCell F' S' D ∧ lcV n g c fe (dwipe ρ vs) m' (i + 1) S' = some (rest, S2) ∧ ys = acc ++ rest), fun _ z => z, fun x H2 yl => ?_⟩
            obtain ⟨rfl, y2⟩ := yl
            have eyx := (y2 xs hs).symm.trans hx0
            cases eyx
            have le2 : Le (F'.prot (upd F'.P D (.lst accV))) (F'.prot (upd F'.P D (.lst accV))) := .refl _
            have R2 := Rp
            have rx : Rel (F'.prot (upd F'.P D (.lst accV))) d x0 := Rel.wk (F := F') (⟨rfl, Same.refl F'.B, Same.refl F'.G, List.prefix_refl F'.lm⟩ : Wk F' (F'.prot (upd F'.P D (.lst accV)))) _ _ rx0
            have rE2 : RelE (F'.prot (upd F'.P D (.lst accV))) (dwipe ρ vs) (wipe σ vs) := relE_wipe (r1.wk wk1) vs
            have back : ∀ {F4 : Fm} {S4 : Sto} {H4 : Hp}, Le (F'.prot (upd F'.P D (.lst accV))) F4 → Rep F4 S4 H4 → H4 D = some (.lst accV) ∧ Le F1 (F4.prot F1.P) ∧ F4.G D = none ∧ F4.B D = none ∧ F1.P D = none ∧ NoCell F4 S4 D ∧ Rep (F4.prot F1.P) S4 H4 ∧ RelL F4 acc accV := fun {F4 S4 H4} le4 R4 => by
              have eP : F4.P = upd F'.P D (.lst accV) := le4.p
              have ePD : F4.P D = some (.lst accV) := by rw [eP, upd_same]
              have pp : F'.P = F1.P := le'.p
              have gD4 : F4.G D = none := by
                cases q : F4.G D with
                | none => rfl
                | some o =>
                  rcases le4.n D o q with h | h
                  · have h2 : F'.G D = some o := h
                    rw [gD] at h2
                    cases h2
                  · have h2 : upd F'.P D (HO.lst accV) D = none := h.2
                    rw [upd_same] at h2
                    cases h2
              have pD : F1.P D = none := by rw [← pp]; exact fD.2
              have nc4 : NoCell F4 S4 D := fun n c h l e => by
                have h3 := ((R4.cell n c D h e).2 l).2.2
                rw [ePD] at h3
                cases h3
              refine ⟨R4.p _ _ ePD, ⟨le4.k.trans le'.k, le4.b.trans le'.b, rfl, le'.g.trans le4.g, fun a o e => ?_, le'.m.trans le4.m⟩, gD4, ?_, pD, nc4, ?_, RelL.wk (F := F') ?_ _ _ ra⟩
              · rcases le4.n a o e with h | h
                · exact le'.n a o h
                · right
                  have h1 : F'.B a = none := h.1
                  have h2 : upd F'.P D (HO.lst accV) a = none := h.2
                  have h3 : F'.P a = none := by
                    by_cases q : a = D
                    · rw [q, upd_same] at h2
                      cases h2
                    · rw [upd_ne q] at h2
                      exact h2
                  exact ⟨by rw [← le'.b]; exact h1, by rw [← pp]; exact h3⟩
              · rw [le4.b]
                exact fD.1
              · refine R4.prot (fun a o e => ?_) (fun a o u e => by
              rw [eP] at e
              by_cases q : a = D
              · rw [q, upd_same] at e
                cases e
              · rw [upd_ne q, pp] at e
                exact e) fun n c a h l e => ?_
                · refine R4.p _ _ ?_
                  rw [eP, upd_ne (fun q => by rw [q, pD] at e; cases e), pp]
                  exact e
                · have h3 := ((R4.cell n c a h e).2 l).2.2
                  rw [eP] at h3
                  by_cases q : a = D
                  · rw [q]
                    exact pD
                  · rw [upd_ne q, pp] at h3
                    exact h3
              · exact ⟨le4.k, le4.wk.b, le4.g, le4.m⟩
            split at hl
            · rename_i ρ1 S3 hg1
              refine hg (F'.prot (upd F'.P D (.lst accV))) S' H2 _ _ _ x0 ρ1 S3 _ (le'.k.trans (le1.k.trans hk)) R2 rE2 rx hg1 fun σ3 hS r3 w3 => ⟨w3.trans wipe_wipe, ?_⟩
              subst hS
              split at hl
              · rename_i S5 hc1
                refine hc _ _ _ (rdT.go (F := F'.prot (upd F'.P D (.lst accV))) (le'.k.trans (le1.k.trans hk)) R2 r3 hc1 fun F3 H3 le3 hk3 R3 r4 => ?_)
                rw [if_pos rfl]
                split at hl
                · rename_i y1 S6 he1
                  split at hl
                  · rename_i ys7 S7 hl7
                    cases hl
                    refine rdE.go hk3 R3 r4 he1 fun F4 H4 v le4 hk4 R4 r5 rv => ?_
                    obtain ⟨b1, b2, b3, b4, b5, b6, b7, b8⟩ := back (le3.trans le4) R4
                    have hlen := ra.length
                    refine ⟨accV, b1, ?_, m, Nat.lt_succ_self _, F4.prot F1.P, S6, acc ++ [y1], accV ++ [v], ys7, b2, b7.over b3 ⟨b4, b5⟩ b6 (fun _ q => nomatch q), upd_same, ?_, b3, ⟨b4, b5⟩, b6, hl7, by rw [ey, List.append_assoc] <;> rfl⟩
                    · rw [ey] at hsz
                      simp only [List.length_append, List.length_cons] at hsz
                      omega
                    · exact RelL.wk (F := F4) (F' := F4.prot F1.P) (⟨rfl, Same.refl F4.B, Same.refl F4.G, List.prefix_refl F4.lm⟩ : Wk F4 (F4.prot F1.P)) _ _ (b8.append (RelL.cons rv rfl))
                  · cases hl
                · cases hl
              · rename_i S5 hc1
                refine hc _ _ _ (rdT.go (F := F'.prot (upd F'.P D (.lst accV))) (le'.k.trans (le1.k.trans hk)) R2 r3 hc1 fun F3 H3 le3 hk3 R3 r4 => ?_)
                rw [if_neg Bool.false_ne_true]
                obtain ⟨b1, b2, b3, b4, b5, b6, b7, b8⟩ := back le3 R3
                exact ⟨m, Nat.lt_succ_self _, F3.prot F1.P, S5, acc, accV, rest, b2, b7, b1, RelL.wk (F := F3) (F' := F3.prot F1.P) (⟨rfl, Same.refl F3.B, Same.refl F3.G, List.prefix_refl F3.lm⟩ : Wk F3 (F3.prot F1.P)) _ _ b8, b3, ⟨b4, b5⟩, b6, hl, ey⟩
              · cases hl
            · cases hl
    · cases hf
  · cases hf
theorem lcV_own {K : PySem.W.Frag} {f : DE} {g : DG} {c fe : DE} {vs : List Nat} {m0 : Nat} {t : TG} {tt : TT} (hg : GW K t g vs) (hc : ∀ σ H Q, rdT K c σ H Q → tt σ H Q) {F : Fm} {S S' : Sto} {H : Hp} {ρ : Ev} {σ : L2.St} {d : DV} {Q : VK}
    (hk : F.K = K) (R : Rep F S H) (rr : RelE F ρ σ) (hf : dLcV f g c fe vs m0 ρ S = some (d, S')) (hq : PostE F S' d Q) : tLc (iList K (rdE K f)) t tt (rdE K fe) vs σ H Q := by
  unfold dLcV at hf
  split at hf
  · rename_i ys S2 h
    cases hf
    refine lcV_go hg hc hk R rr h fun F' H' D xs le R' eD r gD fD nc => ?_
    obtain ⟨R2, le2⟩ := R'.adopt eD gD fD nc
    exact hq _ _ _ (le.trans le2) R2 ⟨D, xs, rfl, upd_same, r.le le2⟩
  · cases hf
theorem lcV_mut {K : PySem.W.Frag} {f : DE} {g : DG} {c fe : DE} {vs : List Nat} {m0 : Nat} {t : TG} {tt : TT} (hg : GW K t g vs) (hc : ∀ σ H Q, rdT K c σ H Q → tt σ H Q) {F : Fm} {S S' : Sto} {H : Hp} {ρ : Ev} {σ : L2.St} {d : DV} {Q : VK}
    (hk : F.K = K) (R : Rep F S H) (rr : RelE F ρ σ) (hf : dLcVM f g c fe vs m0 ρ S = some (d, S')) (hq : PostE F S' d Q) : tLc (iList K (rdE K f)) t tt (rdE K fe) vs σ H Q := by
  unfold dLcVM at hf
  split at hf
  · rename_i ys S2 h
    cases hf
    refine lcV_go hg hc hk R rr h fun F' H' D xs le R' eD r gD fD nc => ?_
    have R2 := R'.cell_new (c := .lst ys) ⟨xs, eD, r.le (F'.cell_le D)⟩ gD fD nc
    exact hq _ _ _ (le.trans (F'.cell_le D)) R2 ⟨D, by rw [← R'.len]; exact get_len _ _, rfl⟩
  · cases hf
section
variable {X : Cx} {e : Expr} {st : Stmt} {f : DE} {g : DG} {c fe : DE} {vs : List Nat} {t : TG} {tt : TT}
theorem ed_lcV (m : Nat) (h : PE X e (tLc (iList X.K (rdE X.K f)) t tt (rdE X.K fe) vs)) (hg : GW X.K t g vs) (hc : ∀ σ H Q, rdT X.K c σ H Q → tt σ H Q) : ED X e (dLcV f g c fe vs m) :=
  .of h fun F S H ρ σ d S' Q hk R rr hf hq => lcV_own hg hc hk R rr hf hq
theorem ed_lcVM (m : Nat) (h : PE X e (tLc (iList X.K (rdE X.K f)) t tt (rdE X.K fe) vs)) (hg : GW X.K t g vs) (hc : ∀ σ H Q, rdT X.K c σ H Q → tt σ H Q) : ED X e (dLcVM f g c fe vs m) :=
  .of h fun F S H ρ σ d S' Q hk R rr hf hq => lcV_mut hg hc hk R rr hf hq
theorem sd_setLcV {i : Nat} (m : Nat) (h : PS X st (tAsg (tLc (iList X.K (rdE X.K f)) t tt (rdE X.K fe) vs) (gName i))) (hg : GW X.K t g vs) (hc : ∀ σ H Q, rdT X.K c σ H Q → tt σ H Q) : SD X st (dSet i (dLcV f g c fe vs m)) :=
  sd_set ⟨fun pins s σ H D I hw => h.run pins s σ H D I (by
    obtain ⟨F, S, ρ, d, S', hk, R, rr, hf, hq⟩ := hw
    exact lcV_own hg hc hk R rr hf hq)⟩
theorem sd_setLcVM {i : Nat} (m : Nat) (h : PS X st (tAsg (tLc (iList X.K (rdE X.K f)) t tt (rdE X.K fe) vs) (gName i))) (hg : GW X.K t g vs) (hc : ∀ σ H Q, rdT X.K c σ H Q → tt σ H Q) : SD X st (dSet i (dLcVM f g c fe vs m)) :=
  sd_set ⟨fun pins s σ H D I hw => h.run pins s σ H D I (by
    obtain ⟨F, S, ρ, d, S', hk, R, rr, hf, hq⟩ := hw
    exact lcV_mut hg hc hk R rr hf hq)⟩
end
end Dn

namespace Dn
open PySem PySem.Spec PyProof.Rows L2
section
variable {X : Cx} {o value a b e : Expr} {f : Str} {pos pos' tpos : Pos} {T : ATab} {g gv : DE}
/-! ### o.f op= v -/
theorem sd_augF {op : Operator} {p : P2} {rd : V → V → Hp → VK → Prop} (hT : ATOk X.K T) (hop : InOp X op rd) (hp : Ok2 X.K p rd) (hv : ED X value gv) (ho : ED X o g) : SD X (.AugAssign (.Attribute o f tpos) op value pos) (dAugF T f p gv g) :=
  .of (ps_fldaug ho.pe hv.pe hop) fun F S H ρ σ oo D hk R rr hf hq => by
    unfold dAugF at hf
    split at hf
    · rename_i n S1 h1
      split at hf
      · rename_i C fs hi
        obtain ⟨ht, hf⟩ := of_ite hf
        split at hf
        · rename_i x hl
          split at hf
          · rename_i y S2 h2
            split at hf
            · rename_i d S3 h3
              split at hf
              · rename_i C' fs' hi'
                obtain ⟨⟨hc, hlen⟩, hf⟩ := of_ite hf
                cases hf
                subst hc
                refine rdE.go hk R rr h1 fun F1 H1 vx le1 hk1 R1 r1 rx => ?_
                obtain ⟨n', a, dx, xs, e0, hcell, ha, rfl, e, rl⟩ := insD_ok R1 rx hi
                cases e0
                obtain ⟨c1, c2⟩ := hT C' f ht
                obtain ⟨w, e1, rw_⟩ := (lookup_ok (f := f) rl).1 hl
                rw [hk1] at e
                refine ⟨a, _, dx, _, w, rfl, e, c1, c2, e1, rdE.go hk1 R1 r1 h2 fun F2 H2 vy le2 hk2 R2 r2 ry => ?_⟩
                refine hp F2 S2 H2 x y w vy d S3 _ hk2 R2 (rw_.le le2) ry h3 fun F3 H3 vd le3 R3 rd3 => ?_
                have hk3 : F3.K = X.K := le3.k.trans hk2
                obtain ⟨n2, a2, dx2, xs2, e02, hcell2, ha2, ea2, e2, rl2⟩ := insD_ok R3 (rx.le (le2.trans le3)) hi'
                cases e02
                cases ea2
                obtain ⟨ys, i1, i2⟩ := putF_ok (f := f) rd3 rl2
                have e2' := e2
                rw [hk3] at e2'
                refine ⟨dx2, _, e2', by rw [len_zip rl2]; exact hlen, hq F3 _ ((le1.trans le2).trans le3) ?_ σ (r2.le le3)⟩
                rw [i2]
                exact R3.write hcell2 rfl ha2 (fun _ q => nomatch q) rfl ⟨dx2, ys, by rw [upd_same, hk3], i1⟩
              · cases hf
            · cases hf
          · cases hf
        · cases hf
      · cases hf
    · cases hf
theorem ok_rAdd {K : PySem.W.Frag} : Ok2 K pAddI rAdd := ok_ipadd
theorem ok_rSub {K : PySem.W.Frag} : Ok2 K pSub rSub := ok_ipsub
/-! ### is, is not of truths -/
def pIsB (neg : Bool) : P2 := fun x y S => match x, y with
  | .bl a, .bl b => some (.bl (if neg then !decide (a = b) else decide (a = b)), S)
  | _, _ => none
theorem ok_isB {K : PySem.W.Frag} : Ok2 K (pIsB false) rIsB := fun F S H x y vx vy d S' Q hk R rx ry hp hq => by
  unfold pIsB at hp
  split at hp
  · cases hp
    exact ⟨_, _, rx, ry, hq F H _ (.refl F) R rfl⟩
  · cases hp
theorem ok_notB {K : PySem.W.Frag} : Ok2 K (pIsB true) rNotB := fun F S H x y vx vy d S' Q hk R rx ry hp hq => by
  unfold pIsB at hp
  split at hp
  · cases hp
    exact ⟨_, _, rx, ry, hq F H _ (.refl F) R rfl⟩
  · cases hp
variable {f1 f2 : DE}
theorem ed_isB (ha : ED X a f1) (hb : ED X b f2) : ED X (.Compare a [.Is] [b] pos) (dBin (pIsB false) f1 f2) := ed_cmp op_isBl ok_isB ha hb (nomark _)
theorem td_isB (ha : ED X a f1) (hb : ED X b f2) : TD X (.Compare a [.Is] [b] pos) (dBin (pIsB false) f1 f2) := td_cmp op_isBl ok_isB ha hb (nomark _)
theorem ed_isnotB (ha : ED X a f1) (hb : ED X b f2) : ED X (.Compare a [.IsNot] [b] pos) (dBin (pIsB true) f1 f2) := ed_cmp op_notBl ok_notB ha hb (nomark _)
theorem td_isnotB (ha : ED X a f1) (hb : ED X b f2) : TD X (.Compare a [.IsNot] [b] pos) (dBin (pIsB true) f1 f2) := td_cmp op_notBl ok_notB ha hb (nomark _)
@[simp] theorem v_isB {a b : Bool} {S : Sto} : pIsB false (.bl a) (.bl b) S = some (.bl (decide (a = b)), S) := (rfl)
@[simp] theorem v_isnotB {a b : Bool} {S : Sto} : pIsB true (.bl a) (.bl b) S = some (.bl (!decide (a = b)), S) := (rfl)
/-! ### {k: v, ..} -/
def dPairs : List (DE × DE) → Ev → Sto → Option (List (DV × DV) × Sto)
  | [], _, S => some ([], S)
  | (k, v) :: r, ρ, S => match k ρ S with
    | some (x, S1) => (match v ρ S1 with
      | some (y, S2) => (match dPairs r ρ S2 with
        | some (ps, S3) => some ((x, y) :: ps, S3)
        | none => none)
      | none => none)
    | none => none
theorem pairs_go {K : PySem.W.Frag} : ∀ {l : List (DE × DE)} {F : Fm} {S S1 : Sto} {H : Hp} {ρ : Ev} {σ : L2.St} {ps : List (DV × DV)} {Q : List (V × V) → Hp → Prop}, F.K = K → Rep F S H → RelE F ρ σ → dPairs l ρ S = some (ps, S1) →
    (∀ F' H' xs ys, Le F F' → F'.K = K → Rep F' S1 H' → RelE F' ρ σ → RelL F' (ps.map (·.1)) xs → RelL F' (ps.map (·.2)) ys → Q (xs.zip ys) H') → tPairs (l.map fun p => (rdE K p.1, rdE K p.2)) σ H Q
  | [], F, S, S1, H, ρ, σ, ps, Q, hk, R, rr, hf, k => by
    cases (show some (([] : List (DV × DV)), S) = some (ps, S1) from hf)
    exact k F H [] [] (.refl F) hk R rr rfl rfl
  | (tk, tv) :: r, F, S, S1, H, ρ, σ, ps, Q, hk, R, rr, hf, k => by
    unfold dPairs at hf
    split at hf
    · rename_i x Sa h1
      split at hf
      · rename_i y Sb h2
        split at hf
        · rename_i qs Sc h3
          cases hf
          exact rdE.go hk R rr h1 fun F1 H1 vx le1 hk1 R1 r1 rx => rdE.go hk1 R1 r1 h2 fun F2 H2 vy le2 hk2 R2 r2 ry => pairs_go hk2 R2 r2 h3 fun F3 H3 xs ys le3 hk3 R3 r3 ra rb =>
            k F3 H3 (vx :: xs) (vy :: ys) ((le1.trans le2).trans le3) hk3 R3 r3 (.cons (rx.le (le2.trans le3)) ra) (.cons (ry.le le3) rb)
        · cases hf
      · cases hf
    · cases hf
structure PpD (X : Cx) (pos : Pos) (keys : List (Option Expr)) (values : List Expr) (l : List (DE × DE)) : Prop where
  pp : PPs X pos keys values (l.map fun p => (rdE X.K p.1, rdE X.K p.2))
theorem ppd_nil : PpD X pos [] [] [] := ⟨pps_nil⟩
theorem ppd_cons {k v : Expr} {ks : List (Option Expr)} {vs : List Expr} {dk dv : DE} {l : List (DE × DE)} (hk : ED X k dk) (hv : ED X v dv) (hr : PpD X pos ks vs l) : PpD X pos (some k :: ks) (v :: vs) ((dk, dv) :: l) := ⟨pps_cons hk.pe hv.pe hr.pp⟩
def dDisp (l : List (DE × DE)) : DE := fun ρ S => match dPairs l ρ (S ++ [.dik [] []]) with
  | some (ps, S2) => (match S2[S.length]?, keysD (ps.map (·.1)) with
    | some (.dik [] []), some ks => if ks.Nodup ∧ ks.length ≤ 15 then some (.loc S.length, S2.set S.length (.dik ks (ps.map (·.2)))) else none
    | _, _ => none)
  | none => none
theorem merge_new : ∀ {more kvs : List (Key × V)}, (more.map (·.1)).Nodup → (∀ k ∈ more.map (·.1), valV kvs k = none) → mergeK kvs more = kvs ++ more
  | [], kvs, _, _ => (List.append_nil _).symm
  | (k, v) :: r, kvs, hn, hv => by
    rw [List.map_cons, List.nodup_cons] at hn
    have e : putK kvs k v = kvs ++ [(k, v)] := putK_new v (hv k (by simp))
    have ih := merge_new (more := r) (kvs := putK kvs k v) hn.2 fun j hj => by
      rw [valV_put, if_neg fun q => hn.1 (by rw [← q]; exact hj)]
      exact hv j (by rw [List.map_cons]; exact List.mem_cons_of_mem _ hj)
    show mergeK (putK kvs k v) r = _
    rw [ih, e, List.append_assoc] <;> rfl
theorem zip_kv : ∀ {ks : List Key} {ys : List V}, (ks.map kV).zip ys = (ks.zip ys).map fun kv => (kV kv.1, kv.2)
  | [], ys => by rw [List.map_nil, List.zip_nil_left, List.zip_nil_left] <;> rfl
  | k :: ks, [] => by rw [List.zip_nil_right, List.zip_nil_right] <;> rfl
  | k :: ks, y :: ys => by rw [List.map_cons, List.zip_cons_cons, List.zip_cons_cons, List.map_cons, zip_kv]
theorem keysD_len : ∀ {ds : List DV} {ks : List Key}, keysD ds = some ks → ks.length = ds.length
  | [], ks, h => by
    cases (show some ([] : List Key) = some ks from h)
    rfl
  | d :: ds, ks, h => by
    unfold keysD at h
    split at h
    · split at h
      · rename_i ks' h2
        cases h
        rw [List.length_cons, List.length_cons, keysD_len h2]
      · cases h
    · cases h
theorem ed_disp {keys : List (Option Expr)} {values : List Expr} {l : List (DE × DE)} (h : PpD X pos keys values l) (hall : keys.all (·.isSome) = true := by rfl) (hl : keys.length = values.length := by rfl) (h0 : keys ≠ [] := by exact fun q => nomatch q)
    (h15 : keys.length ≤ 15 := by decide) : ED X (.Dict keys values pos) (dDisp l) :=
  .of (pe_disp h.pp hall hl h0 h15) fun F S H ρ σ d S' Q hk R rr hf hq p hp => by
    unfold dDisp at hf
    split at hf
    · rename_i ps S2 h1
      split at hf
      · rename_i ks hc hks
        obtain ⟨⟨hnd, hle⟩, hf⟩ := of_ite hf
        cases hf
        have R' := R.alloc (o := .dK []) (c := .dik [] []) hp (fun _ q => nomatch q) ⟨[], rfl, upd_same, rfl⟩
        have le := F.cell_le p
        have hat : (F.cell p).lm[S.length]? = some p := by rw [← R.len]; exact get_len _ _
        refine pairs_go (F := F.cell p) hk R' (rr.le le) h1 fun F2 H2 xs ys le2 hk2 R2 r2 ra rb => ?_
        have ha2 : F2.lm[S.length]? = some p := prefix_get le2.m hat
        obtain ⟨⟨us, hz, e, ru⟩, _⟩ := R2.cell _ _ p hc ha2
        have e' : H2 p = some (.dK []) := by rw [e, List.zip_nil_left]
        obtain rfl := keysD_ok ra hks
        have hlen : ks.length = ys.length := by
          rw [← rb.length, List.length_map, keysD_len hks, List.length_map]
        refine ⟨e', ks.zip ys, zip_kv, by rw [List.length_zip, ← hlen, Nat.min_self]; exact hle, ?_⟩
        have hm : mergeK [] (ks.zip ys) = ks.zip ys := by
          rw [merge_new (by rw [List.map_fst_zip (by omega)]; exact hnd) fun _ _ => rfl, List.nil_append]
        rw [hm]
        refine hq F2 _ _ (le.trans le2) (R2.write hc rfl ha2 (fun _ q => nomatch q) rfl ⟨ys, ?_, upd_same, rb⟩) ⟨p, ha2, rfl⟩
        rw [List.length_map, keysD_len hks, List.length_map]
      · cases hf
    · cases hf
end
end Dn

namespace Dn
open PySem PySem.Spec PyProof.Rows L2
/-! ### objects' fields, evaluated -/
section
variable {T : ATab} {f C m : Str} {g o v e : DE} {fa : DA} {ρ : Ev} {S S0 S1 S2 : Sto} {n : Nat} {fs fs' : List (Str × DV)} {d x y : DV} {F : PL} {xs : List DV} {p : P2}
theorem fld_at (hg : g ρ S0 = some (.loc n, S)) (hS : S[n]? = some (.ins C fs)) (hT : T.contains (C, f) = true) (hl : fs.lookup f = some d) : dFld T f g ρ S0 = some (d, S) := by
  unfold dFld
  simp only [hg, insD, hS]
  rw [if_pos hT]
  simp only [hl]
theorem setF_at (hv : v ρ S0 = some (y, S1)) (hg : g ρ S1 = some (.loc n, S)) (hS : S[n]? = some (.ins C fs)) (hT : T.contains (C, f) = true) (hlen : fs.length < 1000) : dSetF T f v g ρ S0 = some (.nx ρ (S.set n (.ins C (putFD f y fs)))) := by
  unfold dSetF
  simp only [hv, hg, insD, hS]
  rw [if_pos ⟨hT, hlen⟩]
theorem augF_at (hg : g ρ S0 = some (.loc n, S)) (hS : S[n]? = some (.ins C fs)) (hT : T.contains (C, f) = true) (hl : fs.lookup f = some x) (hv : v ρ S = some (y, S1)) (hp : p x y S1 = some (d, S2)) (hS2 : S2[n]? = some (.ins C fs')) (hlen : fs'.length < 1000) :
    dAugF T f p v g ρ S0 = some (.nx ρ (S2.set n (.ins C (putFD f d fs')))) := by
  unfold dAugF
  simp only [hg, insD, hS]
  rw [if_pos hT]
  simp only [hl, hv, hp, hS2]
  rw [if_pos ⟨trivial, hlen⟩]
theorem meth_at (hg : o ρ S0 = some (.loc n, S)) (hS : S[n]? = some (.ins C fs)) (hl : fs.lookup m = none) (ha : fa ρ S = some (xs, S2)) : dMeth C m F [] o fa ρ S0 = F (.loc n :: xs) S2 := by
  unfold dMeth
  simp only [hg, insD, hS]
  rw [if_pos ⟨trivial, hl⟩]
  simp only [ha, List.append_nil]
end
section
variable {S S0 S1 S2 S3 : Sto} {n : Nat} {ks : List Key} {vs ds : List DV} {x : Str} {y d : DV} {i : Int} {j : Nat} {ρ : Ev} {f g h v o : DE}
theorem setI_dik (hS : S[n]? = some (.dik ks vs)) (hz : ks.length < 16777216) : setI (.loc n) (.str x) y S = some (S.set n (.dik (putKs ks (.inr x)) (putVs ks vs (.inr x) y))) := by
  unfold setI
  simp only [hS, keyD]
  rw [if_pos (by rw [size_eq]; exact hz)]
theorem setI_lst (hS : S[n]? = some (.lst ds)) (hi : ixN ds.length i = some j) : setI (.loc n) (.int i) y S = some (S.set n (.lst (ds.set j y))) := by
  unfold setI
  simp only [hS, hi]
theorem sub_at {k : DV} (hv : v ρ S = some (y, S1)) (ho : o ρ S1 = some (d, S2)) (hi : g ρ S2 = some (k, S3)) (hs : setI d k y S3 = some S0) : dSub v o g ρ S = some (.nx ρ S0) := by
  unfold dSub
  simp only [hv, ho, hi, hs]
theorem getD_dik (hS : S[n]? = some (.dik ks vs)) : getD S (.loc n) (.str x) = some (lkD ks vs (.inr x)) := by
  unfold getD asK keyD
  simp only [hS]
theorem getD_bor {k : LK} : getD S (.dik k ks vs) (.str x) = some (lkD ks vs (.inr x)) := (rfl)
theorem isD_dik (hS : S[n]? = some (.dik ks vs)) : isD S (.loc n) = true := by
  unfold isD asK
  simp only [hS]
  rfl
theorem get2_at (hf : f ρ S = some (y, S1)) (hd : isD S1 y = true) (hg : g ρ S1 = some (d, S2)) (hh : h ρ S2 = some (v', S3)) {o' : Option DV} (ho : getD S3 y d = some o') : dGet2 f g h ρ S = some (o'.getD v', S3) := by
  unfold dGet2
  simp only [hf, hg, hh, hd, if_true]
  rw [ho]
  cases o' <;> rfl
theorem ix_dik (hS : S[n]? = some (.dik ks vs)) (hl : lkD ks vs (.inr x) = some d) : pIx (.loc n) (.str x) S = some (d, S) := by
  show (match getD S (.loc n) (.str x) with | some (some d) => some (d, S) | _ => none) = _
  rw [getD_dik hS, hl]
theorem ix_dikB {k : LK} (hl : lkD ks vs (.inr x) = some d) : pIx (.dik k ks vs) (.str x) S = some (d, S) := by
  show (match getD S (.dik k ks vs) (.str x) with | some (some d) => some (d, S) | _ => none) = _
  rw [getD_bor, hl]
theorem cpD_dik {b : Bool} (h : S[n]? = some (.dik ks vs)) (hp : plainL vs = true) : cpD b S (.loc n) = some (.dik (bk b) ks vs) := by
  show cpN b (S.length + 1) S n = _
  unfold cpN
  simp only [h, mapDL_plain hp]
end
/-! ### dicts in plain Lean -/
def lkG {κ α : Type} [DecidableEq κ] : List κ → List α → κ → Option α
  | k :: ks, d :: ds, j => if k = j then some d else lkG ks ds j
  | _, _, _ => none
def putG {κ α : Type} [DecidableEq κ] (ks : List κ) (ds : List α) (j : κ) (x : α) : List α := if hasK ks j = true then rpG j x ks ds else ds ++ [x]
section
variable {κ α : Type} [DecidableEq κ] {f : α → DV} {j : κ} {v : α}
theorem lkD_map : ∀ {ks : List κ} {vs : List α}, lkD ks (vs.map f) j = (lkG ks vs j).map f
  | [], vs => by
    unfold lkD lkG
    rfl
  | k :: ks, [] => by
    unfold lkG
    rfl
  | k :: ks, v :: vs => by
    rw [List.map_cons]
    unfold lkD lkG
    by_cases q : k = j
    · rw [if_pos q, if_pos q] <;> rfl
    · rw [if_neg q, if_neg q]
      exact lkD_map
theorem rpG_map : ∀ {ks : List κ} {vs : List α}, rpG j (f v) ks (vs.map f) = (rpG j v ks vs).map f
  | [], vs => by
    unfold rpG
    rfl
  | k :: ks, [] => rfl
  | k :: ks, u :: vs => by
    rw [List.map_cons]
    unfold rpG
    rw [List.map_cons, rpG_map]
    by_cases q : k = j
    · rw [if_pos q, if_pos q]
    · rw [if_neg q, if_neg q]
theorem putVs_map {ks : List κ} {vs : List α} : putVs ks (vs.map f) j (f v) = (putG ks vs j v).map f := by
  unfold putVs putG
  by_cases q : hasK ks j = true
  · rw [if_pos q, if_pos q, rpG_map]
  · rw [if_neg q, if_neg q, List.map_append] <;> rfl
theorem rpG_mem {P : α → Prop} (hv : P v) : ∀ {ks : List κ} {vs : List α}, (∀ u ∈ vs, P u) → ∀ u ∈ rpG j v ks vs, P u
  | [], vs, h, u, hu => by
    unfold rpG at hu
    cases hu
  | k :: ks, [], h, u, hu => by
    cases hu
  | k :: ks, w :: vs, h, u, hu => by
    unfold rpG at hu
    rcases List.mem_cons.mp hu with e | e
    · by_cases q : k = j
      · rw [if_pos q] at e
        rw [e]
        exact hv
      · rw [if_neg q] at e
        rw [e]
        exact h w List.mem_cons_self
    · exact rpG_mem hv (fun u hu => h u (List.mem_cons_of_mem _ hu)) u e
theorem putG_mem {P : α → Prop} (hv : P v) {ks : List κ} {vs : List α} (h : ∀ u ∈ vs, P u) : ∀ u ∈ putG ks vs j v, P u := by
  unfold putG
  by_cases q : hasK ks j = true
  · rw [if_pos q]
    exact rpG_mem hv h
  · rw [if_neg q]
    intro u hu
    rcases List.mem_append.mp hu with e | e
    · exact h u e
    · rw [List.mem_singleton.mp e]
      exact hv
theorem putG_len {ks : List κ} {vs : List α} (h : ks.length = vs.length) : (putKs ks j).length = (putG ks vs j v).length := by
  unfold putKs putG
  by_cases q : hasK ks j = true
  · rw [if_pos q, if_pos q, rp_len h]
  · rw [if_neg q, if_neg q, List.length_append, List.length_append, h] <;> rfl
theorem putKs_len {ks : List κ} : (putKs ks j).length ≤ ks.length + 1 := by
  unfold putKs
  by_cases q : hasK ks j = true
  · rw [if_pos q]
    omega
  · rw [if_neg q, List.length_append] <;> simp
theorem putKs_has {ks : List κ} (h : hasK ks j = true) : putKs ks j = ks := by
  unfold putKs
  rw [if_pos h]
theorem putG_has {ks : List κ} {vs : List α} (h : hasK ks j = true) : putG ks vs j v = rpG j v ks vs := by
  unfold putG
  rw [if_pos h]
theorem lkG_mem : ∀ {ks : List κ} {vs : List α} {v : α}, lkG ks vs j = some v → v ∈ vs
  | [], vs, v, h => by
    unfold lkG at h
    cases h
  | k :: ks, [], v, h => by
    unfold lkG at h
    cases h
  | k :: ks, u :: vs, v, h => by
    unfold lkG at h
    by_cases q : k = j
    · rw [if_pos q] at h
      cases h
      exact List.mem_cons_self
    · rw [if_neg q] at h
      exact List.mem_cons_of_mem _ (lkG_mem h)
theorem lkG_has : ∀ {ks : List κ} {vs : List α}, ks.length = vs.length → hasK ks j = true → ∃ v, lkG ks vs j = some v
  | [], vs, _, h => by cases h
  | k :: ks, [], h, _ => by cases h
  | k :: ks, u :: vs, hl, h => by
    unfold lkG
    by_cases q : k = j
    · rw [if_pos q]
      exact ⟨_, rfl⟩
    · rw [if_neg q]
      refine lkG_has (Nat.succ.inj hl) ?_
      unfold hasK at h ⊢
      rw [List.any_cons, decide_eq_false q, Bool.false_or] at h
      exact h
end
/-! ### the plain machine in plain Lean -/
abbrev W40 : Int := 1099511627776
def In40 (z : Int) : Prop := 0 ≤ z ∧ z < 1099511627776
inductive Atm where
  | n (i : Int) | x (s : Str)
def Atm.d : Atm → DV
  | .n i => .int i
  | .x s => .str s
def Atm.Ok : Atm → Prop
  | .n i => In40 i
  | .x _ => True
@[simp] theorem Atm.plain_d {a : Atm} : plain a.d = true := by cases a <;> rfl
inductive PRow where
  | say (a : Atm) | copy (x : Str) (a : Atm) | op (x s : Str) (a b : Atm) | load (x c : Str) | store (c : Str) (a : Atm)
  | take (x s : Str) (a : Atm) | lay (s : Str) (a b : Atm) | hear (x : Str) | ifr (a : Atm) (n : Nat) | go (n : Nat) | endr (a : Atm)
def PRow.d : PRow → DV
  | .say a => .tup [.str "say", a.d]
  | .copy x a => .tup [.str "copy", .str x, a.d]
  | .op x s a b => .tup [.str "op", .str x, .str s, a.d, b.d]
  | .load x c => .tup [.str "load", .str x, .str c]
  | .store c a => .tup [.str "store", .str c, a.d]
  | .take x s a => .tup [.str "take", .str x, .str s, a.d]
  | .lay s a b => .tup [.str "lay", .str s, a.d, b.d]
  | .hear x => .tup [.str "hear", .str x]
  | .ifr a n => .tup [.str "if", a.d, .int n]
  | .go n => .tup [.str "go", .int n]
  | .endr a => .tup [.str "end", a.d]
theorem PRow.plain_d {r : PRow} : plain r.d = true := by cases r <;> simp [PRow.d]
def PRow.led (i : Nat) : PRow → List Nat
  | .endr _ => []
  | .go n => [n]
  | .ifr _ n => [n, i + 1]
  | _ => [i + 1]
def ledD (i : Nat) (r : PRow) : DV := .tup ((r.led i).map fun (n : Nat) => .int n)
def leadsD (rows : List PRow) : List DV := rows.mapIdx ledD
def isSign (s : Str) : Prop := s = "+" ∨ s = "-" ∨ s = "*" ∨ s = "<" ∨ s = "=" ∨ s = "&" ∨ s = "|" ∨ s = "^"
def valS (s : Str) (a b : Int) : Int := if s = "+" then (a + b) % W40 else if s = "-" then (a - b) % W40 else if s = "*" then a * b % W40 else
  if s = "<" then (if a < b then 1 else 0) else if s = "=" then (if a = b then 1 else 0) else if s = "&" then Builtin.bitAnd a b else if s = "|" then Builtin.bitOr a b else Builtin.bitXor a b
theorem bits40 {a b : Int} (ha : In40 a) (hb : In40 b) : In40 (Builtin.bitAnd a b) ∧ In40 (Builtin.bitOr a b) ∧ In40 (Builtin.bitXor a b) := by
  obtain ⟨a0, a1⟩ := ha
  obtain ⟨b0, b1⟩ := hb
  have h1 : a.toNat < 2 ^ 40 := by omega
  have h2 : b.toNat < 2 ^ 40 := by omega
  rw [bitAnd_pp a0 b0, Bits.bitOr_pp a0 b0, Bits.bitXor_pp a0 b0]
  have k1 := Nat.and_lt_two_pow a.toNat h2
  have k2 := Nat.or_lt_two_pow h1 h2
  have k3 := Nat.xor_lt_two_pow h1 h2
  unfold In40
  refine ⟨⟨?_, ?_⟩, ⟨?_, ?_⟩, ⟨?_, ?_⟩⟩ <;> omega
theorem valS_40 {s : Str} {a b : Int} (ha : In40 a) (hb : In40 b) : In40 (valS s a b) := by
  obtain ⟨k1, k2, k3⟩ := bits40 ha hb
  have m : ∀ z : Int, In40 (z % W40) := fun z => ⟨Int.emod_nonneg _ (by decide), Int.emod_lt_of_pos _ (by decide)⟩
  unfold valS
  repeat' split
  all_goals first
    | exact m _
    | exact k1
    | exact k2
    | exact k3
    | exact ⟨by decide, by decide⟩
structure PSt where
  at_ : Nat
  done : Nat
  hears : Nat
  res : Option Int
  hk : List Key
  hv : List Int
  ck : List Key
  cv : List Int
  sk : List Key
  sv : List (List Int)
  gone : List Int
def optI : Option Int → DV
  | none => .non
  | some v => .int v
def PSt.worth (st : PSt) : Atm → Int
  | .n i => i
  | .x s => (lkG st.hk st.hv (.inr s)).getD 0
def PSt.out (st : PSt) (x : Str) (v : Int) : PSt := { st with hk := putKs st.hk (.inr x), hv := putG st.hk st.hv (.inr x) v }
def PSt.cell (st : PSt) (c : Str) : Int := (lkG st.ck st.cv (.inr c)).getD 0
def PSt.shelf (st : PSt) (s : Str) : List Int := (lkG st.sk st.sv (.inr s)).getD [0]
def placeN (l : List Int) (v : Int) : Nat := (v % (l.length : Int)).toNat
/-- a row done, but for where it leads -/
def PSt.does (coming : List Int) (st : PSt) : PRow → PSt
  | .say a => { st with gone := st.gone ++ [st.worth a] }
  | .copy x a => st.out x (st.worth a)
  | .op x s a b => st.out x (valS s (st.worth a) (st.worth b))
  | .load x c => st.out x (st.cell c)
  | .store c a => { st with cv := rpG (.inr c) (st.worth a) st.ck st.cv }
  | .take x s a => st.out x ((st.shelf s).getD (placeN (st.shelf s) (st.worth a)) 0)
  | .lay s a b => { st with sv := rpG (.inr s) ((st.shelf s).set (placeN (st.shelf s) (st.worth a)) (st.worth b)) st.sk st.sv }
  | .hear x => { st.out x (coming.getD st.hears 0) with hears := st.hears + 1 }
  | .ifr _ _ => st
  | .go _ => st
  | .endr a => { st with res := some (st.worth a) }
def PSt.next (st : PSt) : PRow → Nat
  | .ifr a n => if st.worth a = 0 then st.at_ + 1 else n
  | .go n => n
  | .endr _ => st.at_
  | _ => st.at_ + 1
def PSt.step (rows : List PRow) (coming : List Int) (st : PSt) : PSt := match st.res with
  | some _ => st
  | none => match rows[st.at_]? with
    | none => st
    | some r => { st.does coming r with done := st.done + 1, at_ := st.next r }
def PRow.Ok (ck sk : List Key) : PRow → Prop
  | .say a => a.Ok
  | .copy _ a => a.Ok
  | .op _ s a b => isSign s ∧ a.Ok ∧ b.Ok
  | .load _ c => hasK ck (.inr c) = true
  | .store c a => hasK ck (.inr c) = true ∧ a.Ok
  | .take _ s a => hasK sk (.inr s) = true ∧ a.Ok
  | .lay s a b => hasK sk (.inr s) = true ∧ a.Ok ∧ b.Ok
  | .hear _ => True
  | .ifr a _ => a.Ok
  | .go _ => True
  | .endr a => a.Ok
structure PSt.Ok (st : PSt) : Prop where
  hl : st.hk.length = st.hv.length
  hr : ∀ v ∈ st.hv, In40 v
  cl : st.ck.length = st.cv.length
  cr : ∀ v ∈ st.cv, In40 v
  sl : st.sk.length = st.sv.length
  sr : ∀ l ∈ st.sv, l ≠ [] ∧ l.length ≤ 1000 ∧ ∀ v ∈ l, In40 v
  hd : st.hk.length ≤ st.done
  gd : st.gone.length ≤ st.done
theorem in0 : In40 0 := ⟨by decide, by decide⟩
theorem PSt.Ok.worth {st : PSt} (O : st.Ok) {a : Atm} (h : a.Ok) : In40 (st.worth a) := by
  cases a with
  | n i => exact h
  | x s =>
    show In40 ((lkG st.hk st.hv (.inr s)).getD 0)
    cases e : lkG st.hk st.hv (.inr s) with
    | none => exact in0
    | some v => exact O.hr v (lkG_mem e)
theorem PSt.Ok.shelf {st : PSt} (O : st.Ok) {s : Str} (h : hasK st.sk (.inr s) = true) : lkG st.sk st.sv (.inr s) = some (st.shelf s) ∧ st.shelf s ≠ [] ∧ (st.shelf s).length ≤ 1000 ∧ ∀ v ∈ st.shelf s, In40 v := by
  obtain ⟨l, e⟩ := lkG_has O.sl h
  have e2 : st.shelf s = l := by
    unfold PSt.shelf
    rw [e]
    rfl
  rw [e2]
  exact ⟨e, O.sr l (lkG_mem e)⟩
theorem PSt.Ok.cell {st : PSt} (O : st.Ok) {c : Str} (h : hasK st.ck (.inr c) = true) : lkG st.ck st.cv (.inr c) = some (st.cell c) ∧ In40 (st.cell c) := by
  obtain ⟨l, e⟩ := lkG_has O.cl h
  have e2 : st.cell c = l := by
    unfold PSt.cell
    rw [e]
    rfl
  rw [e2]
  exact ⟨e, O.cr l (lkG_mem e)⟩
theorem PSt.Ok.out {st : PSt} (O : st.Ok) {x : Str} {v : Int} (hv : In40 v) {d : Nat} (hd : st.done + 1 ≤ d) {h : Nat} {a : Nat} {r : Option Int} : PSt.Ok { st.out x v with done := d, hears := h, at_ := a, res := r } :=
  ⟨putG_len O.hl, putG_mem hv O.hr, O.cl, O.cr, O.sl, O.sr, by
    have h1 : (putKs st.hk (Sum.inr x : Key)).length ≤ st.hk.length + 1 := putKs_len
    have h2 := O.hd
    show (putKs st.hk (Sum.inr x : Key)).length ≤ d
    omega, by
    have h2 := O.gd
    show st.gone.length ≤ d
    omega⟩
theorem placeN_lt {l : List Int} (h : l ≠ []) (v : Int) : placeN l v < l.length := by
  have h1 : 0 < l.length := List.length_pos_iff.mpr h
  have h2 := Int.emod_lt_of_pos v (b := (l.length : Int)) (by omega)
  have h3 := Int.emod_nonneg v (b := (l.length : Int)) (by omega)
  unfold placeN
  omega
theorem PSt.Ok.step {st : PSt} (O : st.Ok) {rows : List PRow} {coming : List Int} (hc : ∀ v ∈ coming, In40 v) (hr : ∀ r ∈ rows, r.Ok st.ck st.sk) : (st.step rows coming).Ok ∧ (st.step rows coming).ck = st.ck ∧ (st.step rows coming).sk = st.sk := by
  unfold PSt.step
  cases e : st.res with
  | some v => exact ⟨O, rfl, rfl⟩
  | none =>
    cases e2 : rows[st.at_]? with
    | none => exact ⟨O, rfl, rfl⟩
    | some r =>
      have hok := hr r (List.mem_of_getElem? e2)
      have hd := O.hd
      have gd := O.gd
      cases r with
      | say a => exact ⟨⟨O.hl, O.hr, O.cl, O.cr, O.sl, O.sr, Nat.le_succ_of_le hd, by simp [PSt.does]; omega⟩, rfl, rfl⟩
      | copy x a => exact ⟨O.out (O.worth hok) (Nat.le_refl _), rfl, rfl⟩
      | op x s a b => exact ⟨O.out (valS_40 (O.worth hok.2.1) (O.worth hok.2.2)) (Nat.le_refl _), rfl, rfl⟩
      | load x c => exact ⟨O.out (O.cell hok).2 (Nat.le_refl _), rfl, rfl⟩
      | store c a => exact ⟨⟨O.hl, O.hr, (O.cl.trans ((rp_len O.cl).trans O.cl).symm), rpG_mem (O.worth hok.2) O.cr, O.sl, O.sr, Nat.le_succ_of_le hd, Nat.le_succ_of_le gd⟩, rfl, rfl⟩
      | take x s a =>
        obtain ⟨_, s1, _, s2⟩ := O.shelf hok.1
        refine ⟨O.out ?_ (Nat.le_refl _), rfl, rfl⟩
        have hlt := placeN_lt s1 (st.worth a)
        rw [List.getD_eq_getElem?_getD, List.getElem?_eq_getElem hlt]
        exact s2 _ (List.getElem_mem hlt)
      | lay s a b =>
        obtain ⟨_, s1, s3, s2⟩ := O.shelf hok.1
        refine ⟨⟨O.hl, O.hr, O.cl, O.cr, (O.sl.trans ((rp_len O.sl).trans O.sl).symm), rpG_mem (P := fun l => l ≠ [] ∧ l.length ≤ 1000 ∧ ∀ v ∈ l, In40 v) ⟨?_, by rw [List.length_set]; exact s3, fun v hv => ?_⟩ O.sr, Nat.le_succ_of_le hd, Nat.le_succ_of_le gd⟩, rfl, rfl⟩
        · exact fun q => s1 (by simpa using q)
        · rcases List.mem_or_eq_of_mem_set hv with h | h
          · exact s2 v h
          · rw [h]
            exact O.worth hok.2.2
      | hear x =>
        refine ⟨O.out ?_ (Nat.le_refl _), rfl, rfl⟩
        rw [List.getD_eq_getElem?_getD]
        cases e3 : coming[st.hears]? with
        | none => exact in0
        | some v => exact hc v (List.mem_of_getElem? e3)
      | ifr a n => exact ⟨⟨O.hl, O.hr, O.cl, O.cr, O.sl, O.sr, Nat.le_succ_of_le hd, Nat.le_succ_of_le gd⟩, rfl, rfl⟩
      | go n => exact ⟨⟨O.hl, O.hr, O.cl, O.cr, O.sl, O.sr, Nat.le_succ_of_le hd, Nat.le_succ_of_le gd⟩, rfl, rfl⟩
      | endr a => exact ⟨⟨O.hl, O.hr, O.cl, O.cr, O.sl, O.sr, Nat.le_succ_of_le hd, Nat.le_succ_of_le gd⟩, rfl, rfl⟩
end Dn

namespace Dn
open PySem PySem.Spec PyProof.Rows L2
/-! ### tuples' places -/
section
variable {a b c d e x : DV} {S : Sto} {s t u y : Str}
@[simp] theorem ix_t1_0 : pIx (.tup [a]) (.int 0) S = some (a, S) := (rfl)
@[simp] theorem ix_t2_0 : pIx (.tup [a, b]) (.int 0) S = some (a, S) := (rfl)
@[simp] theorem ix_t2_1 : pIx (.tup [a, b]) (.int 1) S = some (b, S) := (rfl)
@[simp] theorem ix_t3_0 : pIx (.tup [a, b, c]) (.int 0) S = some (a, S) := (rfl)
@[simp] theorem ix_t3_1 : pIx (.tup [a, b, c]) (.int 1) S = some (b, S) := (rfl)
@[simp] theorem ix_t3_2 : pIx (.tup [a, b, c]) (.int 2) S = some (c, S) := (rfl)
@[simp] theorem ix_t4_0 : pIx (.tup [a, b, c, d]) (.int 0) S = some (a, S) := (rfl)
@[simp] theorem ix_t4_1 : pIx (.tup [a, b, c, d]) (.int 1) S = some (b, S) := (rfl)
@[simp] theorem ix_t4_2 : pIx (.tup [a, b, c, d]) (.int 2) S = some (c, S) := (rfl)
@[simp] theorem ix_t4_3 : pIx (.tup [a, b, c, d]) (.int 3) S = some (d, S) := (rfl)
@[simp] theorem ix_t5_0 : pIx (.tup [a, b, c, d, e]) (.int 0) S = some (a, S) := (rfl)
@[simp] theorem ix_t5_1 : pIx (.tup [a, b, c, d, e]) (.int 1) S = some (b, S) := (rfl)
@[simp] theorem ix_t5_2 : pIx (.tup [a, b, c, d, e]) (.int 2) S = some (c, S) := (rfl)
@[simp] theorem ix_t5_3 : pIx (.tup [a, b, c, d, e]) (.int 3) S = some (d, S) := (rfl)
@[simp] theorem ix_t5_4 : pIx (.tup [a, b, c, d, e]) (.int 4) S = some (e, S) := (rfl)
theorem eqF_str : eqF (.str s) (.str y) = decide (s = y) := by
  show (s == y) = _
  by_cases q : s = y
  · rw [q]
    simp
  · rw [decide_eq_false q]
    simpa using q
@[simp] theorem in_t3 : pIn false (.str y) (.tup [.str s, .str t, .str u]) S = some (.bl (decide (s = y) || (decide (t = y) || decide (u = y))), S) := by
  unfold pIn
  simp [inD, eqF_str, flD]
end
/-! ### the plain machine in the store -/
structure PLoc where
  o : Nat
  l : Nat
  c : Nat
  h : Nat
  ce : Nat
  p : Nat
  g : Nat
  ss : List Nat
def PLoc.fp (L : PLoc) : List Nat := L.o :: L.l :: L.c :: L.h :: L.ce :: L.p :: L.g :: L.ss
def plF (rows : List PRow) (L : PLoc) (st : PSt) : List (Str × DV) :=
  [("rows", .tup (rows.map PRow.d)), ("leads", .loc L.l), ("coming", .loc L.c), ("at", .int st.at_), ("held", .loc L.h), ("cells", .loc L.ce), ("places", .loc L.p), ("gone", .loc L.g), ("hears", .int st.hears), ("done", .int st.done), ("result", optI st.res)]
structure PlAt (S : Sto) (L : PLoc) (rows : List PRow) (coming : List Int) (st : PSt) : Prop where
  o : S[L.o]? = some (.ins "Plain" (plF rows L st))
  l : S[L.l]? = some (.lst (leadsD rows))
  c : S[L.c]? = some (.lst (coming.map .int))
  h : S[L.h]? = some (.dik st.hk (st.hv.map .int))
  ce : S[L.ce]? = some (.dik st.ck (st.cv.map .int))
  p : S[L.p]? = some (.dik st.sk (L.ss.map .loc))
  g : S[L.g]? = some (.lst (st.gone.map .int))
  s : ∀ (i : Nat) (l : List Int), st.sv[i]? = some l → ∃ n : Nat, L.ss[i]? = some n ∧ S[n]? = some (Cell.lst (l.map DV.int))
  sl : L.ss.length = st.sv.length
  sk : st.sk.Nodup
  skl : st.sk.length = st.sv.length
  nd : L.fp.Nodup
/-- what else is in the store stays -/
def Fr (L : PLoc) (S S1 : Sto) : Prop := S1.length = S.length ∧ ∀ i, i ∉ L.fp → S1[i]? = S[i]?
theorem Fr.refl {L : PLoc} {S : Sto} : Fr L S S := ⟨rfl, fun _ _ => rfl⟩
theorem Fr.trans {L : PLoc} {S S1 S2 : Sto} (a : Fr L S S1) (b : Fr L S1 S2) : Fr L S S2 := ⟨b.1.trans a.1, fun i h => (b.2 i h).trans (a.2 i h)⟩
theorem Fr.set {L : PLoc} {S : Sto} {n : Nat} {c : Cell} (h : n ∈ L.fp) : Fr L S (S.set n c) := ⟨List.length_set, fun i hi => List.getElem?_set_ne fun q => hi (by rw [← q]; exact h)⟩
section
variable {S S' : Sto} {L : PLoc} {rows : List PRow} {coming : List Int} {st : PSt}
theorem PlAt.ext (A : PlAt S L rows coming st) (e : ∀ i, i ∈ L.fp → S'[i]? = S[i]?) : PlAt S' L rows coming st := by
  have m : ∀ n ∈ L.ss, n ∈ L.fp := fun n h => by simp [PLoc.fp, h]
  refine ⟨?_, ?_, ?_, ?_, ?_, ?_, ?_, fun i l hl => ?_, A.sl, A.sk, A.skl, A.nd⟩
  · rw [e _ (by simp [PLoc.fp])]; exact A.o
  · rw [e _ (by simp [PLoc.fp])]; exact A.l
  · rw [e _ (by simp [PLoc.fp])]; exact A.c
  · rw [e _ (by simp [PLoc.fp])]; exact A.h
  · rw [e _ (by simp [PLoc.fp])]; exact A.ce
  · rw [e _ (by simp [PLoc.fp])]; exact A.p
  · rw [e _ (by simp [PLoc.fp])]; exact A.g
  · obtain ⟨n, h1, h2⟩ := A.s i l hl
    exact ⟨n, h1, by rw [e _ (m n (List.mem_of_getElem? h1))]; exact h2⟩
theorem PlAt.app {T : Sto} (A : PlAt S L rows coming st) : PlAt (S ++ T) L rows coming st := by
  have m : ∀ {n : Nat} {c : Cell}, S[n]? = some c → (S ++ T)[n]? = some c := fun {n c} h => by
    rw [List.getElem?_append_left (List.getElem?_eq_some_iff.mp h).1]
    exact h
  refine ⟨m A.o, m A.l, m A.c, m A.h, m A.ce, m A.p, m A.g, fun i l hl => ?_, A.sl, A.sk, A.skl, A.nd⟩
  obtain ⟨n, h1, h2⟩ := A.s i l hl
  exact ⟨n, h1, m h2⟩
theorem PlAt.setO (A : PlAt S L rows coming st) (a d h : Nat) (r : Option Int) : PlAt (S.set L.o (.ins "Plain" (plF rows L { st with at_ := a, done := d, hears := h, res := r }))) L rows coming { st with at_ := a, done := d, hears := h, res := r } := by
  have nd := A.nd
  simp only [PLoc.fp, List.nodup_cons, List.mem_cons, not_or] at nd
  obtain ⟨⟨n1, n2, n3, n4, n5, n6, n7⟩, _⟩ := nd
  refine ⟨List.getElem?_set_self (get_lt A.o), ?_, ?_, ?_, ?_, ?_, ?_, fun i l hl => ?_, A.sl, A.sk, A.skl, A.nd⟩
  · rw [List.getElem?_set_ne n1]; exact A.l
  · rw [List.getElem?_set_ne n2]; exact A.c
  · rw [List.getElem?_set_ne n3]; exact A.h
  · rw [List.getElem?_set_ne n4]; exact A.ce
  · rw [List.getElem?_set_ne n5]; exact A.p
  · rw [List.getElem?_set_ne n6]; exact A.g
  · obtain ⟨n, h1, h2⟩ := A.s i l hl
    exact ⟨n, h1, by rw [List.getElem?_set_ne fun q => n7 (by rw [q]; exact List.mem_of_getElem? h1)]; exact h2⟩
theorem PlAt.setH (A : PlAt S L rows coming st) (ks : List Key) (vs : List Int) : PlAt (S.set L.h (.dik ks (vs.map .int))) L rows coming { st with hk := ks, hv := vs } := by
  have nd := A.nd
  simp only [PLoc.fp, List.nodup_cons, List.mem_cons, not_or] at nd
  obtain ⟨⟨n1, n2, n3, n4, n5, n6, n7⟩, ⟨l1, l2, l3, l4, l5, l6⟩, ⟨c1, c2, c3, c4, c5⟩, ⟨h1, h2, h3, h4⟩, _⟩ := nd
  refine ⟨?_, ?_, ?_, List.getElem?_set_self (get_lt A.h), ?_, ?_, ?_, fun i l hl => ?_, A.sl, A.sk, A.skl, A.nd⟩
  · rw [List.getElem?_set_ne (Ne.symm n3)]; exact A.o
  · rw [List.getElem?_set_ne (Ne.symm l2)]; exact A.l
  · rw [List.getElem?_set_ne (Ne.symm c1)]; exact A.c
  · rw [List.getElem?_set_ne h1]; exact A.ce
  · rw [List.getElem?_set_ne h2]; exact A.p
  · rw [List.getElem?_set_ne h3]; exact A.g
  · obtain ⟨n, k1, k2⟩ := A.s i l hl
    exact ⟨n, k1, by rw [List.getElem?_set_ne fun q => h4 (by rw [q]; exact List.mem_of_getElem? k1)]; exact k2⟩
theorem PlAt.setC (A : PlAt S L rows coming st) (vs : List Int) : PlAt (S.set L.ce (.dik st.ck (vs.map .int))) L rows coming { st with cv := vs } := by
  have nd := A.nd
  simp only [PLoc.fp, List.nodup_cons, List.mem_cons, not_or] at nd
  obtain ⟨⟨n1, n2, n3, n4, n5, n6, n7⟩, ⟨l1, l2, l3, l4, l5, l6⟩, ⟨c1, c2, c3, c4, c5⟩, ⟨h1, h2, h3, h4⟩, ⟨e1, e2, e3⟩, _⟩ := nd
  refine ⟨?_, ?_, ?_, ?_, List.getElem?_set_self (get_lt A.ce), ?_, ?_, fun i l hl => ?_, A.sl, A.sk, A.skl, A.nd⟩
  · rw [List.getElem?_set_ne (Ne.symm n4)]; exact A.o
  · rw [List.getElem?_set_ne (Ne.symm l3)]; exact A.l
  · rw [List.getElem?_set_ne (Ne.symm c2)]; exact A.c
  · rw [List.getElem?_set_ne (Ne.symm h1)]; exact A.h
  · rw [List.getElem?_set_ne e1]; exact A.p
  · rw [List.getElem?_set_ne e2]; exact A.g
  · obtain ⟨n, k1, k2⟩ := A.s i l hl
    exact ⟨n, k1, by rw [List.getElem?_set_ne fun q => e3 (by rw [q]; exact List.mem_of_getElem? k1)]; exact k2⟩
theorem PlAt.setG (A : PlAt S L rows coming st) (vs : List Int) : PlAt (S.set L.g (.lst (vs.map .int))) L rows coming { st with gone := vs } := by
  have nd := A.nd
  simp only [PLoc.fp, List.nodup_cons, List.mem_cons, not_or] at nd
  obtain ⟨⟨n1, n2, n3, n4, n5, n6, n7⟩, ⟨l1, l2, l3, l4, l5, l6⟩, ⟨c1, c2, c3, c4, c5⟩, ⟨h1, h2, h3, h4⟩, ⟨e1, e2, e3⟩, ⟨p1, p2⟩, g1, _⟩ := nd
  refine ⟨?_, ?_, ?_, ?_, ?_, ?_, List.getElem?_set_self (get_lt A.g), fun i l hl => ?_, A.sl, A.sk, A.skl, A.nd⟩
  · rw [List.getElem?_set_ne (Ne.symm n6)]; exact A.o
  · rw [List.getElem?_set_ne (Ne.symm l5)]; exact A.l
  · rw [List.getElem?_set_ne (Ne.symm c4)]; exact A.c
  · rw [List.getElem?_set_ne (Ne.symm h3)]; exact A.h
  · rw [List.getElem?_set_ne (Ne.symm e2)]; exact A.ce
  · rw [List.getElem?_set_ne (Ne.symm p1)]; exact A.p
  · obtain ⟨n, k1, k2⟩ := A.s i l hl
    exact ⟨n, k1, by rw [List.getElem?_set_ne fun q => g1 (by rw [q]; exact List.mem_of_getElem? k1)]; exact k2⟩
theorem rpG_get {κ α : Type} [DecidableEq κ] {j : κ} {v : α} : ∀ {ks : List κ} {vs : List α} {i : Nat}, (rpG j v ks vs : List α)[i]? = match ks[i]?, vs[i]? with
    | some k, some u => some (if k = j then v else u)
    | _, _ => none
  | [], vs, i => by
    unfold rpG
    simp
  | k :: ks, [], i => by
    unfold rpG
    cases h : (k :: ks)[i]? <;> simp
  | k :: ks, u :: vs, 0 => by
    unfold rpG
    rfl
  | k :: ks, u :: vs, i + 1 => by
    unfold rpG
    rw [List.getElem?_cons_succ, List.getElem?_cons_succ, List.getElem?_cons_succ, rpG_get]
theorem lkG_ix {κ α : Type} [DecidableEq κ] {j : κ} {v : α} : ∀ {ks : List κ} {vs : List α}, lkG ks vs j = some v → ∃ i : Nat, ks[i]? = some j ∧ vs[i]? = some v ∧ ∀ {β : Type} {us : List β} {u : β}, us[i]? = some u → lkG ks us j = some u
  | [], vs, h => by
    unfold lkG at h
    cases h
  | k :: ks, [], h => by
    unfold lkG at h
    cases h
  | k :: ks, w :: vs, h => by
    unfold lkG at h
    by_cases q : k = j
    · rw [if_pos q] at h
      refine ⟨0, by rw [← q] <;> rfl, h, fun {β us u} hu => ?_⟩
      cases us with
      | nil => cases hu
      | cons x us =>
        unfold lkG
        rw [if_pos q]
        exact hu
    · rw [if_neg q] at h
      obtain ⟨i, h1, h2, h3⟩ := lkG_ix h
      refine ⟨i + 1, h1, h2, fun {β us u} hu => ?_⟩
      cases us with
      | nil => cases hu
      | cons x us =>
        unfold lkG
        rw [if_neg q]
        exact h3 hu
theorem nodup_ix {α : Type} {a : α} : ∀ {l : List α} {i j : Nat}, l.Nodup → l[i]? = some a → l[j]? = some a → i = j
  | [], i, j, _, h, _ => by simp at h
  | x :: l, 0, 0, _, _, _ => rfl
  | x :: l, 0, j + 1, n, h, h2 => by
    rw [List.nodup_cons] at n
    have e : x = a := by simpa using h
    exact absurd (List.mem_of_getElem? (by simpa using h2)) (by rw [← e]; exact n.1)
  | x :: l, i + 1, 0, n, h, h2 => by
    rw [List.nodup_cons] at n
    have e : x = a := by simpa using h2
    exact absurd (List.mem_of_getElem? (by simpa using h)) (by rw [← e]; exact n.1)
  | x :: l, i + 1, j + 1, n, h, h2 => by
    rw [List.nodup_cons] at n
    have h' : l[i]? = some a := by simpa using h
    have h2' : l[j]? = some a := by simpa using h2
    exact congrArg (· + 1) (nodup_ix n.2 h' h2')
/-- where a shelf's places are -/
theorem PlAt.shelf (A : PlAt S L rows coming st) {s : Str} {l : List Int} (h : lkG st.sk st.sv (.inr s) = some l) : ∃ n : Nat, n ∈ L.fp ∧ lkD st.sk (L.ss.map .loc) (.inr s) = some (.loc n) ∧ S[n]? = some (Cell.lst (l.map DV.int)) ∧
    ∀ l', PlAt (S.set n (.lst (l'.map .int))) L rows coming { st with sv := rpG (.inr s) l' st.sk st.sv } := by
  obtain ⟨i, h1, h2, h3⟩ := lkG_ix h
  obtain ⟨n, h4, h5⟩ := A.s i l h2
  have hm : n ∈ L.ss := List.mem_of_getElem? h4
  have nd := A.nd
  simp only [PLoc.fp, List.nodup_cons, List.mem_cons, not_or] at nd
  obtain ⟨⟨n1, n2, n3, n4, n5, n6, n7⟩, ⟨l1, l2, l3, l4, l5, l6⟩, ⟨c1, c2, c3, c4, c5⟩, ⟨k1, k2, k3, k4⟩, ⟨e1, e2, e3⟩, ⟨p1, p2⟩, g1, ns⟩ := nd
  refine ⟨n, by simp [PLoc.fp, hm], by rw [lkD_map, h3 h4] <;> rfl, h5, fun l' => ⟨?_, ?_, ?_, ?_, ?_, ?_, ?_, fun i' u hu => ?_, ?_, A.sk, ?_, A.nd⟩⟩
  · rw [List.getElem?_set_ne fun q => n7 (by rw [← q]; exact hm)]; exact A.o
  · rw [List.getElem?_set_ne fun q => l6 (by rw [← q]; exact hm)]; exact A.l
  · rw [List.getElem?_set_ne fun q => c5 (by rw [← q]; exact hm)]; exact A.c
  · rw [List.getElem?_set_ne fun q => k4 (by rw [← q]; exact hm)]; exact A.h
  · rw [List.getElem?_set_ne fun q => e3 (by rw [← q]; exact hm)]; exact A.ce
  · rw [List.getElem?_set_ne fun q => p2 (by rw [← q]; exact hm)]; exact A.p
  · rw [List.getElem?_set_ne fun q => g1 (by rw [← q]; exact hm)]; exact A.g
  · have hu' : (rpG (Sum.inr s : Key) l' st.sk st.sv)[i']? = some u := hu
    rw [rpG_get] at hu'
    cases e1 : st.sk[i']? with
    | none =>
      rw [e1] at hu'
      cases hu'
    | some k =>
      cases e2 : st.sv[i']? with
      | none =>
        rw [e1, e2] at hu'
        cases hu'
      | some w =>
        rw [e1, e2] at hu'
        cases hu'
        obtain ⟨m, m1, m2⟩ := A.s i' w e2
        by_cases q : k = Sum.inr s
        · have ii : i' = i := by
            exact nodup_ix A.sk (by rw [e1, q]) h1
          subst ii
          rw [if_pos q]
          exact ⟨n, h4, List.getElem?_set_self (get_lt h5)⟩
        · rw [if_neg q]
          refine ⟨m, m1, ?_⟩
          rw [List.getElem?_set_ne]
          · exact m2
          · intro qq
            subst qq
            have : i' = i := nodup_ix ns m1 h4
            subst this
            rw [e1] at h1
            exact q (Option.some.inj h1)
  · show L.ss.length = (rpG (Sum.inr s : Key) l' st.sk st.sv).length
    rw [rp_len A.skl, A.sl, A.skl]
  · show st.sk.length = (rpG (Sum.inr s : Key) l' st.sk st.sv).length
    rw [rp_len A.skl]
end
end Dn

/-! loops over the keys of a live dict: it is locked while it is walked -/
namespace Dn
open PySem PySem.Spec PyProof.Rows L2
def notLok : Cell → Bool
  | .lok _ _ => false
  | _ => true
def unlockS (n : Nat) (S : Sto) : Option Sto := match S[n]? with
  | some (.lok ks ds) => if (S.set n .gone).all notLok = true then some (S.set n (.dik ks ds)) else none
  | _ => none
def unlockO (n : Nat) : Out → Option Out
  | .nx ρ S => (match unlockS n S with | some S' => some (.nx ρ S') | none => none)
  | .rt d S => (match unlockS n S with | some S' => some (.rt d S') | none => none)
  | .bk ρ S => (match unlockS n S with | some S' => some (.bk ρ S') | none => none)
  | .ct ρ S => (match unlockS n S with | some S' => some (.ct ρ S') | none => none)
def iKeyL (f : DE) : DI := fun ρ S => match f ρ S with
  | some (.loc n, S1) => (match S1[n]? with
    | some (.lok ks _) => some (ks.map kdv, S1)
    | _ => none)
  | _ => none
theorem walks_keys {F : Fm} {a : Addr} {o : Obj} {ks : List Key} {xs : List V} (h : F.P a = some (.frz o (.dK (ks.zip xs)))) (hl : ks.length = xs.length) : Walks (Itk a o (ks.zip xs)) F (ks.map kdv) := fun i F' S H w pf R => by
  have e : H a = some (.frz o (.dK (ks.zip xs))) := R.p _ _ (pf _ _ _ h)
  have hz : (ks.zip xs).length = ks.length := by rw [List.length_zip, ← hl, Nat.min_self]
  refine ⟨fun hi => ⟨e, by rw [hz]; rw [List.length_map] at hi; omega⟩, fun d hd => ?_⟩
  have hlt := (List.getElem?_eq_some_iff.mp hd).1
  rw [List.length_map] at hlt
  refine ⟨⟨e, by rw [hz]; exact hlt⟩, fun x H' y => ?_⟩
  obtain ⟨rfl, k, v, h1, rfl⟩ := y
  refine ⟨F', .refl F', R, ?_⟩
  rw [List.getElem?_map] at hd
  have h2 : ks[i]? = some k := by
    have := congrArg (Option.map Prod.fst) h1
    rw [← List.getElem?_map, List.map_fst_zip (by omega)] at this
    exact this
  rw [h2] at hd
  cases hd
  cases k with
  | inl i => exact (rfl : kV (.inl i) = .int i)
  | inr s => exact (rfl : kV (.inr s) = .str s)
section
variable {X : Cx} {e : Expr} {f : DE} {st : Stmt}
theorem id_keyL {tg : Expr} (h : ED X e f) : ID X tg e (iKeyL f) :=
  .of (pi_keys h.pe) fun F S H ρ σ ds S' Q hk R rr hf hq => by
    unfold iKeyL at hf
    split at hf
    · rename_i n S1 h1
      split at hf
      · rename_i ks ds0 hc
        cases hf
        refine rdE.go hk R rr h1 fun F1 H1 v le hk1 R1 r1 rv => ?_
        obtain ⟨a, ha, rfl⟩ := rv
        obtain ⟨⟨o, xs, hz, eP, rl⟩, _⟩ := R1.cell n _ a hc ha
        exact ⟨a, o, rfl, .inl ⟨_, R1.p _ _ eP, hq _ F1 H1 le R1 (walks_keys eP (hz.trans rl.length))⟩⟩
      · cases hf
    · cases hf
/-- a dict's cell is locked -/
theorem Rep.lock {F : Fm} {S : Sto} {H : Hp} (R : Rep F S H) {n : Nat} {ks : List Key} {ds : List DV} {a : Addr} (h : S[n]? = some (.dik ks ds)) (ha : F.lm[n]? = some a) {u : HO} (hu : H a = some u) (od : Obj) (hd : ∃ xs, ks.length = ds.length ∧ u = .dK (ks.zip xs) ∧ RelL F ds xs) :
    Rep { F with P := upd F.P a (.frz od u) } (S.set n (.lok ks ds)) (upd H a (.frz od u)) := by
  obtain ⟨k1, k2⟩ := R.cell n _ a h ha
  obtain ⟨ga, ba, pa⟩ := k2 rfl
  have hlt := (List.getElem?_eq_some_iff.mp h).1
  have wk : Wk F { F with P := upd F.P a (.frz od u) } := ⟨rfl, Same.refl _, Same.refl _, List.prefix_refl _⟩
  have pf : PF F { F with P := upd F.P a (.frz od u) } := fun b o w e => by
    show upd F.P a (.frz od u) b = _
    rw [upd_ne fun q => by rw [q, pa] at e; cases e]
    exact e
  have pl : ∀ b o, F.P b = some o → upd F.P a (.frz od u) b = some o := fun b o e => by
    rw [upd_ne fun q => by rw [q, pa] at e; cases e]
    exact e
  refine ⟨fun b o e => ?_, fun b o e => ?_, fun b o e => ?_, fun b xs e => ?_, by rw [List.length_set]; exact R.len, fun m c b hm hb => ?_, fun m1 m2 c1 c2 b h1 h2 l1 l2 e1 e2 => ?_⟩
  · rw [upd_ne fun q => by rw [q, ga] at e; cases e]
    exact R.g _ _ e
  · rw [upd_ne fun q => by rw [q, ba] at e; cases e]
    exact R.b _ _ e
  · have e' : upd F.P a (.frz od u) b = some o := e
    by_cases q : b = a
    · rw [q, upd_same] at e' ⊢
      exact e'
    · rw [upd_ne q] at e' ⊢
      exact R.p _ _ e'
  · rw [upd_ne fun q => by rw [q, upd_same] at e; cases e] at e
    exact R.tup _ _ e
  · by_cases q : m = n
    · subst q
      rw [List.getElem?_set_self hlt] at hm
      cases hm
      have hb' : F.lm[m]? = some b := hb
      rw [ha] at hb'
      cases hb'
      obtain ⟨xs, hz, rfl, rl⟩ := hd
      exact ⟨⟨od, xs, hz, upd_same, RelL.wk wk _ _ rl⟩, fun q => nomatch q⟩
    · rw [List.getElem?_set_ne (fun z => q z.symm)] at hm
      obtain ⟨j1, j2⟩ := R.cell m c b hm hb
      have ne : c.live = true → b ≠ a := fun l z => q (R.inj m n c _ a hm h l rfl (by rw [← z]; exact hb) ha)
      exact ⟨j1.wk wk pf fun l => upd_ne (ne l), fun l => ⟨(j2 l).1, (j2 l).2.1, by
        show upd F.P a (.frz od u) b = none
        rw [upd_ne (ne l)]
        exact (j2 l).2.2⟩⟩
  · have old : ∀ {m : Nat} {c : Cell}, (S.set n (.lok ks ds))[m]? = some c → c.live = true → S[m]? = some c := fun {m c} hm l => by
      by_cases q : m = n
      · subst q
        rw [List.getElem?_set_self hlt] at hm
        cases hm
        cases l
      · rw [List.getElem?_set_ne (fun z => q z.symm)] at hm
        exact hm
    exact R.inj m1 m2 c1 c2 b (old h1 l1) (old h2 l2) l1 l2 e1 e2
/-- .. and free again -/
theorem Rep.unlock {F F' : Fm} {S' S'' : Sto} {H' : Hp} {a : Addr} {od : Obj} {u : HO} {n : Nat} (hB : F.B a = none) (hG : F.G a = none) (hP : F.P a = none) (hut : ∀ xs, u ≠ .tup xs) (le : Le { F with P := upd F.P a (.frz od u) } F') (R : Rep F' S' H') (ha : F.lm[n]? = some a) (hd : ∃ kvs, u = .dK kvs)
    (h : unlockS n S' = some S'') : H' a = some (.frz od u) ∧ Rep { F' with P := F.P } S'' (upd H' a u) ∧ Le F { F' with P := F.P } := by
  have pa : F'.P a = some (.frz od u) := by rw [le.p]; exact upd_same
  have h0 : H' a = some (.frz od u) := R.p _ _ pa
  have ga : F'.G a = none := by
    cases e : F'.G a with
    | none => rfl
    | some o =>
      rcases le.n a o e with q | q
      · have q' : F.G a = some o := q
        rw [hG] at q'
        cases q'
      · have q' : upd F.P a (.frz od u) a = none := q.2
        rw [upd_same] at q'
        cases q'
  have bb : F'.B = F.B := le.b
  have ha' : F'.lm[n]? = some a := prefix_get le.m ha
  have pq : ∀ b, b ≠ a → F'.P b = F.P b := fun b q => by
    rw [le.p]
    exact upd_ne q
  unfold unlockS at h
  split at h
  · rename_i ks ds hc
    obtain ⟨hall, h⟩ := of_ite h
    cases h
    have hlt := (List.getElem?_eq_some_iff.mp hc).1
    obtain ⟨⟨o, xs, hz, eP, rl⟩, _⟩ := R.cell n _ a hc ha'
    rw [pa] at eP
    cases eP
    have wk : Wk F' { F' with P := F.P } := ⟨rfl, Same.refl _, Same.refl _, List.prefix_refl _⟩
    have ne : ∀ {m : Nat} {c : Cell} {b : Addr}, S'[m]? = some c → c.live = true → F'.lm[m]? = some b → b ≠ a := fun {m c b} hm l hb q => by
      have := ((R.cell m c b hm hb).2 l).2.2
      rw [q, pa] at this
      cases this
    have rw_ : RelL { F' with P := F.P } ds xs := RelL.wk wk _ _ rl
    refine ⟨h0, ⟨fun b o e => ?_, fun b o e => ?_, fun b o e => ?_, fun b xs e => ?_, by rw [List.length_set]; exact R.len, fun m c b hm hb => ?_, fun m1 m2 c1 c2 b h1 h2 l1 l2 e1 e2 => ?_⟩, ⟨le.k, bb, rfl, le.g, fun b o e => ?_, le.m⟩⟩
    · rw [upd_ne fun q => by rw [q, ga] at e; cases e]
      exact R.g _ _ e
    · have e' : F'.B b = some o := e
      rw [upd_ne fun q => by rw [q, bb, hB] at e'; cases e']
      exact R.b _ _ e'
    · have e' : F.P b = some o := e
      have q : b ≠ a := fun q => by rw [q, hP] at e'; cases e'
      rw [upd_ne q]
      exact R.p _ _ (by rw [pq b q]; exact e')
    · by_cases q : b = a
      · rw [q, upd_same] at e
        exact absurd (Option.some.inj e) (hut xs)
      · rw [upd_ne q] at e
        exact R.tup _ _ e
    · by_cases q : m = n
      · subst q
        rw [List.getElem?_set_self hlt] at hm
        cases hm
        have hb' : F'.lm[m]? = some b := hb
        rw [ha'] at hb'
        cases hb'
        exact ⟨⟨xs, hz, upd_same, rw_⟩, fun _ => ⟨ga, by show F'.B a = none; rw [bb]; exact hB, hP⟩⟩
      · rw [List.getElem?_set_ne (fun z => q z.symm)] at hm
        obtain ⟨j1, j2⟩ := R.cell m c b hm hb
        have nl : notLok c = true := by
          have h3 : (S'.set n .gone)[m]? = some c := by rw [List.getElem?_set_ne (fun z => q z.symm)]; exact hm
          exact List.all_eq_true.mp hall c (List.mem_of_getElem? h3)
        refine ⟨?_, fun l => ⟨(j2 l).1, (j2 l).2.1, by
          show F.P b = none
          rw [← pq b (ne hm l hb)]
          exact (j2 l).2.2⟩⟩
        cases c with
        | lok ks ds => cases nl
        | lst xs =>
          obtain ⟨ys, e1, r1⟩ := j1
          exact ⟨ys, (upd_ne (ne hm rfl hb)).trans e1, RelL.wk wk _ _ r1⟩
        | dik ks ds =>
          obtain ⟨ys, z, e1, r1⟩ := j1
          exact ⟨ys, z, (upd_ne (ne hm rfl hb)).trans e1, RelL.wk wk _ _ r1⟩
        | dit ks ds =>
          obtain ⟨ys, z, e1, r1⟩ := j1
          exact ⟨ys, z, (upd_ne (ne hm rfl hb)).trans e1, RelL.wk wk _ _ r1⟩
        | ins C fs =>
          obtain ⟨dx, ys, e1, r1⟩ := j1
          exact ⟨dx, ys, (upd_ne (ne hm rfl hb)).trans e1, RelL.wk wk _ _ r1⟩
        | frz d => exact Rel.wk wk _ _ j1
        | gone => trivial
    · have old : ∀ {m : Nat} {c : Cell} {b : Addr}, (S'.set n (.dik ks ds))[m]? = some c → c.live = true → m ≠ n → S'[m]? = some c := fun {m c b} hm l q => by
        rw [List.getElem?_set_ne (fun z => q z.symm)] at hm
        exact hm
      by_cases q1 : m1 = n
      · by_cases q2 : m2 = n
        · rw [q1, q2]
        · have e1' : F'.lm[m1]? = some b := e1
          rw [q1, ha'] at e1'
          cases e1'
          exact absurd rfl (ne (old (b := a) h2 l2 q2) l2 e2)
      · by_cases q2 : m2 = n
        · have e2' : F'.lm[m2]? = some b := e2
          rw [q2, ha'] at e2'
          cases e2'
          exact absurd rfl (ne (old (b := a) h1 l1 q1) l1 e1)
        · exact R.inj m1 m2 c1 c2 b (old (b := b) h1 l1 q1) (old (b := b) h2 l2 q2) l1 l2 e1 e2
    · have e' : F'.G b = some o := e
      rcases le.n b o e' with q | q
      · exact .inl q
      · have q3 : b ≠ a := fun z => by
          have q2 := q.2
          rw [z] at q2
          have q4 : upd F.P a _ a = none := q2
          rw [upd_same] at q4
          cases q4
        have q2 : upd F.P a _ b = none := q.2
        rw [upd_ne q3] at q2
        exact .inr ⟨q.1, q2⟩
  · cases h
def dForK (f : DE) (g : DG) (body : DS) : DS := fun ρ S => match f ρ S with
  | some (.loc n, _) => (match S[n]? with
    | some (.dik ks ds) => (match dFor (iKeyL f) g body ρ (S.set n (.lok ks ds)) with
      | some o => unlockO n o
      | none => none)
    | _ => none)
  | _ => none
theorem sd_forK {g : DG} {body : DS} (h : PS X st (tFor (rdI X.K (iKeyL f)) (rdG X.K g) (rdS X.K body))) : SD X st (dForK f g body) := .of (ps_lock h) fun F S H ρ σ oo D hk R rr hf hq => by
  unfold dForK at hf
  split at hf
  · rename_i n S1 h1
    split at hf
    · rename_i ks ds hc
      split at hf
      · rename_i o ho
        obtain ⟨a, ha, hcell, hfree⟩ := R.at hc
        obtain ⟨xs, hz, e, rl⟩ := hcell
        obtain ⟨ga, ba, pa⟩ := hfree rfl
        refine ⟨a, .dK (ks.zip xs), e, trivial, fun od => ?_⟩
        have RL := R.lock hc ha e od ⟨xs, hz, rfl, rl⟩
        have wk : Wk F { F with P := upd F.P a (.frz od (.dK (ks.zip xs))) } := ⟨rfl, Same.refl _, Same.refl _, List.prefix_refl _⟩
        refine for_go (F := { F with P := upd F.P a (.frz od (.dK (ks.zip xs))) }) hk RL (rr.wk wk) ho fun F' H' le R' => ?_
        have un : ∀ {S' S'' : Sto}, Rep F' S' H' → unlockS n S' = some S'' → H' a = some (.frz od (.dK (ks.zip xs))) ∧ Rep { F' with P := F.P } S'' (upd H' a (.dK (ks.zip xs))) ∧ Le F { F' with P := F.P } := fun {S' S''} R' hu => Rep.unlock ba ga pa (fun _ q => nomatch q) le R' ha ⟨_, rfl⟩ hu
        have wk2 : Wk F' { F' with P := F.P } := ⟨rfl, Same.refl _, Same.refl _, List.prefix_refl _⟩
        cases o with
        | nx ρ' S' =>
          unfold unlockO at hf
          simp only at hf
          split at hf
          · rename_i S'' hu
            cases hf
            obtain ⟨u1, u2, u3⟩ := un R' hu
            exact fun σ' r' => ⟨u1, hq _ _ u3 u2 σ' (r'.wk wk2)⟩
          · cases hf
        | rt d S' =>
          unfold unlockO at hf
          simp only at hf
          split at hf
          · rename_i S'' hu
            cases hf
            obtain ⟨u1, u2, u3⟩ := un R' hu
            exact fun v rv => ⟨u1, hq _ _ u3 u2 v (Rel.wk wk2 _ _ rv)⟩
          · cases hf
        | bk ρ' S' =>
          unfold unlockO at hf
          simp only at hf
          split at hf
          · rename_i S'' hu
            cases hf
            obtain ⟨u1, u2, u3⟩ := un R' hu
            exact fun σ' r' => ⟨u1, hq _ _ u3 u2 σ' (r'.wk wk2)⟩
          · cases hf
        | ct ρ' S' =>
          unfold unlockO at hf
          simp only at hf
          split at hf
          · rename_i S'' hu
            cases hf
            obtain ⟨u1, u2, u3⟩ := un R' hu
            exact fun σ' r' => ⟨u1, hq _ _ u3 u2 σ' (r'.wk wk2)⟩
          · cases hf
      · cases hf
    · cases hf
  · cases hf
end
end Dn

/-! names set by the places of a list -/
namespace Dn
open PySem PySem.Spec PyProof.Rows L2
section
variable {X : Cx} {e : Expr} {es : List Expr}
def gLstD (n : Nat) (h : DGs) : DG := fun d ρ S => match asL S d with
  | some ds => if ds.length = n then h ds ρ S else none
  | none => none
theorem gd_lst {n : Nat} {h : DGs} (h2 : GDs X es h) (hp : PG X e (gLst X.K n (rdGs X.K h))) : GD X e (gLstD n h) :=
  .of hp fun F S H ρ σ d v ρ' S' Q hk R rr rv hf hq => by
    unfold gLstD at hf
    split at hf
    · rename_i ds h3
      obtain ⟨hn, hf⟩ := of_ite hf
      obtain ⟨a, xs, rfl, hs, rl⟩ := asL_sq R rv h3
      exact ⟨a, xs, rfl, by rw [← hk]; exact hs, by rw [← rl.length]; exact hn, F, S, ρ, ds, ρ', S', hk, R, rr, rl, hf, hq⟩
    · cases hf
theorem gd_l {h : DGs} {k n : Nat} {pos : Pos} (hc : X.calm = true) (h2 : GDs X es h) (hn : (assignEach es X.env).length = n := by rfl) (hst : (assignEach es X.env).findIdx? (·.1) = none := by rfl) : GD X (.Tuple es k pos) (gLstD n h) := gd_lst h2 (pg_lst hc h2.pg hn hst)
end
end Dn

namespace Lk24
open PySem PySem.Spec PyProof.Rows L2 Dn
def top (i : Nat) : Stmt := PySem.Challenge.pw_dimhouse_k24_whole_plain_runs.main.body.getD i (.Pass ⟨0, 0, 0, 0⟩)
abbrev s_ways_of : Stmt := top 2
abbrev s_ways : Stmt := top 3
abbrev s_value : Stmt := top 4
abbrev s_Plain_init : Stmt := inClass (top 6) 0
abbrev s_Plain_worth : Stmt := inClass (top 6) 1
abbrev s_Plain_stands : Stmt := inClass (top 6) 2
abbrev s_Plain_ended : Stmt := inClass (top 6) 3
abbrev s_Plain_answer : Stmt := inClass (top 6) 4
abbrev s_Plain_box : Stmt := inClass (top 6) 5
abbrev s_Plain_cell : Stmt := inClass (top 6) 6
abbrev s_Plain_shelf : Stmt := inClass (top 6) 7
abbrev s_Plain_sent : Stmt := inClass (top 6) 8
abbrev s_Plain_heard : Stmt := inClass (top 6) 9
abbrev s_Plain_count : Stmt := inClass (top 6) 10
abbrev s_Plain_step : Stmt := inClass (top 6) 11
abbrev s_Plain_put_out : Stmt := inClass (top 6) 12
abbrev s_Plain_brought : Stmt := inClass (top 6) 13
abbrev s_law_cell_at : Stmt := top 8
abbrev s_law_drawn : Stmt := top 9
abbrev s_law_names : Stmt := top 10
abbrev s_law_value_by : Stmt := top 11
abbrev s_law_atom : Stmt := top 12
abbrev s_law_world : Stmt := top 13
abbrev s_law_led : Stmt := top 14
abbrev s_law_row : Stmt := top 15
abbrev s_law_program : Stmt := top 16
abbrev s_law_value : Stmt := top 17
abbrev s_law_worth : Stmt := top 18
abbrev s_law_brought : Stmt := top 19
abbrev s_law_done : Stmt := top 20
abbrev s_law_begun : Stmt := top 21
abbrev s_law_long : Stmt := top 22
abbrev s_law_wholes : Stmt := top 23
abbrev s_law_same : Stmt := top 24
abbrev s_law : Stmt := top 25
def AT : ATab := [("Plain", "rows"), ("Plain", "leads"), ("Plain", "coming"), ("Plain", "at"), ("Plain", "held"), ("Plain", "cells"), ("Plain", "places"), ("Plain", "gone"), ("Plain", "hears"), ("Plain", "done"), ("Plain", "result")]
def b_ways_of : DS := (dSeq (dIfS (dBin (pEq false) (dBin pIx (dVar 0) (dC (.int 0))) (dC (.str "end"))) (dRet (dPrim pTup aNil)) dNext)
  (dSeq (dIfS (dBin (pEq false) (dBin pIx (dVar 0) (dC (.int 0))) (dC (.str "go"))) (dRet (dPrim pTup (aCons (dBin pIx (dVar 0) (dC (.int 1))) aNil))) dNext)
  (dSeq (dIfS (dBin (pEq false) (dBin pIx (dVar 0) (dC (.int 0))) (dC (.str "if"))) (dRet (dPrim pTup (aCons (dBin pIx (dVar 0) (dC (.int 2))) (aCons (dBin pAdd (dVar 1) (dC (.int 1))) aNil)))) dNext)
  (dRet (dPrim pTup (aCons (dBin pAdd (dVar 1) (dC (.int 1))) aNil))))))
def F_ways_of : PL := runF 2 2 b_ways_of
def b_ways : DS := (dRet (dLcM (iEnum2 (aCons (dBin pIx (dVar 0) (dC (.int 2))) aNil)) (gTupD 2 (gsCons (gSet 1) (gsCons (gSet 2) gsNil))) (dC (.bl true)) (dPrim (cP (pureOf F_ways_of) []) (aCons (dVar 2) (aCons (dVar 1) aNil))) [1, 2]))
def F_ways : PL := runF 1 3 b_ways
def b_value : DS := (dSeq (dIfS (dBin (pEq false) (dVar 0) (dC (.str "+"))) (dRet (dBin pMod (dBin pAdd (dVar 1) (dVar 2)) (dC (.int 1099511627776)))) dNext)
  (dSeq (dIfS (dBin (pEq false) (dVar 0) (dC (.str "-"))) (dRet (dBin pMod (dBin pSub (dVar 1) (dVar 2)) (dC (.int 1099511627776)))) dNext)
  (dSeq (dIfS (dBin (pEq false) (dVar 0) (dC (.str "*"))) (dRet (dBin pMod (dBin pMul (dVar 1) (dVar 2)) (dC (.int 1099511627776)))) dNext)
  (dSeq (dIfS (dBin (pEq false) (dVar 0) (dC (.str "<"))) (dRet (dPrim pInt (aCons (dBin pLt (dVar 1) (dVar 2)) aNil))) dNext)
  (dSeq (dIfS (dBin (pEq false) (dVar 0) (dC (.str "="))) (dRet (dPrim pInt (aCons (dBin (pEq false) (dVar 1) (dVar 2)) aNil))) dNext)
  (dSeq (dIfS (dBin (pEq false) (dVar 0) (dC (.str "&"))) (dRet (dBin pAnd (dVar 1) (dVar 2))) dNext)
  (dSeq (dIfS (dBin (pEq false) (dVar 0) (dC (.str "|"))) (dRet (dBin pOr (dVar 1) (dVar 2))) dNext)
  (dRet (dBin pXor (dVar 1) (dVar 2))))))))))
def F_value : PL := runF 3 3 b_value
def b_Plain_init : DS := (dSeq (dSetF AT "rows" (dBin pIx (dVar 1) (dC (.int 2))) (dVar 0))
  (dSeq (dSetF AT "leads" (dPrim (cM (freshOf F_ways) []) (aCons (dVar 1) aNil)) (dVar 0))
  (dSeq (dSetF AT "coming" (dPrim pListM (aCons (dVar 2) aNil)) (dVar 0))
  (dSeq (dSetF AT "at" (dC (.int 0)) (dVar 0))
  (dSeq (dSetF AT "held" (fun _ S => some (.loc S.length, S ++ [.dik [] []])) (dVar 0))
  (dSeq (dSetF AT "cells" (fun _ S => some (.loc S.length, S ++ [.dik [] []])) (dVar 0))
  (dSeq (dFor (iSeq (dBin pIx (dVar 1) (dC (.int 0)))) (gTupD 3 (gsCons (gSet 3) (gsCons (gSet 4) (gsCons (gSet 5) gsNil)))) (dSub (dVar 4) (dFld AT "cells" (dVar 0)) (dVar 3)))
  (dSeq (dSetF AT "places" (fun _ S => some (.loc S.length, S ++ [.dik [] []])) (dVar 0))
  (dSeq (dFor (iSeq (dBin pIx (dVar 1) (dC (.int 1)))) (gTupD 3 (gsCons (gSet 3) (gsCons (gSet 6) (gsCons (gSet 5) gsNil)))) (dSub (dBin pMulM (dPrim pLst (aCons (dC (.int 0)) aNil)) (dVar 6)) (dFld AT "places" (dVar 0)) (dVar 3)))
  (dSeq (dSetF AT "gone" (dPrim pLstM aNil) (dVar 0))
  (dSeq (dSetF AT "hears" (dC (.int 0)) (dVar 0))
  (dSeq (dSetF AT "done" (dC (.int 0)) (dVar 0))
  (dSetF AT "result" (dC .non) (dVar 0))))))))))))))
def F_Plain_init : PL := runF 3 7 b_Plain_init
def b_Plain_worth : DS := (dSeq (dIfS (dIsi .str (dVar 1)) (dRet (dGet2 (dFld AT "held" (dVar 0)) (dVar 1) (dC (.int 0)))) dNext)
  (dRet (dVar 1)))
def F_Plain_worth : PL := runF 2 2 b_Plain_worth
def b_Plain_stands : DS := (dRet (dFld AT "at" (dVar 0)))
def F_Plain_stands : PL := runF 1 1 b_Plain_stands
def b_Plain_ended : DS := (dRet (dBin (pIs true) (dFld AT "result" (dVar 0)) (dC .non)))
def F_Plain_ended : PL := runF 1 1 b_Plain_ended
def b_Plain_answer : DS := (dRet (dFld AT "result" (dVar 0)))
def F_Plain_answer : PL := runF 1 1 b_Plain_answer
def b_Plain_box : DS := (dRet (dGet2 (dFld AT "held" (dVar 0)) (dVar 1) (dC (.int 0))))
def F_Plain_box : PL := runF 2 2 b_Plain_box
def b_Plain_cell : DS := (dRet (dBin pIx (dFld AT "cells" (dVar 0)) (dVar 1)))
def F_Plain_cell : PL := runF 2 2 b_Plain_cell
def b_Plain_shelf : DS := (dRet (dPrim pListM (aCons (dBin pIx (dFld AT "places" (dVar 0)) (dVar 1)) aNil)))
def F_Plain_shelf : PL := runF 2 2 b_Plain_shelf
def b_Plain_sent : DS := (dRet (dPrim pListM (aCons (dFld AT "gone" (dVar 0)) aNil)))
def F_Plain_sent : PL := runF 1 1 b_Plain_sent
def b_Plain_heard : DS := (dRet (dFld AT "hears" (dVar 0)))
def F_Plain_heard : PL := runF 1 1 b_Plain_heard
def b_Plain_count : DS := (dRet (dFld AT "done" (dVar 0)))
def F_Plain_count : PL := runF 1 1 b_Plain_count
def b_Plain_put_out : DS := (dIfS (dBin (pEq false) (dBin pIx (dVar 1) (dC (.int 0))) (dC (.str "store"))) (dSub (dMeth "Plain" "worth" F_Plain_worth [] (dVar 0) (aCons (dBin pIx (dVar 1) (dC (.int 2))) aNil)) (dFld AT "cells" (dVar 0)) (dBin pIx (dVar 1) (dC (.int 1)))) (dIfS (dBin (pEq false) (dBin pIx (dVar 1) (dC (.int 0))) (dC (.str "lay"))) (dSeq (dSet 2 (dBin pIx (dFld AT "places" (dVar 0)) (dBin pIx (dVar 1) (dC (.int 1)))))
  (dSub (dMeth "Plain" "worth" F_Plain_worth [] (dVar 0) (aCons (dBin pIx (dVar 1) (dC (.int 3))) aNil)) (dVar 2) (dBin pMod (dMeth "Plain" "worth" F_Plain_worth [] (dVar 0) (aCons (dBin pIx (dVar 1) (dC (.int 2))) aNil)) (dPrim pLen (aCons (dVar 2) aNil))))) (dExpr (dMt pAppend (dFld AT "gone" (dVar 0)) (aCons (dMeth "Plain" "worth" F_Plain_worth [] (dVar 0) (aCons (dBin pIx (dVar 1) (dC (.int 1))) aNil)) aNil)))))
def F_Plain_put_out : PL := runF 2 3 b_Plain_put_out
def b_Plain_brought : DS := (dSeq (dIfS (dBin (pEq false) (dBin pIx (dVar 1) (dC (.int 0))) (dC (.str "copy"))) (dRet (dMeth "Plain" "worth" F_Plain_worth [] (dVar 0) (aCons (dBin pIx (dVar 1) (dC (.int 2))) aNil))) dNext)
  (dSeq (dIfS (dBin (pEq false) (dBin pIx (dVar 1) (dC (.int 0))) (dC (.str "op"))) (dRet (dPrim (cP (pureOf F_value) []) (aCons (dBin pIx (dVar 1) (dC (.int 2))) (aCons (dMeth "Plain" "worth" F_Plain_worth [] (dVar 0) (aCons (dBin pIx (dVar 1) (dC (.int 3))) aNil)) (aCons (dMeth "Plain" "worth" F_Plain_worth [] (dVar 0) (aCons (dBin pIx (dVar 1) (dC (.int 4))) aNil)) aNil))))) dNext)
  (dSeq (dIfS (dBin (pEq false) (dBin pIx (dVar 1) (dC (.int 0))) (dC (.str "load"))) (dRet (dBin pIx (dFld AT "cells" (dVar 0)) (dBin pIx (dVar 1) (dC (.int 2))))) dNext)
  (dSeq (dIfS (dBin (pEq false) (dBin pIx (dVar 1) (dC (.int 0))) (dC (.str "take"))) (dSeq (dSet 2 (dBin pIx (dFld AT "places" (dVar 0)) (dBin pIx (dVar 1) (dC (.int 2)))))
  (dRet (dBin pIx (dVar 2) (dBin pMod (dMeth "Plain" "worth" F_Plain_worth [] (dVar 0) (aCons (dBin pIx (dVar 1) (dC (.int 3))) aNil)) (dPrim pLen (aCons (dVar 2) aNil)))))) dNext)
  (dSeq (dAugF AT "hears" pAddI (dC (.int 1)) (dVar 0))
  (dSeq (dIfS (dBin pGt (dFld AT "hears" (dVar 0)) (dPrim pLen (aCons (dFld AT "coming" (dVar 0)) aNil))) (dRet (dC (.int 0))) dNext)
  (dRet (dBin pIx (dFld AT "coming" (dVar 0)) (dBin pSub (dFld AT "hears" (dVar 0)) (dC (.int 1)))))))))))
def F_Plain_brought : PL := runF 2 3 b_Plain_brought
def b_Plain_step : DS := (dSeq (dIfS (dMeth "Plain" "ended" F_Plain_ended [] (dVar 0) aNil) dRetN dNext)
  (dSeq (dSet 1 (dBin pIx (dFld AT "rows" (dVar 0)) (dFld AT "at" (dVar 0))))
  (dSeq (dAugF AT "done" pAddI (dC (.int 1)) (dVar 0))
  (dSeq (dIfS (dBin (pEq false) (dBin pIx (dVar 1) (dC (.int 0))) (dC (.str "end"))) (dSeq (dSetF AT "result" (dMeth "Plain" "worth" F_Plain_worth [] (dVar 0) (aCons (dBin pIx (dVar 1) (dC (.int 1))) aNil)) (dVar 0))
  dRetN) dNext)
  (dSeq (dSet 2 (dC (.int 0)))
  (dSeq (dIfS (dBin (pEq false) (dBin pIx (dVar 1) (dC (.int 0))) (dC (.str "if"))) (dSet 2 (dPrim pInt (aCons (dBin (pEq false) (dMeth "Plain" "worth" F_Plain_worth [] (dVar 0) (aCons (dBin pIx (dVar 1) (dC (.int 1))) aNil)) (dC (.int 0))) aNil))) (dIfS (dBin (pIn false) (dBin pIx (dVar 1) (dC (.int 0))) (dPrim pTup (aCons (dC (.str "store")) (aCons (dC (.str "lay")) (aCons (dC (.str "say")) aNil))))) (dExpr (dMeth "Plain" "put_out" F_Plain_put_out [] (dVar 0) (aCons (dVar 1) aNil))) (dIfS (dBin (pEq true) (dBin pIx (dVar 1) (dC (.int 0))) (dC (.str "go"))) (dSub (dMeth "Plain" "brought" F_Plain_brought [] (dVar 0) (aCons (dVar 1) aNil)) (dFld AT "held" (dVar 0)) (dBin pIx (dVar 1) (dC (.int 1)))) dNext)))
  (dSetF AT "at" (dBin pIx (dBin pIx (dFld AT "leads" (dVar 0)) (dFld AT "at" (dVar 0))) (dVar 2)) (dVar 0))))))))
def F_Plain_step : PL := runF 1 3 b_Plain_step
def b_law_cell_at : DS := (dSeq (dIfS (dBin pLt (dVar 1) (dPrim pLen (aCons (dVar 0) aNil))) (dRet (dBin pIx (dVar 0) (dVar 1))) dNext)
  (dRet (dC (.int 0))))
def F_law_cell_at : PL := runF 2 2 b_law_cell_at
def b_law_drawn : DS := (dSeq (dIfS (dVar 2) (dRet (dLc (iRange1 (aCons (dVar 1) aNil)) (gSet 5) (dC (.bl true)) (dBin pMod (dBin pShr (dVar 0) (dBin pMul (dC (.int 44)) (dVar 5))) (dBin pPow (dC (.int 2)) (dC (.int 44)))) [5])) dNext)
  (dSeq (dSet 3 (dPrim pLstM aNil))
  (dSeq (dSet 4 (dBin pAdd (dBin pMod (dVar 0) (dC (.int 2147483629))) (dC (.int 69621))))
  (dSeq (dFor (iRange1 (aCons (dBin pAdd (dVar 1) (dC (.int 1))) aNil)) (gSet 5) (dSeq (dSet 4 (dBin pMod (dBin pAdd (dBin pAdd (dBin pMul (dVar 4) (dVar 4)) (dBin pMul (dC (.int 16807)) (dVar 4))) (dVar 5)) (dC (.int 2147483629))))
  (dExpr (dMt pAppend (dVar 3) (aCons (dVar 4) aNil)))))
  (dRet (dSl pSl (dVar 3) (oSome (dC (.int 1))) oNone))))))
def F_law_drawn : PL := runF 3 6 b_law_drawn
def b_law_names : DS := (dSeq (dSet 2 (dC (.str "abcdefghijklmnopqrstuvwxyz")))
  (dSeq (dSet 3 (dBin pMod (dVar 0) (dC (.int 6))))
  (dSeq (dSet 4 (dBin pMod (dBin pDiv (dVar 0) (dC (.int 6))) (dBin pAdd (dVar 3) (dC (.int 1)))))
  (dSeq (dSet 5 (dM1 pJoin (dC (.str "")) (dLc (iRange1 (aCons (dVar 3) aNil)) (gSet 6) (dC (.bl true)) (dBin pIx (dVar 2) (dBin pMod (dBin pAdd (dBin pDiv (dVar 0) (dC (.int 37))) (dBin pMul (dBin pMul (dC (.int 11)) (dVar 6)) (dBin pMod (dVar 0) (dC (.int 2))))) (dC (.int 26)))) [6])))
  (dRet (dLc (iRange1 (aCons (dVar 1) aNil)) (gSet 6) (dC (.bl true)) (dBin pAdd (dBin pAdd (dSl pSl (dVar 5) oNone (oSome (dVar 4))) (dBin pIx (dVar 2) (dBin pMod (dBin pAdd (dBin pDiv (dVar 0) (dC (.int 42))) (dBin pMul (dC (.int 5)) (dVar 6))) (dC (.int 26))))) (dSl pSl (dVar 5) (oSome (dVar 4)) oNone)) [6]))))))
def F_law_names : PL := runF 2 7 b_law_names
def b_law_value_by : DS := (dSeq (dIfS (dBin (pEq false) (dBin pMod (dVar 0) (dC (.int 3))) (dC (.int 0))) (dRet (dBin pMod (dBin pDiv (dVar 0) (dC (.int 3))) (dC (.int 4)))) dNext)
  (dSeq (dIfS (dBin (pEq false) (dBin pMod (dVar 0) (dC (.int 3))) (dC (.int 1))) (dRet (dBin pSub (dBin pSub (dBin pPow (dC (.int 2)) (dC (.int 40))) (dC (.int 1))) (dBin pMod (dBin pDiv (dVar 0) (dC (.int 3))) (dC (.int 4))))) dNext)
  (dRet (dBin pMod (dBin pMul (dBin pDiv (dVar 0) (dC (.int 3))) (dC (.int 1664525))) (dBin pPow (dC (.int 2)) (dC (.int 40)))))))
def F_law_value_by : PL := runF 1 1 b_law_value_by
def b_law_atom : DS := (dSeq (dIfS (dBin (pEq false) (dBin pMod (dVar 0) (dC (.int 3))) (dC (.int 0))) (dRet (dPrim (cP (pureOf F_law_value_by) []) (aCons (dBin pDiv (dVar 0) (dC (.int 3))) aNil))) dNext)
  (dRet (dBin pIx (dVar 1) (dBin pMod (dBin pDiv (dVar 0) (dC (.int 3))) (dPrim pLen (aCons (dVar 1) aNil))))))
def F_law_atom : PL := runF 2 2 b_law_atom
def b_law_world : DS := (dSeq (dSet 1 (dPrim (cP (pureOf F_law_names) []) (aCons (dPrim (cP (pureOf F_law_cell_at) []) (aCons (dVar 0) (aCons (dC (.int 0)) aNil))) (aCons (dC (.int 24)) aNil))))
  (dSeq (dSet 2 (dBin (pEq false) (dBin pMod (dPrim (cP (pureOf F_law_cell_at) []) (aCons (dVar 0) (aCons (dC (.int 0)) aNil))) (dC (.int 2))) (dC (.int 1))))
  (dSeq (dSet 3 (dPrim (cP (pureOf F_law_drawn) []) (aCons (dPrim (cP (pureOf F_law_cell_at) []) (aCons (dVar 0) (aCons (dC (.int 1)) aNil))) (aCons (dC (.int 16)) (aCons (dVar 2) aNil)))))
  (dSeq (dSet 4 (dBin pIx (dPrim pLst (aCons (dPrim pLst (aCons (dC (.int 3)) (aCons (dC (.int 2)) (aCons (dC (.int 4)) (aCons (dC (.int 7)) aNil))))) (aCons (dPrim pLst (aCons (dC (.int 8)) (aCons (dC (.int 4)) (aCons (dC (.int 12)) (aCons (dC (.int 60)) aNil))))) aNil))) (dPrim pInt (aCons (dVar 2) aNil))))
  (dSeq (dSet 5 (dLc (iRange1 (aCons (dBin pAdd (dC (.int 1)) (dBin pMod (dBin pIx (dVar 3) (dC (.int 12))) (dBin pIx (dVar 4) (dC (.int 0))))) aNil)) (gSet 9) (dC (.bl true)) (dPrim pTup (aCons (dBin pIx (dVar 1) (dVar 9)) (aCons (dPrim (cP (pureOf F_law_value_by) []) (aCons (dBin pDiv (dBin pIx (dVar 3) (dVar 9)) (dC (.int 2))) aNil)) (aCons (dBin (pEq false) (dBin pMod (dBin pIx (dVar 3) (dVar 9)) (dC (.int 2))) (dC (.int 0))) aNil)))) [9]))
  (dSeq (dSet 6 (dLc (iRange1 (aCons (dBin pAdd (dC (.int 1)) (dBin pMod (dBin pIx (dVar 3) (dC (.int 13))) (dBin pIx (dVar 4) (dC (.int 1))))) aNil)) (gSet 9) (dC (.bl true)) (dPrim pTup (aCons (dBin pIx (dVar 1) (dBin pAdd (dC (.int 8)) (dVar 9))) (aCons (dBin pAdd (dC (.int 1)) (dBin pMod (dBin pIx (dVar 3) (dBin pAdd (dC (.int 8)) (dVar 9))) (dC (.int 8)))) (aCons (dBin (pEq false) (dBin pMod (dBin pDiv (dBin pIx (dVar 3) (dBin pAdd (dC (.int 8)) (dVar 9))) (dC (.int 8))) (dC (.int 2))) (dC (.int 0))) aNil)))) [9]))
  (dSeq (dSet 7 (dSl pSl (dSl pSl (dVar 1) (oSome (dBin pSub (dC (.int 12)) (dBin pMod (dBin pIx (dVar 3) (dC (.int 15))) (dC (.int 13))))) oNone) oNone (oSome (dBin pAdd (dC (.int 1)) (dBin pMod (dBin pAdd (dC (.int 3)) (dBin pIx (dVar 3) (dC (.int 14)))) (dBin pIx (dVar 4) (dC (.int 2))))))))
  (dSeq (dSet 8 (dPrim (cP (pureOf F_law_drawn) []) (aCons (dPrim (cP (pureOf F_law_cell_at) []) (aCons (dVar 0) (aCons (dC (.int 2)) aNil))) (aCons (dBin pMod (dBin pDiv (dBin pIx (dVar 3) (dC (.int 14))) (dC (.int 16))) (dBin pIx (dVar 4) (dC (.int 3)))) (aCons (dVar 2) aNil)))))
  (dRet (dPrim pTup (aCons (dVar 7) (aCons (dVar 5) (aCons (dVar 6) (aCons (dLc (iSeq (dVar 8)) (gSet 10) (dC (.bl true)) (dPrim (cP (pureOf F_law_value_by) []) (aCons (dVar 10) aNil)) [10]) (aCons (dVar 2) aNil)))))))))))))))
def F_law_world : PL := runF 1 11 b_law_world
def b_law_led : DS := (dSeq (dIfS (dBin (pEq false) (dBin pMod (dBin pIx (dVar 0) (dC (.int 4))) (dC (.int 6))) (dC (.int 0))) (dRet (dBin pMod (dBin pIx (dVar 0) (dC (.int 5))) (dVar 2))) dNext)
  (dRet (dBin pAdd (dBin pAdd (dVar 1) (dC (.int 1))) (dBin pMod (dBin pIx (dVar 0) (dC (.int 5))) (dBin pSub (dBin pSub (dVar 2) (dC (.int 1))) (dVar 1))))))
def F_law_led : PL := runF 3 3 b_law_led
def b_law_row : DS := (dSeq (dAsg (dVar 3) (gTupD 5 (gsCons (gSet 11) (gsCons (gSet 12) (gsCons (gSet 13) (gsCons (gSet 14) (gsCons (gSet 15) gsNil)))))))
  (dSeq (dSet 4 (dPrim (cP (pureOf F_law_drawn) []) (aCons (dVar 0) (aCons (dC (.int 8)) (aCons (dVar 15) aNil)))))
  (dSeq (dSet 5 (dBin pIx (dVar 11) (dBin pMod (dBin pIx (dVar 4) (dC (.int 1))) (dPrim pLen (aCons (dVar 11) aNil)))))
  (dSeq (dSet 6 (dBin pIx (dBin pIx (dVar 12) (dBin pMod (dBin pIx (dVar 4) (dC (.int 6))) (dPrim pLen (aCons (dVar 12) aNil)))) (dC (.int 0))))
  (dSeq (dSet 7 (dBin pIx (dBin pIx (dVar 13) (dBin pMod (dBin pIx (dVar 4) (dC (.int 6))) (dPrim pLen (aCons (dVar 13) aNil)))) (dC (.int 0))))
  (dSeq (dSet 8 (dPrim (cP (pureOf F_law_atom) []) (aCons (dBin pIx (dVar 4) (dC (.int 2))) (aCons (dVar 11) aNil))))
  (dSeq (dSet 9 (dPrim (cP (pureOf F_law_atom) []) (aCons (dBin pIx (dVar 4) (dC (.int 3))) (aCons (dVar 11) aNil))))
  (dSeq (dSet 10 (dBin pMod (dBin pIx (dVar 4) (dC (.int 0))) (dC (.int 23))))
  (dSeq (dIfS (dBin pLt (dVar 10) (dC (.int 5))) (dRet (dPrim pTup (aCons (dC (.str "op")) (aCons (dVar 5) (aCons (dBin pIx (dC (.str "+-*<=&|^")) (dBin pMod (dBin pIx (dVar 4) (dC (.int 7))) (dC (.int 8)))) (aCons (dVar 8) (aCons (dVar 9) aNil))))))) dNext)
  (dSeq (dIfS (dBin pLt (dVar 10) (dC (.int 17))) (dRet (dBin pIx (dPrim pLst (aCons (dPrim pTup (aCons (dC (.str "load")) (aCons (dVar 5) (aCons (dVar 6) aNil)))) (aCons (dPrim pTup (aCons (dC (.str "store")) (aCons (dVar 6) (aCons (dVar 8) aNil)))) (aCons (dPrim pTup (aCons (dC (.str "take")) (aCons (dVar 5) (aCons (dVar 7) (aCons (dVar 8) aNil))))) (aCons (dPrim pTup (aCons (dC (.str "lay")) (aCons (dVar 7) (aCons (dVar 8) (aCons (dVar 9) aNil))))) aNil))))) (dBin pMod (dVar 10) (dC (.int 4))))) dNext)
  (dSeq (dIfS (dBin pLt (dVar 10) (dC (.int 20))) (dRet (dBin pIx (dPrim pLst (aCons (dPrim pTup (aCons (dC (.str "copy")) (aCons (dVar 5) (aCons (dVar 8) aNil)))) (aCons (dPrim pTup (aCons (dC (.str "hear")) (aCons (dVar 5) aNil))) (aCons (dPrim pTup (aCons (dC (.str "say")) (aCons (dVar 8) aNil))) aNil)))) (dBin pMod (dVar 10) (dC (.int 3))))) dNext)
  (dSeq (dIfS (dBin pLt (dVar 10) (dC (.int 22))) (dRet (dPrim pTup (aCons (dC (.str "if")) (aCons (dBin pIx (dPrim pLst (aCons (dVar 5) (aCons (dVar 8) aNil))) (dBin pMod (dBin pIx (dVar 4) (dC (.int 7))) (dC (.int 2)))) (aCons (dPrim (cP (pureOf F_law_led) []) (aCons (dVar 4) (aCons (dVar 1) (aCons (dVar 2) aNil)))) aNil))))) dNext)
  (dRet (dBin pIx (dPrim pLst (aCons (dPrim pTup (aCons (dC (.str "end")) (aCons (dVar 8) aNil))) (aCons (dPrim pTup (aCons (dC (.str "say")) (aCons (dVar 9) aNil))) (aCons (dPrim pTup (aCons (dC (.str "go")) (aCons (dPrim (cP (pureOf F_law_led) []) (aCons (dVar 4) (aCons (dVar 1) (aCons (dVar 2) aNil)))) aNil))) aNil)))) (dBin pMod (dBin pIx (dVar 4) (dC (.int 7))) (dC (.int 3)))))))))))))))))
def F_law_row : PL := runF 4 16 b_law_row
def b_law_program : DS := (dSeq (dSet 3 (dLc (iRange1 (aCons (dPrim pLen (aCons (dVar 0) aNil)) aNil)) (gSet 4) (dC (.bl true)) (dPrim (cP (pureOf F_law_row) []) (aCons (dBin pIx (dVar 0) (dVar 4)) (aCons (dVar 4) (aCons (dBin pAdd (dPrim pLen (aCons (dVar 0) aNil)) (dC (.int 1))) (aCons (dVar 1) aNil))))) [4]))
  (dRet (dPrim pTup (aCons (dPrim pTuple (aCons (dBin pIx (dVar 1) (dC (.int 1))) aNil)) (aCons (dPrim pTuple (aCons (dBin pIx (dVar 1) (dC (.int 2))) aNil)) (aCons (dBin pAdd (dPrim pTuple (aCons (dVar 3) aNil)) (dPrim pTup (aCons (dPrim pTup (aCons (dC (.str "end")) (aCons (dVar 2) aNil))) aNil))) aNil))))))
def F_law_program : PL := runF 3 5 b_law_program
def b_law_value : DS := (dSeq (dIfS (dBin (pEq false) (dVar 0) (dC (.str "<"))) (dRet (dPrim pInt (aCons (dBin pLt (dVar 1) (dVar 2)) aNil))) dNext)
  (dSeq (dIfS (dBin (pEq false) (dVar 0) (dC (.str "="))) (dRet (dPrim pInt (aCons (dBin (pEq false) (dVar 1) (dVar 2)) aNil))) dNext)
  (dSeq (dSet 3 (dDisp (((dC (.str "+")), (dBin pAdd (dVar 1) (dVar 2))) :: ((dC (.str "-")), (dBin pSub (dVar 1) (dVar 2))) :: ((dC (.str "*")), (dBin pMul (dVar 1) (dVar 2))) :: ((dC (.str "&")), (dBin pAnd (dVar 1) (dVar 2))) :: ((dC (.str "|")), (dBin pOr (dVar 1) (dVar 2))) :: ((dC (.str "^")), (dBin pXor (dVar 1) (dVar 2))) :: [])))
  (dRet (dBin pMod (dBin pIx (dVar 3) (dVar 0)) (dBin pPow (dC (.int 2)) (dC (.int 40))))))))
def F_law_value : PL := runF 3 4 b_law_value
def b_law_worth : DS := (dSeq (dIfS (dIsi .str (dVar 0)) (dRet (dGet2 (dBin pIx (dVar 1) (dC (.str "boxes"))) (dVar 0) (dC (.int 0)))) dNext)
  (dRet (dVar 0)))
def F_law_worth : PL := runF 2 2 b_law_worth
def b_law_brought : DS := (dSeq (dIfS (dBin (pEq false) (dBin pIx (dVar 0) (dC (.int 0))) (dC (.str "op"))) (dRet (dPrim (cP (pureOf F_law_value) []) (aCons (dBin pIx (dVar 0) (dC (.int 2))) (aCons (dPrim (cS F_law_worth []) (aCons (dBin pIx (dVar 0) (dC (.int 3))) (aCons (dVar 1) aNil))) (aCons (dPrim (cS F_law_worth []) (aCons (dBin pIx (dVar 0) (dC (.int 4))) (aCons (dVar 1) aNil))) aNil))))) dNext)
  (dSeq (dIfS (dBin (pEq false) (dBin pIx (dVar 0) (dC (.int 0))) (dC (.str "load"))) (dRet (dBin pIx (dBin pIx (dBin pIx (dVar 1) (dC (.str "places"))) (dBin pIx (dVar 0) (dC (.int 2)))) (dC (.int 0)))) dNext)
  (dSeq (dIfS (dBin (pEq false) (dBin pIx (dVar 0) (dC (.int 0))) (dC (.str "take"))) (dSeq (dSet 2 (dBin pIx (dBin pIx (dVar 1) (dC (.str "places"))) (dBin pIx (dVar 0) (dC (.int 2)))))
  (dRet (dBin pIx (dVar 2) (dBin pMod (dPrim (cS F_law_worth []) (aCons (dBin pIx (dVar 0) (dC (.int 3))) (aCons (dVar 1) aNil))) (dPrim pLen (aCons (dVar 2) aNil)))))) dNext)
  (dSeq (dIfS (dBin (pEq false) (dBin pIx (dVar 0) (dC (.int 0))) (dC (.str "hear"))) (dSeq (dSub (dBin pAdd (dBin pIx (dVar 1) (dC (.str "heard"))) (dC (.int 1))) (dVar 1) (dC (.str "heard")))
  (dRet (dBin pIx (dBin pAdd (dBin pIx (dVar 1) (dC (.str "letters"))) (dBin pMul (dPrim pLst (aCons (dC (.int 0)) aNil)) (dC (.int 90)))) (dBin pSub (dBin pIx (dVar 1) (dC (.str "heard"))) (dC (.int 1)))))) dNext)
  (dRet (dPrim (cS F_law_worth []) (aCons (dBin pIx (dVar 0) (dC (.int 2))) (aCons (dVar 1) aNil))))))))
def F_law_brought : PL := runF 2 3 b_law_brought
def b_law_done : DS := (dSeq (dSub (dBin pAdd (dBin pIx (dVar 1) (dC (.str "count"))) (dC (.int 1))) (dVar 1) (dC (.str "count")))
  (dSeq (dIfS (dBin (pEq false) (dBin pIx (dVar 0) (dC (.int 0))) (dC (.str "end"))) (dSeq (dSub (dPrim (cS F_law_worth []) (aCons (dBin pIx (dVar 0) (dC (.int 1))) (aCons (dVar 1) aNil))) (dVar 1) (dC (.str "answer")))
  dRetN) dNext)
  (dSeq (dSub (dBin pAdd (dBin pIx (dVar 1) (dC (.str "at"))) (dC (.int 1))) (dVar 1) (dC (.str "at")))
  (dIfS (dOr (dBin (pEq false) (dBin pIx (dVar 0) (dC (.int 0))) (dC (.str "go"))) (dAnd (dBin (pEq false) (dBin pIx (dVar 0) (dC (.int 0))) (dC (.str "if"))) (dBin (pEq true) (dPrim (cS F_law_worth []) (aCons (dBin pIx (dVar 0) (dC (.int 1))) (aCons (dVar 1) aNil))) (dC (.int 0))))) (dSub (dBin pIx (dVar 0) (dUn pNeg (dC (.int 1)))) (dVar 1) (dC (.str "at"))) (dIfS (dBin (pEq false) (dBin pIx (dVar 0) (dC (.int 0))) (dC (.str "store"))) (dSub (dPrim pLstM (aCons (dPrim (cS F_law_worth []) (aCons (dBin pIx (dVar 0) (dC (.int 2))) (aCons (dVar 1) aNil))) aNil)) (dBin pIx (dVar 1) (dC (.str "places"))) (dBin pIx (dVar 0) (dC (.int 1)))) (dIfS (dBin (pEq false) (dBin pIx (dVar 0) (dC (.int 0))) (dC (.str "lay"))) (dSeq (dSet 2 (dBin pIx (dBin pIx (dVar 1) (dC (.str "places"))) (dBin pIx (dVar 0) (dC (.int 1)))))
  (dSub (dPrim (cS F_law_worth []) (aCons (dBin pIx (dVar 0) (dC (.int 3))) (aCons (dVar 1) aNil))) (dVar 2) (dBin pMod (dPrim (cS F_law_worth []) (aCons (dBin pIx (dVar 0) (dC (.int 2))) (aCons (dVar 1) aNil))) (dPrim pLen (aCons (dVar 2) aNil))))) (dIfS (dBin (pEq false) (dBin pIx (dVar 0) (dC (.int 0))) (dC (.str "say"))) (dExpr (dMt pAppend (dBin pIx (dVar 1) (dC (.str "sent"))) (aCons (dPrim (cS F_law_worth []) (aCons (dBin pIx (dVar 0) (dC (.int 1))) (aCons (dVar 1) aNil))) aNil))) (dIfS (dBin (pEq true) (dBin pIx (dVar 0) (dC (.int 0))) (dC (.str "if"))) (dSub (dPrim (cS F_law_brought []) (aCons (dVar 0) (aCons (dVar 1) aNil))) (dBin pIx (dVar 1) (dC (.str "boxes"))) (dBin pIx (dVar 0) (dC (.int 1)))) dNext))))))))
def F_law_done : PL := runF 2 3 b_law_done
def b_law_begun : DS := (dSeq (dSet 2 (dDisp (((dC (.str "at")), (dC (.int 0))) :: ((dC (.str "count")), (dC (.int 0))) :: ((dC (.str "heard")), (dC (.int 0))) :: ((dC (.str "answer")), (dC .non)) :: ((dC (.str "sent")), (dPrim pLstM aNil)) :: ((dC (.str "letters")), (dVar 1)) :: ((dC (.str "boxes")), (fun _ S => some (.loc S.length, S ++ [.dik [] []]))) :: ((dC (.str "places")), (fun _ S => some (.loc S.length, S ++ [.dik [] []]))) :: [])))
  (dSeq (dFor (iSeq (dBin pIx (dVar 0) (dC (.int 0)))) (gTupD 3 (gsCons (gSet 3) (gsCons (gSet 4) (gsCons (gSet 5) gsNil)))) (dSub (dPrim pLstM (aCons (dVar 4) aNil)) (dBin pIx (dVar 2) (dC (.str "places"))) (dVar 3)))
  (dSeq (dFor (iSeq (dBin pIx (dVar 0) (dC (.int 1)))) (gTupD 3 (gsCons (gSet 3) (gsCons (gSet 6) (gsCons (gSet 5) gsNil)))) (dSub (dBin pMulM (dPrim pLst (aCons (dC (.int 0)) aNil)) (dVar 6)) (dBin pIx (dVar 2) (dC (.str "places"))) (dVar 3)))
  (dRet (dVar 2)))))
def F_law_begun : PL := runF 2 7 b_law_begun
def b_law_long : DS := (dSeq (dAsg (dSl pSl (dVar 0) oNone (oSome (dC (.int 2)))) (gLstD 2 (gsCons (gSet 6) (gsCons (gSet 7) gsNil))))
  (dSeq (dSet 2 (dBin pAdd (dC (.int 100)) (dBin pMod (dVar 1) (dC (.int 801)))))
  (dSeq (dSet 3 (dPrim pTup (aCons (dPrim pTup (aCons (dC (.str "op")) (aCons (dVar 6) (aCons (dC (.str "+")) (aCons (dVar 6) (aCons (dC (.int 1)) aNil)))))) (aCons (dPrim pTup (aCons (dC (.str "op")) (aCons (dVar 7) (aCons (dC (.str "<")) (aCons (dVar 6) (aCons (dVar 2) aNil)))))) (aCons (dPrim pTup (aCons (dC (.str "if")) (aCons (dVar 7) (aCons (dC (.int 0)) aNil)))) (aCons (dPrim pTup (aCons (dC (.str "say")) (aCons (dVar 7) aNil))) (aCons (dPrim pTup (aCons (dC (.str "end")) (aCons (dVar 6) aNil))) aNil)))))))
  (dSeq (dSet 4 (dMake "Plain" F_Plain_init [] (aCons (dPrim pTup (aCons (dPrim pTup aNil) (aCons (dPrim pTup aNil) (aCons (dVar 3) aNil)))) (aCons (dPrim pLst aNil) aNil))))
  (dSeq (dFor (iRange1 (aCons (dBin pAdd (dBin pMul (dC (.int 3)) (dVar 2)) (dC (.int 1))) aNil)) (gSet 5) (dExpr (dMeth "Plain" "step" F_Plain_step [] (dVar 4) aNil)))
  (dSeq (dIfS (dOr (dBin (pEq true) (dMeth "Plain" "stands" F_Plain_stands [] (dVar 4) aNil) (dC (.int 4))) (dOr (dBin (pIsB true) (dMeth "Plain" "ended" F_Plain_ended [] (dVar 4) aNil) (dC (.bl false))) (dOr (dBin (pEq true) (dMeth "Plain" "box" F_Plain_box [] (dVar 4) (aCons (dVar 6) aNil)) (dVar 2)) (dBin (pEq true) (dMeth "Plain" "count" F_Plain_count [] (dVar 4) aNil) (dBin pAdd (dBin pMul (dC (.int 3)) (dVar 2)) (dC (.int 1))))))) (dRet (dC (.bl false))) dNext)
  (dSeq (dExpr (dMeth "Plain" "step" F_Plain_step [] (dVar 4) aNil))
  (dRet (dAnd (dBin (pIsB false) (dMeth "Plain" "ended" F_Plain_ended [] (dVar 4) aNil) (dC (.bl true))) (dAnd (dBin (pEq false) (dMeth "Plain" "answer" F_Plain_answer [] (dVar 4) aNil) (dVar 2)) (dBin (pEq false) (dMeth "Plain" "sent" F_Plain_sent [] (dVar 4) aNil) (dPrim pLst (aCons (dC (.int 0)) aNil)))))))))))))
def F_law_long : PL := runF 2 8 b_law_long
def b_law_wholes : DS := (dSeq (dSet 2 (dBin pAdd (dBin pAdd (dPrim pLst (aCons (dMeth "Plain" "stands" F_Plain_stands [] (dVar 0) aNil) (aCons (dMeth "Plain" "count" F_Plain_count [] (dVar 0) aNil) (aCons (dMeth "Plain" "heard" F_Plain_heard [] (dVar 0) aNil) aNil)))) (dMeth "Plain" "sent" F_Plain_sent [] (dVar 0) aNil)) (dLc (iSeq (dVar 1)) (gSet 3) (dC (.bl true)) (dMeth "Plain" "box" F_Plain_box [] (dVar 0) (aCons (dVar 3) aNil)) [3])))
  (dRet (dPrim pAll (aCons (dLc (iSeq (dVar 2)) (gSet 4) (dC (.bl true)) (dAnd (dIsi .int (dVar 4)) (dNot (dIsi .bool (dVar 4)))) [4]) aNil))))
def F_law_wholes : PL := runF 2 5 b_law_wholes
def b_law_same : DS := (dSeq (dIfS (dNot (dPrim (cS F_law_wholes []) (aCons (dVar 0) (aCons (dVar 3) aNil)))) (dRet (dC (.bl false))) dNext)
  (dSeq (dIfS (dOr (dBin (pEq true) (dMeth "Plain" "stands" F_Plain_stands [] (dVar 0) aNil) (dBin pIx (dVar 1) (dC (.str "at")))) (dOr (dBin (pEq true) (dMeth "Plain" "count" F_Plain_count [] (dVar 0) aNil) (dBin pIx (dVar 1) (dC (.str "count")))) (dBin (pEq true) (dMeth "Plain" "heard" F_Plain_heard [] (dVar 0) aNil) (dBin pIx (dVar 1) (dC (.str "heard")))))) (dRet (dC (.bl false))) dNext)
  (dSeq (dIfS (dOr (dBin (pEq true) (dMeth "Plain" "sent" F_Plain_sent [] (dVar 0) aNil) (dBin pIx (dVar 1) (dC (.str "sent")))) (dBin (pEq true) (dMeth "Plain" "answer" F_Plain_answer [] (dVar 0) aNil) (dBin pIx (dVar 1) (dC (.str "answer"))))) (dRet (dC (.bl false))) dNext)
  (dSeq (dFor (iSeq (dBin pIx (dVar 2) (dC (.int 0)))) (gTupD 3 (gsCons (gSet 4) (gsCons (gSet 6) (gsCons (gSet 7) gsNil)))) (dIfS (dBin (pEq true) (dPrim pLst (aCons (dMeth "Plain" "cell" F_Plain_cell [] (dVar 0) (aCons (dVar 4) aNil)) aNil)) (dBin pIx (dBin pIx (dVar 1) (dC (.str "places"))) (dVar 4))) (dRet (dC (.bl false))) dNext))
  (dSeq (dFor (iSeq (dBin pIx (dVar 2) (dC (.int 1)))) (gTupD 3 (gsCons (gSet 4) (gsCons (gSet 8) (gsCons (gSet 7) gsNil)))) (dIfS (dBin (pEq true) (dMeth "Plain" "shelf" F_Plain_shelf [] (dVar 0) (aCons (dVar 4) aNil)) (dBin pIx (dBin pIx (dVar 1) (dC (.str "places"))) (dVar 4))) (dRet (dC (.bl false))) dNext))
  (dSeq (dFor (iSeq (dVar 3)) (gSet 4) (dIfS (dBin (pEq true) (dMeth "Plain" "box" F_Plain_box [] (dVar 0) (aCons (dVar 4) aNil)) (dGet2 (dBin pIx (dVar 1) (dC (.str "boxes"))) (dVar 4) (dC (.int 0)))) (dRet (dC (.bl false))) dNext))
  (dSeq (dSet 5 (dMeth "Plain" "ended" F_Plain_ended [] (dVar 0) aNil))
  (dRet (dAnd (dIsi .bool (dVar 5)) (dBin (pEq false) (dVar 5) (dBin (pIs true) (dBin pIx (dVar 1) (dC (.str "answer"))) (dC .non))))))))))))
def F_law_same : PL := runF 4 9 b_law_same
def b_law : DS := (dSeq (dSet 1 (dPrim (cP (pureOf F_law_world) []) (aCons (dVar 0) aNil)))
  (dSeq (dSet 2 (dPrim (cP (pureOf F_law_names) []) (aCons (dPrim (cP (pureOf F_law_cell_at) []) (aCons (dVar 0) (aCons (dC (.int 0)) aNil))) (aCons (dC (.int 24)) aNil))))
  (dSeq (dSet 3 (dPrim (cP (pureOf F_law_program) []) (aCons (dSl pSl (dVar 0) (oSome (dC (.int 5))) (oSome (dC (.int 55)))) (aCons (dVar 1) (aCons (dPrim (cP (pureOf F_law_atom) []) (aCons (dBin pMod (dPrim (cP (pureOf F_law_cell_at) []) (aCons (dVar 0) (aCons (dC (.int 3)) aNil))) (dBin pPow (dC (.int 2)) (dC (.int 44)))) (aCons (dBin pIx (dVar 1) (dC (.int 0))) aNil))) aNil)))))
  (dSeq (dSet 4 (dMake "Plain" F_Plain_init [] (aCons (dVar 3) (aCons (dBin pIx (dVar 1) (dC (.int 3))) aNil))))
  (dSeq (dSet 5 (dPrim (cS F_law_begun []) (aCons (dVar 3) (aCons (dBin pIx (dVar 1) (dC (.int 3))) aNil))))
  (dSeq (dFor (iRange1 (aCons (dC (.int 80)) aNil)) (gSet 6) (dSeq (dIfS (dNot (dPrim (cS F_law_same []) (aCons (dVar 4) (aCons (dVar 5) (aCons (dVar 3) (aCons (dVar 2) aNil)))))) (dRet (dC (.bl false))) dNext)
  (dSeq (dExpr (dMeth "Plain" "step" F_Plain_step [] (dVar 4) aNil))
  (dIfS (dBin (pIs false) (dBin pIx (dVar 5) (dC (.str "answer"))) (dC .non)) (dExpr (dPrim (cS F_law_done []) (aCons (dBin pIx (dBin pIx (dVar 3) (dC (.int 2))) (dBin pIx (dVar 5) (dC (.str "at")))) (aCons (dVar 5) aNil)))) dNext))))
  (dSeq (dIfS (dNot (dPrim (cS F_law_same []) (aCons (dVar 4) (aCons (dVar 5) (aCons (dVar 3) (aCons (dVar 2) aNil)))))) (dRet (dC (.bl false))) dNext)
  (dSeq (dSet 7 (dPrim (cP (pureOf F_law_cell_at) []) (aCons (dVar 0) (aCons (dC (.int 4)) aNil))))
  (dRet (dOr (dBin (pEq true) (dBin pMod (dVar 7) (dC (.int 6))) (dC (.int 1))) (dPrim (cP (pureOf F_law_long) []) (aCons (dVar 2) (aCons (dBin pDiv (dVar 7) (dC (.int 6))) aNil)))))))))))))
def F_law : PL := runF 1 8 b_law
/-! ### facts of the head -/
def d_ways_of : He.DefD := ⟨("ways_of", none), "ways_of", "ways_of", defArgs s_ways_of, defBody s_ways_of, defScope s_ways_of, [], []⟩
def d_ways : He.DefD := ⟨("ways", none), "ways", "ways", defArgs s_ways, defBody s_ways, defScope s_ways, [], []⟩
def d_value : He.DefD := ⟨("value", none), "value", "value", defArgs s_value, defBody s_value, defScope s_value, [], []⟩
def d_Plain_init : He.DefD := ⟨("Plain", some "__init__"), "__init__", "Plain.__init__", defArgs s_Plain_init, defBody s_Plain_init, defScope s_Plain_init, [], []⟩
def d_Plain_worth : He.DefD := ⟨("Plain", some "worth"), "worth", "Plain.worth", defArgs s_Plain_worth, defBody s_Plain_worth, defScope s_Plain_worth, [], []⟩
def d_Plain_stands : He.DefD := ⟨("Plain", some "stands"), "stands", "Plain.stands", defArgs s_Plain_stands, defBody s_Plain_stands, defScope s_Plain_stands, [], []⟩
def d_Plain_ended : He.DefD := ⟨("Plain", some "ended"), "ended", "Plain.ended", defArgs s_Plain_ended, defBody s_Plain_ended, defScope s_Plain_ended, [], []⟩
def d_Plain_answer : He.DefD := ⟨("Plain", some "answer"), "answer", "Plain.answer", defArgs s_Plain_answer, defBody s_Plain_answer, defScope s_Plain_answer, [], []⟩
def d_Plain_box : He.DefD := ⟨("Plain", some "box"), "box", "Plain.box", defArgs s_Plain_box, defBody s_Plain_box, defScope s_Plain_box, [], []⟩
def d_Plain_cell : He.DefD := ⟨("Plain", some "cell"), "cell", "Plain.cell", defArgs s_Plain_cell, defBody s_Plain_cell, defScope s_Plain_cell, [], []⟩
def d_Plain_shelf : He.DefD := ⟨("Plain", some "shelf"), "shelf", "Plain.shelf", defArgs s_Plain_shelf, defBody s_Plain_shelf, defScope s_Plain_shelf, [], []⟩
def d_Plain_sent : He.DefD := ⟨("Plain", some "sent"), "sent", "Plain.sent", defArgs s_Plain_sent, defBody s_Plain_sent, defScope s_Plain_sent, [], []⟩
def d_Plain_heard : He.DefD := ⟨("Plain", some "heard"), "heard", "Plain.heard", defArgs s_Plain_heard, defBody s_Plain_heard, defScope s_Plain_heard, [], []⟩
def d_Plain_count : He.DefD := ⟨("Plain", some "count"), "count", "Plain.count", defArgs s_Plain_count, defBody s_Plain_count, defScope s_Plain_count, [], []⟩
def d_Plain_step : He.DefD := ⟨("Plain", some "step"), "step", "Plain.step", defArgs s_Plain_step, defBody s_Plain_step, defScope s_Plain_step, [], []⟩
def d_Plain_put_out : He.DefD := ⟨("Plain", some "put_out"), "put_out", "Plain.put_out", defArgs s_Plain_put_out, defBody s_Plain_put_out, defScope s_Plain_put_out, [], []⟩
def d_Plain_brought : He.DefD := ⟨("Plain", some "brought"), "brought", "Plain.brought", defArgs s_Plain_brought, defBody s_Plain_brought, defScope s_Plain_brought, [], []⟩
def d_law_cell_at : He.DefD := ⟨("_law_cell_at", none), "_law_cell_at", "_law_cell_at", defArgs s_law_cell_at, defBody s_law_cell_at, defScope s_law_cell_at, [], []⟩
def d_law_drawn : He.DefD := ⟨("_law_drawn", none), "_law_drawn", "_law_drawn", defArgs s_law_drawn, defBody s_law_drawn, defScope s_law_drawn, [], []⟩
def d_law_names : He.DefD := ⟨("_law_names", none), "_law_names", "_law_names", defArgs s_law_names, defBody s_law_names, defScope s_law_names, [], []⟩
def d_law_value_by : He.DefD := ⟨("_law_value_by", none), "_law_value_by", "_law_value_by", defArgs s_law_value_by, defBody s_law_value_by, defScope s_law_value_by, [], []⟩
def d_law_atom : He.DefD := ⟨("_law_atom", none), "_law_atom", "_law_atom", defArgs s_law_atom, defBody s_law_atom, defScope s_law_atom, [], []⟩
def d_law_world : He.DefD := ⟨("_law_world", none), "_law_world", "_law_world", defArgs s_law_world, defBody s_law_world, defScope s_law_world, [], []⟩
def d_law_led : He.DefD := ⟨("_law_led", none), "_law_led", "_law_led", defArgs s_law_led, defBody s_law_led, defScope s_law_led, [], []⟩
def d_law_row : He.DefD := ⟨("_law_row", none), "_law_row", "_law_row", defArgs s_law_row, defBody s_law_row, defScope s_law_row, [], []⟩
def d_law_program : He.DefD := ⟨("_law_program", none), "_law_program", "_law_program", defArgs s_law_program, defBody s_law_program, defScope s_law_program, [], []⟩
def d_law_value : He.DefD := ⟨("_law_value", none), "_law_value", "_law_value", defArgs s_law_value, defBody s_law_value, defScope s_law_value, [], []⟩
def d_law_worth : He.DefD := ⟨("_law_worth", none), "_law_worth", "_law_worth", defArgs s_law_worth, defBody s_law_worth, defScope s_law_worth, [], []⟩
def d_law_brought : He.DefD := ⟨("_law_brought", none), "_law_brought", "_law_brought", defArgs s_law_brought, defBody s_law_brought, defScope s_law_brought, [], []⟩
def d_law_done : He.DefD := ⟨("_law_done", none), "_law_done", "_law_done", defArgs s_law_done, defBody s_law_done, defScope s_law_done, [], []⟩
def d_law_begun : He.DefD := ⟨("_law_begun", none), "_law_begun", "_law_begun", defArgs s_law_begun, defBody s_law_begun, defScope s_law_begun, [], []⟩
def d_law_long : He.DefD := ⟨("_law_long", none), "_law_long", "_law_long", defArgs s_law_long, defBody s_law_long, defScope s_law_long, [], []⟩
def d_law_wholes : He.DefD := ⟨("_law_wholes", none), "_law_wholes", "_law_wholes", defArgs s_law_wholes, defBody s_law_wholes, defScope s_law_wholes, [], []⟩
def d_law_same : He.DefD := ⟨("_law_same", none), "_law_same", "_law_same", defArgs s_law_same, defBody s_law_same, defScope s_law_same, [], []⟩
def d_law : He.DefD := ⟨("law", none), "law", "law", defArgs s_law, defBody s_law, defScope s_law, [], []⟩
def fn0 : List He.DefD := [d_ways_of, d_ways, d_value, d_Plain_init, d_Plain_worth, d_Plain_stands, d_Plain_ended, d_Plain_answer, d_Plain_box, d_Plain_cell, d_Plain_shelf, d_Plain_sent, d_Plain_heard, d_Plain_count, d_Plain_step, d_Plain_put_out, d_Plain_brought, d_law_cell_at, d_law_drawn, d_law_names, d_law_value_by, d_law_atom, d_law_world, d_law_led, d_law_row, d_law_program, d_law_value, d_law_worth, d_law_brought, d_law_done]
def fn1 : List He.DefD := [d_law_begun, d_law_long, d_law_wholes, d_law_same, d_law]
def fn : List He.DefD := fn0 ++ fn1
def fac0 : List He.Fa := [.glo "ways_of", .glo "ways", .glo "value", .glo "_law_cell_at", .glo "_law_drawn", .glo "_law_names", .glo "_law_value_by", .glo "_law_atom", .glo "_law_world", .glo "_law_led", .glo "_law_row", .glo "_law_program", .glo "_law_value", .glo "_law_worth", .glo "_law_brought", .glo "_law_done", .glo "_law_begun", .glo "_law_long", .glo "_law_wholes", .glo "_law_same", .glo "law", .glo "Plain", .cls "Plain", .mkr "Plain", .meth "Plain" "worth", .meth "Plain" "stands", .meth "Plain" "ended", .meth "Plain" "answer", .meth "Plain" "box", .meth "Plain" "cell"]
def fac1 : List He.Fa := [.meth "Plain" "shelf", .meth "Plain" "sent", .meth "Plain" "heard", .meth "Plain" "count", .meth "Plain" "step", .meth "Plain" "put_out", .meth "Plain" "brought", .int "WIDE" (1099511627776)]
def fac : List He.Fa := fac0 ++ fac1
def fa : List He.Fa := fac ++ frees
def ex (K : PySem.W.Frag) : Bool := atB K AT
abbrev Fx (K : PySem.W.Frag) (mg : Str → Option Value) : Prop := Facts fa fn ex K mg
section
variable {K : PySem.W.Frag} {mg : Str → Option Value} {P : Program} {w : World} {base : Heap}
theorem Fx.tb (Y : Fx K mg) : TB mg := Y.tb0 ⟨fac, rfl⟩
theorem Fx.at (Y : Fx K mg) : ATOk K AT := atOk_of (show ex K = true from Y.e)
theorem sc_ways_of : FnScope ["row", "at"] ["row", "at"] (defScope s_ways_of) := ⟨rfl, rfl, rfl, by decide +kernel, rfl, by decide +kernel, by decide +kernel⟩
theorem ok_ways_of_fn {f : Addr} {fd : FuncData} (FD : FunD K d_ways_of.name d_ways_of.qual d_ways_of.params d_ways_of.body d_ways_of.scope (He.DefD.dvs K d_ways_of) (He.DefD.kws K d_ways_of) f fd) (Y : Fx K mg) : FnOk P w K mg base CX0 1 f fd ["row", "at"] (spS K 2 F_ways_of) := by
  refine fn_ok FD sc_ways_of fun cdv A outer s H E hr => ?_
  exact (sds_cons (sd_if (td_eq hr (ed_ix hr (ed_var (pv 0)) ed_int (fun _ _ => rfl)) ed_str) (sds_one (sd_ret (ed_tup ad_nil))) sds_nil)
  (sds_cons (sd_if (td_eq hr (ed_ix hr (ed_var (pv 0)) ed_int (fun _ _ => rfl)) ed_str) (sds_one (sd_ret (ed_tup (ad_cons (ed_ix hr (ed_var (pv 0)) ed_int (fun _ _ => rfl)) ad_nil)))) sds_nil)
  (sds_cons (sd_if (td_eq hr (ed_ix hr (ed_var (pv 0)) ed_int (fun _ _ => rfl)) ed_str) (sds_one (sd_ret (ed_tup (ad_cons (ed_ix hr (ed_var (pv 0)) ed_int (fun _ _ => rfl)) (ad_cons (ed_add (ed_var (pv 1)) ed_int) ad_nil))))) sds_nil)
  (sds_one (sd_ret (ed_tup (ad_cons (ed_add (ed_var (pv 1)) ed_int) ad_nil)))))))
theorem ok_ways_of (Y : Fx K mg) : FnC P w K mg base "ways_of" 1 ["row", "at"] [] F_ways_of := by
  obtain ⟨fd, FD⟩ := Y.c.def_ 0 (d := d_ways_of) rfl
  exact FnC.of FD (Y.glo 0) (ok_ways_of_fn FD Y) fun _ _ _ _ _ _ us hl => match us, hl with | [_, _], _ => rfl
theorem sc_ways : FnScope ["program", "at", "row"] ["program"] (defScope s_ways) := ⟨rfl, rfl, rfl, by decide +kernel, rfl, by decide +kernel, by decide +kernel⟩
theorem ok_ways_fn {f : Addr} {fd : FuncData} (FD : FunD K d_ways.name d_ways.qual d_ways.params d_ways.body d_ways.scope (He.DefD.dvs K d_ways) (He.DefD.kws K d_ways) f fd) (Y : Fx K mg) : FnOk P w K mg base CX0 2 f fd ["program"] (spS K 1 F_ways) := by
  refine fn_ok FD sc_ways fun cdv A outer s H E hr => ?_
  exact (sds_one (sd_ret (ed_lcM (pe_lc (own := [("at", 1), ("row", 2)]) rfl sc_ways.nd (Dn.ID.pi (id_enum2 (ad_cons (ed_ix hr (ed_var (pv 0)) ed_int (fun _ _ => rfl)) ad_nil) (fun ha => pi_enum (by rfl) Y.tb.enumerate ha) (fun ha => pi_enumT (by rfl) Y.tb.enumerate ha))) (blkOk_by (by rfl)) (fun _ _ _ _ _ => (pg_tup rfl (pgs_cons (pg_name (i := 1) sc_ways.nd rfl (by first | exact .inl rfl | exact .inr rfl)) (pgs_cons (pg_name (i := 2) sc_ways.nd rfl (by first | exact .inl rfl | exact .inr rfl)) pgs_nil)))) (fun _ _ _ _ _ => pts_nil) (fun _ _ _ _ _ => (ED.pe (ed_callP (ok_ways_of Y) rfl hr (by decide) (by rfl) dd0 (ad_cons (ed_var (pv 2)) (ad_cons (ed_var (pv 1)) ad_nil)))))) (gw_tup (gws_cons (gw_name (by decide)) (gws_cons (gw_name (by decide)) gws_nil))) yes_of)))
theorem ok_ways (Y : Fx K mg) : FnC P w K mg base "ways" 2 ["program"] [] F_ways := by
  obtain ⟨fd, FD⟩ := Y.c.def_ 1 (d := d_ways) rfl
  exact FnC.of FD (Y.glo 1) (ok_ways_fn FD Y) fun _ _ _ _ _ _ us hl => match us, hl with | [_], _ => rfl
theorem sc_value : FnScope ["sign", "one", "other"] ["sign", "one", "other"] (defScope s_value) := ⟨rfl, rfl, rfl, by decide +kernel, rfl, by decide +kernel, by decide +kernel⟩
theorem ok_value_fn {f : Addr} {fd : FuncData} (FD : FunD K d_value.name d_value.qual d_value.params d_value.body d_value.scope (He.DefD.dvs K d_value) (He.DefD.kws K d_value) f fd) (Y : Fx K mg) : FnOk P w K mg base CX0 1 f fd ["sign", "one", "other"] (spS K 3 F_value) := by
  refine fn_ok FD sc_value fun cdv A outer s H E hr => ?_
  exact (sds_cons (sd_if (td_eq hr (ed_var (pv 0)) ed_str) (sds_one (sd_ret (ed_mod (ed_add (ed_var (pv 1)) (ed_var (pv 2))) (ed_kint (X := _) (Y.int 37))))) sds_nil)
  (sds_cons (sd_if (td_eq hr (ed_var (pv 0)) ed_str) (sds_one (sd_ret (ed_mod (ed_sub (ed_var (pv 1)) (ed_var (pv 2))) (ed_kint (X := _) (Y.int 37))))) sds_nil)
  (sds_cons (sd_if (td_eq hr (ed_var (pv 0)) ed_str) (sds_one (sd_ret (ed_mod (ed_mul (ed_var (pv 1)) (ed_var (pv 2))) (ed_kint (X := _) (Y.int 37))))) sds_nil)
  (sds_cons (sd_if (td_eq hr (ed_var (pv 0)) ed_str) (sds_one (sd_ret (ed_prim (fun ha => pe_callTy (x := "int") call_intAll (by rfl) Y.tb.int boot_int ha) ok_int (ad_cons (ed_lt (ed_var (pv 1)) (ed_var (pv 2))) ad_nil)))) sds_nil)
  (sds_cons (sd_if (td_eq hr (ed_var (pv 0)) ed_str) (sds_one (sd_ret (ed_prim (fun ha => pe_callTy (x := "int") call_intAll (by rfl) Y.tb.int boot_int ha) ok_int (ad_cons (ed_eq hr (ed_var (pv 1)) (ed_var (pv 2))) ad_nil)))) sds_nil)
  (sds_cons (sd_if (td_eq hr (ed_var (pv 0)) ed_str) (sds_one (sd_ret (ed_band (ed_var (pv 1)) (ed_var (pv 2))))) sds_nil)
  (sds_cons (sd_if (td_eq hr (ed_var (pv 0)) ed_str) (sds_one (sd_ret (ed_bor (ed_var (pv 1)) (ed_var (pv 2))))) sds_nil)
  (sds_one (sd_ret (ed_bxor (ed_var (pv 1)) (ed_var (pv 2))))))))))))
theorem ok_value (Y : Fx K mg) : FnC P w K mg base "value" 1 ["sign", "one", "other"] [] F_value := by
  obtain ⟨fd, FD⟩ := Y.c.def_ 2 (d := d_value) rfl
  exact FnC.of FD (Y.glo 2) (ok_value_fn FD Y) fun _ _ _ _ _ _ us hl => match us, hl with | [_, _, _], _ => rfl
theorem sc_Plain_init : FnScope ["self", "program", "letters", "name", "start", "twin", "size"] ["self", "program", "letters"] (defScope s_Plain_init) := ⟨rfl, rfl, rfl, by decide +kernel, rfl, by decide +kernel, by decide +kernel⟩
theorem ok_Plain_init_fn {f : Addr} {fd : FuncData} (FD : FunD K d_Plain_init.name d_Plain_init.qual d_Plain_init.params d_Plain_init.body d_Plain_init.scope (He.DefD.dvs K d_Plain_init) (He.DefD.kws K d_Plain_init) f fd) (Y : Fx K mg) : FnOk P w K mg base CX0 3 f fd ["self", "program", "letters"] (spS K 3 F_Plain_init) := by
  refine fn_ok FD sc_Plain_init fun cdv A outer s H E hr => ?_
  exact (sds_cons (sd_setF Y.at (ed_ix hr (ed_var (pv 1)) ed_int (fun _ _ => rfl)) (ed_var (pv 0)))
  (sds_cons (sd_setF Y.at (ed_callM (ok_ways Y) rfl hr (by decide) (by rfl) dd0 (ad_cons (ed_var (pv 1)) ad_nil)) (ed_var (pv 0)))
  (sds_cons (sd_setF Y.at (ed_prim (fun ha => pe_callTy (x := "list") (call_listAll rfl) (by rfl) Y.tb.list boot_list ha) ok_listM (ad_cons (ed_var (pv 2)) ad_nil)) (ed_var (pv 0)))
  (sds_cons (sd_setF Y.at ed_int (ed_var (pv 0)))
  (sds_cons (sd_setF Y.at (ed_dnewK pe_dnewK) (ed_var (pv 0)))
  (sds_cons (sd_setF Y.at (ed_dnewK pe_dnewK) (ed_var (pv 0)))
  (sds_cons (sd_for (ps_for PassesOwn.never rfl (Dn.ID.pi (id_seq (ed_ix hr (ed_var (pv 1)) ed_int (fun _ _ => rfl)))) (GD.pg (gd_t rfl (gds_c (gd_name (pg_name (i := 3) sc_Plain_init.nd rfl (by first | exact .inl rfl | exact .inr rfl))) (gds_c (gd_name (pg_name (i := 4) sc_Plain_init.nd rfl (by first | exact .inl rfl | exact .inr rfl))) (gds_c (gd_name (pg_name (i := 5) sc_Plain_init.nd rfl (by first | exact .inl rfl | exact .inr rfl))) gds_nil))))) (SDs.ps (sds_one (sd_sub (ps_asg (ED.pe (ed_var (pv 4))) (pg_sub (ED.pe (ed_fld Y.at (ed_var (pv 0)))) (ED.pe (ed_var (pv 3))) (PSet.or set_list (set_dict (hu1 hr))))))))))
  (sds_cons (sd_setF Y.at (ed_dnewK pe_dnewK) (ed_var (pv 0)))
  (sds_cons (sd_for (ps_for PassesOwn.never rfl (Dn.ID.pi (id_seq (ed_ix hr (ed_var (pv 1)) ed_int (fun _ _ => rfl)))) (GD.pg (gd_t rfl (gds_c (gd_name (pg_name (i := 3) sc_Plain_init.nd rfl (by first | exact .inl rfl | exact .inr rfl))) (gds_c (gd_name (pg_name (i := 6) sc_Plain_init.nd rfl (by first | exact .inl rfl | exact .inr rfl))) (gds_c (gd_name (pg_name (i := 5) sc_Plain_init.nd rfl (by first | exact .inl rfl | exact .inr rfl))) gds_nil))))) (SDs.ps (sds_one (sd_sub (ps_asg (ED.pe (ed_mulM (ed_lst (ad_cons ed_int ad_nil)) (ed_var (pv 6)))) (pg_sub (ED.pe (ed_fld Y.at (ed_var (pv 0)))) (ED.pe (ed_var (pv 3))) (PSet.or set_list (set_dict (hu1 hr))))))))))
  (sds_cons (sd_setF Y.at (ed_lstM ad_nil) (ed_var (pv 0)))
  (sds_cons (sd_setF Y.at ed_int (ed_var (pv 0)))
  (sds_cons (sd_setF Y.at ed_int (ed_var (pv 0)))
  (sds_one (sd_setF Y.at ed_non (ed_var (pv 0))))))))))))))))
theorem ok_Plain_init (Y : Fx K mg) : MkC P w K mg base "Plain" 3 ["self", "program", "letters"] [] F_Plain_init := by
  obtain ⟨fd, FD⟩ := Y.c.def_ 3 (d := d_Plain_init) rfl
  exact MkC.of FD (Y.glo 21) (Y.c.fact 23) rfl (ok_Plain_init_fn FD Y) fun _ _ _ _ _ _ us hl => match us, hl with | [_, _, _], _ => rfl
theorem sc_Plain_worth : FnScope ["self", "atom"] ["self", "atom"] (defScope s_Plain_worth) := ⟨rfl, rfl, rfl, by decide +kernel, rfl, by decide +kernel, by decide +kernel⟩
theorem ok_Plain_worth_fn {f : Addr} {fd : FuncData} (FD : FunD K d_Plain_worth.name d_Plain_worth.qual d_Plain_worth.params d_Plain_worth.body d_Plain_worth.scope (He.DefD.dvs K d_Plain_worth) (He.DefD.kws K d_Plain_worth) f fd) (Y : Fx K mg) : FnOk P w K mg base CX0 1 f fd ["self", "atom"] (spS K 2 F_Plain_worth) := by
  refine fn_ok FD sc_Plain_worth fun cdv A outer s H E hr => ?_
  exact (sds_cons (sd_if (td_val (e_isi (T7 := .str) Y.tb Y.tb.str (by decide) (by rfl) (by rfl) boot_str (ed_var (pv 1)))) (sds_one (sd_ret (ed_get2 (ed_fld Y.at (ed_var (pv 0))) (ed_var (pv 1)) ed_int (fun ho he hf => pe_dget2 (hu1 hr) ho he hf ⟨by rfl, by rfl, by rfl, by rfl⟩)))) sds_nil)
  (sds_one (sd_ret (ed_var (pv 1)))))
theorem ok_Plain_worth (Y : Fx K mg) : MtC P w K mg base "Plain" "worth" 1 ["self", "atom"] [] F_Plain_worth := by
  obtain ⟨fd, FD⟩ := Y.c.def_ 4 (d := d_Plain_worth) rfl
  exact MtC.of FD (Y.c.fact 22) (Y.c.fact 24) rfl (ok_Plain_worth_fn FD Y) fun _ _ _ _ _ _ us hl => match us, hl with | [_, _], _ => rfl
theorem sc_Plain_stands : FnScope ["self"] ["self"] (defScope s_Plain_stands) := ⟨rfl, rfl, rfl, by decide +kernel, rfl, by decide +kernel, by decide +kernel⟩
theorem ok_Plain_stands_fn {f : Addr} {fd : FuncData} (FD : FunD K d_Plain_stands.name d_Plain_stands.qual d_Plain_stands.params d_Plain_stands.body d_Plain_stands.scope (He.DefD.dvs K d_Plain_stands) (He.DefD.kws K d_Plain_stands) f fd) (Y : Fx K mg) : FnOk P w K mg base CX0 1 f fd ["self"] (spS K 1 F_Plain_stands) := by
  refine fn_ok FD sc_Plain_stands fun cdv A outer s H E hr => ?_
  exact (sds_one (sd_ret (ed_fld Y.at (ed_var (pv 0)))))
theorem ok_Plain_stands (Y : Fx K mg) : MtC P w K mg base "Plain" "stands" 1 ["self"] [] F_Plain_stands := by
  obtain ⟨fd, FD⟩ := Y.c.def_ 5 (d := d_Plain_stands) rfl
  exact MtC.of FD (Y.c.fact 22) (Y.c.fact 25) rfl (ok_Plain_stands_fn FD Y) fun _ _ _ _ _ _ us hl => match us, hl with | [_], _ => rfl
theorem sc_Plain_ended : FnScope ["self"] ["self"] (defScope s_Plain_ended) := ⟨rfl, rfl, rfl, by decide +kernel, rfl, by decide +kernel, by decide +kernel⟩
theorem ok_Plain_ended_fn {f : Addr} {fd : FuncData} (FD : FunD K d_Plain_ended.name d_Plain_ended.qual d_Plain_ended.params d_Plain_ended.body d_Plain_ended.scope (He.DefD.dvs K d_Plain_ended) (He.DefD.kws K d_Plain_ended) f fd) (Y : Fx K mg) : FnOk P w K mg base CX0 1 f fd ["self"] (spS K 1 F_Plain_ended) := by
  refine fn_ok FD sc_Plain_ended fun cdv A outer s H E hr => ?_
  exact (sds_one (sd_ret (ed_isnot (ed_fld Y.at (ed_var (pv 0))) ed_non)))
theorem ok_Plain_ended (Y : Fx K mg) : MtC P w K mg base "Plain" "ended" 1 ["self"] [] F_Plain_ended := by
  obtain ⟨fd, FD⟩ := Y.c.def_ 6 (d := d_Plain_ended) rfl
  exact MtC.of FD (Y.c.fact 22) (Y.c.fact 26) rfl (ok_Plain_ended_fn FD Y) fun _ _ _ _ _ _ us hl => match us, hl with | [_], _ => rfl
theorem sc_Plain_answer : FnScope ["self"] ["self"] (defScope s_Plain_answer) := ⟨rfl, rfl, rfl, by decide +kernel, rfl, by decide +kernel, by decide +kernel⟩
theorem ok_Plain_answer_fn {f : Addr} {fd : FuncData} (FD : FunD K d_Plain_answer.name d_Plain_answer.qual d_Plain_answer.params d_Plain_answer.body d_Plain_answer.scope (He.DefD.dvs K d_Plain_answer) (He.DefD.kws K d_Plain_answer) f fd) (Y : Fx K mg) : FnOk P w K mg base CX0 1 f fd ["self"] (spS K 1 F_Plain_answer) := by
  refine fn_ok FD sc_Plain_answer fun cdv A outer s H E hr => ?_
  exact (sds_one (sd_ret (ed_fld Y.at (ed_var (pv 0)))))
theorem ok_Plain_answer (Y : Fx K mg) : MtC P w K mg base "Plain" "answer" 1 ["self"] [] F_Plain_answer := by
  obtain ⟨fd, FD⟩ := Y.c.def_ 7 (d := d_Plain_answer) rfl
  exact MtC.of FD (Y.c.fact 22) (Y.c.fact 27) rfl (ok_Plain_answer_fn FD Y) fun _ _ _ _ _ _ us hl => match us, hl with | [_], _ => rfl
theorem sc_Plain_box : FnScope ["self", "name"] ["self", "name"] (defScope s_Plain_box) := ⟨rfl, rfl, rfl, by decide +kernel, rfl, by decide +kernel, by decide +kernel⟩
theorem ok_Plain_box_fn {f : Addr} {fd : FuncData} (FD : FunD K d_Plain_box.name d_Plain_box.qual d_Plain_box.params d_Plain_box.body d_Plain_box.scope (He.DefD.dvs K d_Plain_box) (He.DefD.kws K d_Plain_box) f fd) (Y : Fx K mg) : FnOk P w K mg base CX0 1 f fd ["self", "name"] (spS K 2 F_Plain_box) := by
  refine fn_ok FD sc_Plain_box fun cdv A outer s H E hr => ?_
  exact (sds_one (sd_ret (ed_get2 (ed_fld Y.at (ed_var (pv 0))) (ed_var (pv 1)) ed_int (fun ho he hf => pe_dget2 (hu1 hr) ho he hf ⟨by rfl, by rfl, by rfl, by rfl⟩))))
theorem ok_Plain_box (Y : Fx K mg) : MtC P w K mg base "Plain" "box" 1 ["self", "name"] [] F_Plain_box := by
  obtain ⟨fd, FD⟩ := Y.c.def_ 8 (d := d_Plain_box) rfl
  exact MtC.of FD (Y.c.fact 22) (Y.c.fact 28) rfl (ok_Plain_box_fn FD Y) fun _ _ _ _ _ _ us hl => match us, hl with | [_, _], _ => rfl
theorem sc_Plain_cell : FnScope ["self", "name"] ["self", "name"] (defScope s_Plain_cell) := ⟨rfl, rfl, rfl, by decide +kernel, rfl, by decide +kernel, by decide +kernel⟩
theorem ok_Plain_cell_fn {f : Addr} {fd : FuncData} (FD : FunD K d_Plain_cell.name d_Plain_cell.qual d_Plain_cell.params d_Plain_cell.body d_Plain_cell.scope (He.DefD.dvs K d_Plain_cell) (He.DefD.kws K d_Plain_cell) f fd) (Y : Fx K mg) : FnOk P w K mg base CX0 1 f fd ["self", "name"] (spS K 2 F_Plain_cell) := by
  refine fn_ok FD sc_Plain_cell fun cdv A outer s H E hr => ?_
  exact (sds_one (sd_ret (ed_ix hr (ed_fld Y.at (ed_var (pv 0))) (ed_var (pv 1)) (fun _ _ => rfl))))
theorem ok_Plain_cell (Y : Fx K mg) : MtC P w K mg base "Plain" "cell" 1 ["self", "name"] [] F_Plain_cell := by
  obtain ⟨fd, FD⟩ := Y.c.def_ 9 (d := d_Plain_cell) rfl
  exact MtC.of FD (Y.c.fact 22) (Y.c.fact 29) rfl (ok_Plain_cell_fn FD Y) fun _ _ _ _ _ _ us hl => match us, hl with | [_, _], _ => rfl
theorem sc_Plain_shelf : FnScope ["self", "name"] ["self", "name"] (defScope s_Plain_shelf) := ⟨rfl, rfl, rfl, by decide +kernel, rfl, by decide +kernel, by decide +kernel⟩
theorem ok_Plain_shelf_fn {f : Addr} {fd : FuncData} (FD : FunD K d_Plain_shelf.name d_Plain_shelf.qual d_Plain_shelf.params d_Plain_shelf.body d_Plain_shelf.scope (He.DefD.dvs K d_Plain_shelf) (He.DefD.kws K d_Plain_shelf) f fd) (Y : Fx K mg) : FnOk P w K mg base CX0 1 f fd ["self", "name"] (spS K 2 F_Plain_shelf) := by
  refine fn_ok FD sc_Plain_shelf fun cdv A outer s H E hr => ?_
  exact (sds_one (sd_ret (ed_prim (fun ha => pe_callTy (x := "list") (call_listAll rfl) (by rfl) Y.tb.list boot_list ha) ok_listM (ad_cons (ed_ix hr (ed_fld Y.at (ed_var (pv 0))) (ed_var (pv 1)) (fun _ _ => rfl)) ad_nil))))
theorem ok_Plain_shelf (Y : Fx K mg) : MtC P w K mg base "Plain" "shelf" 1 ["self", "name"] [] F_Plain_shelf := by
  obtain ⟨fd, FD⟩ := Y.c.def_ 10 (d := d_Plain_shelf) rfl
  exact MtC.of FD (Y.c.fact 22) (Y.c.fact 30) rfl (ok_Plain_shelf_fn FD Y) fun _ _ _ _ _ _ us hl => match us, hl with | [_, _], _ => rfl
theorem sc_Plain_sent : FnScope ["self"] ["self"] (defScope s_Plain_sent) := ⟨rfl, rfl, rfl, by decide +kernel, rfl, by decide +kernel, by decide +kernel⟩
theorem ok_Plain_sent_fn {f : Addr} {fd : FuncData} (FD : FunD K d_Plain_sent.name d_Plain_sent.qual d_Plain_sent.params d_Plain_sent.body d_Plain_sent.scope (He.DefD.dvs K d_Plain_sent) (He.DefD.kws K d_Plain_sent) f fd) (Y : Fx K mg) : FnOk P w K mg base CX0 1 f fd ["self"] (spS K 1 F_Plain_sent) := by
  refine fn_ok FD sc_Plain_sent fun cdv A outer s H E hr => ?_
  exact (sds_one (sd_ret (ed_prim (fun ha => pe_callTy (x := "list") (call_listAll rfl) (by rfl) Y.tb.list boot_list ha) ok_listM (ad_cons (ed_fld Y.at (ed_var (pv 0))) ad_nil))))
theorem ok_Plain_sent (Y : Fx K mg) : MtC P w K mg base "Plain" "sent" 1 ["self"] [] F_Plain_sent := by
  obtain ⟨fd, FD⟩ := Y.c.def_ 11 (d := d_Plain_sent) rfl
  exact MtC.of FD (Y.c.fact 22) (Y.c.fact 31) rfl (ok_Plain_sent_fn FD Y) fun _ _ _ _ _ _ us hl => match us, hl with | [_], _ => rfl
theorem sc_Plain_heard : FnScope ["self"] ["self"] (defScope s_Plain_heard) := ⟨rfl, rfl, rfl, by decide +kernel, rfl, by decide +kernel, by decide +kernel⟩
theorem ok_Plain_heard_fn {f : Addr} {fd : FuncData} (FD : FunD K d_Plain_heard.name d_Plain_heard.qual d_Plain_heard.params d_Plain_heard.body d_Plain_heard.scope (He.DefD.dvs K d_Plain_heard) (He.DefD.kws K d_Plain_heard) f fd) (Y : Fx K mg) : FnOk P w K mg base CX0 1 f fd ["self"] (spS K 1 F_Plain_heard) := by
  refine fn_ok FD sc_Plain_heard fun cdv A outer s H E hr => ?_
  exact (sds_one (sd_ret (ed_fld Y.at (ed_var (pv 0)))))
theorem ok_Plain_heard (Y : Fx K mg) : MtC P w K mg base "Plain" "heard" 1 ["self"] [] F_Plain_heard := by
  obtain ⟨fd, FD⟩ := Y.c.def_ 12 (d := d_Plain_heard) rfl
  exact MtC.of FD (Y.c.fact 22) (Y.c.fact 32) rfl (ok_Plain_heard_fn FD Y) fun _ _ _ _ _ _ us hl => match us, hl with | [_], _ => rfl
theorem sc_Plain_count : FnScope ["self"] ["self"] (defScope s_Plain_count) := ⟨rfl, rfl, rfl, by decide +kernel, rfl, by decide +kernel, by decide +kernel⟩
theorem ok_Plain_count_fn {f : Addr} {fd : FuncData} (FD : FunD K d_Plain_count.name d_Plain_count.qual d_Plain_count.params d_Plain_count.body d_Plain_count.scope (He.DefD.dvs K d_Plain_count) (He.DefD.kws K d_Plain_count) f fd) (Y : Fx K mg) : FnOk P w K mg base CX0 1 f fd ["self"] (spS K 1 F_Plain_count) := by
  refine fn_ok FD sc_Plain_count fun cdv A outer s H E hr => ?_
  exact (sds_one (sd_ret (ed_fld Y.at (ed_var (pv 0)))))
theorem ok_Plain_count (Y : Fx K mg) : MtC P w K mg base "Plain" "count" 1 ["self"] [] F_Plain_count := by
  obtain ⟨fd, FD⟩ := Y.c.def_ 13 (d := d_Plain_count) rfl
  exact MtC.of FD (Y.c.fact 22) (Y.c.fact 33) rfl (ok_Plain_count_fn FD Y) fun _ _ _ _ _ _ us hl => match us, hl with | [_], _ => rfl
theorem sc_Plain_put_out : FnScope ["self", "row", "some"] ["self", "row"] (defScope s_Plain_put_out) := ⟨rfl, rfl, rfl, by decide +kernel, rfl, by decide +kernel, by decide +kernel⟩
theorem ok_Plain_put_out_fn {f : Addr} {fd : FuncData} (FD : FunD K d_Plain_put_out.name d_Plain_put_out.qual d_Plain_put_out.params d_Plain_put_out.body d_Plain_put_out.scope (He.DefD.dvs K d_Plain_put_out) (He.DefD.kws K d_Plain_put_out) f fd) (Y : Fx K mg) : FnOk P w K mg base CX0 2 f fd ["self", "row"] (spS K 2 F_Plain_put_out) := by
  refine fn_ok FD sc_Plain_put_out fun cdv A outer s H E hr => ?_
  exact (sds_one (sd_if (td_eq hr (ed_ix hr (ed_var (pv 1)) ed_int (fun _ _ => rfl)) ed_str) (sds_one (sd_sub (ps_asg (ED.pe (ed_meth (ok_Plain_worth Y) rfl hr (by decide) dd0 (ed_var (pv 0)) (ad_cons (ed_ix hr (ed_var (pv 1)) ed_int (fun _ _ => rfl)) ad_nil))) (pg_sub (ED.pe (ed_fld Y.at (ed_var (pv 0)))) (ED.pe (ed_ix hr (ed_var (pv 1)) ed_int (fun _ _ => rfl))) (PSet.or set_list (set_dict (hu1 hr))))))) (sds_one (sd_if (td_eq hr (ed_ix hr (ed_var (pv 1)) ed_int (fun _ _ => rfl)) ed_str) (sds_cons (sd_set (ps_set (i := 2) sc_Plain_put_out.nd rfl (by first | exact .inl rfl | exact .inr rfl) (ED.pe (ed_ix hr (ed_fld Y.at (ed_var (pv 0))) (ed_ix hr (ed_var (pv 1)) ed_int (fun _ _ => rfl)) (fun _ _ => rfl)))))
  (sds_one (sd_sub (ps_asg (ED.pe (ed_meth (ok_Plain_worth Y) rfl hr (by decide) dd0 (ed_var (pv 0)) (ad_cons (ed_ix hr (ed_var (pv 1)) ed_int (fun _ _ => rfl)) ad_nil))) (pg_sub (ED.pe (ed_var (pv 2))) (ED.pe (ed_mod (ed_meth (ok_Plain_worth Y) rfl hr (by decide) dd0 (ed_var (pv 0)) (ad_cons (ed_ix hr (ed_var (pv 1)) ed_int (fun _ _ => rfl)) ad_nil)) (ed_prim (fun ha => pe_callB (x := "len") call_lenAll (by rfl) Y.tb.len boot_len ha) ok_len (ad_cons (ed_var (pv 2)) ad_nil)))) (PSet.or set_list (set_dict (hu1 hr)))))))) (sds_one (sd_expr (ed_mt ok_append (ed_fld Y.at (ed_var (pv 0))) (ad_cons (ed_meth (ok_Plain_worth Y) rfl hr (by decide) dd0 (ed_var (pv 0)) (ad_cons (ed_ix hr (ed_var (pv 1)) ed_int (fun _ _ => rfl)) ad_nil)) ad_nil) (fun ho ha => pe_bm PySem.F.plainAttrs_list PySem.F.slot_list_append PySem.F.type_list_append mt_append ho ha))))))))
theorem ok_Plain_put_out (Y : Fx K mg) : MtC P w K mg base "Plain" "put_out" 2 ["self", "row"] [] F_Plain_put_out := by
  obtain ⟨fd, FD⟩ := Y.c.def_ 15 (d := d_Plain_put_out) rfl
  exact MtC.of FD (Y.c.fact 22) (Y.c.fact 35) rfl (ok_Plain_put_out_fn FD Y) fun _ _ _ _ _ _ us hl => match us, hl with | [_, _], _ => rfl
theorem sc_Plain_brought : FnScope ["self", "row", "some"] ["self", "row"] (defScope s_Plain_brought) := ⟨rfl, rfl, rfl, by decide +kernel, rfl, by decide +kernel, by decide +kernel⟩
theorem ok_Plain_brought_fn {f : Addr} {fd : FuncData} (FD : FunD K d_Plain_brought.name d_Plain_brought.qual d_Plain_brought.params d_Plain_brought.body d_Plain_brought.scope (He.DefD.dvs K d_Plain_brought) (He.DefD.kws K d_Plain_brought) f fd) (Y : Fx K mg) : FnOk P w K mg base CX0 2 f fd ["self", "row"] (spS K 2 F_Plain_brought) := by
  refine fn_ok FD sc_Plain_brought fun cdv A outer s H E hr => ?_
  exact (sds_cons (sd_if (td_eq hr (ed_ix hr (ed_var (pv 1)) ed_int (fun _ _ => rfl)) ed_str) (sds_one (sd_ret (ed_meth (ok_Plain_worth Y) rfl hr (by decide) dd0 (ed_var (pv 0)) (ad_cons (ed_ix hr (ed_var (pv 1)) ed_int (fun _ _ => rfl)) ad_nil)))) sds_nil)
  (sds_cons (sd_if (td_eq hr (ed_ix hr (ed_var (pv 1)) ed_int (fun _ _ => rfl)) ed_str) (sds_one (sd_ret (ed_callP (ok_value Y) rfl hr (by decide) (by rfl) dd0 (ad_cons (ed_ix hr (ed_var (pv 1)) ed_int (fun _ _ => rfl)) (ad_cons (ed_meth (ok_Plain_worth Y) rfl hr (by decide) dd0 (ed_var (pv 0)) (ad_cons (ed_ix hr (ed_var (pv 1)) ed_int (fun _ _ => rfl)) ad_nil)) (ad_cons (ed_meth (ok_Plain_worth Y) rfl hr (by decide) dd0 (ed_var (pv 0)) (ad_cons (ed_ix hr (ed_var (pv 1)) ed_int (fun _ _ => rfl)) ad_nil)) ad_nil)))))) sds_nil)
  (sds_cons (sd_if (td_eq hr (ed_ix hr (ed_var (pv 1)) ed_int (fun _ _ => rfl)) ed_str) (sds_one (sd_ret (ed_ix hr (ed_fld Y.at (ed_var (pv 0))) (ed_ix hr (ed_var (pv 1)) ed_int (fun _ _ => rfl)) (fun _ _ => rfl)))) sds_nil)
  (sds_cons (sd_if (td_eq hr (ed_ix hr (ed_var (pv 1)) ed_int (fun _ _ => rfl)) ed_str) (sds_cons (sd_set (ps_set (i := 2) sc_Plain_brought.nd rfl (by first | exact .inl rfl | exact .inr rfl) (ED.pe (ed_ix hr (ed_fld Y.at (ed_var (pv 0))) (ed_ix hr (ed_var (pv 1)) ed_int (fun _ _ => rfl)) (fun _ _ => rfl)))))
  (sds_one (sd_ret (ed_ix hr (ed_var (pv 2)) (ed_mod (ed_meth (ok_Plain_worth Y) rfl hr (by decide) dd0 (ed_var (pv 0)) (ad_cons (ed_ix hr (ed_var (pv 1)) ed_int (fun _ _ => rfl)) ad_nil)) (ed_prim (fun ha => pe_callB (x := "len") call_lenAll (by rfl) Y.tb.len boot_len ha) ok_len (ad_cons (ed_var (pv 2)) ad_nil))) (fun _ _ => rfl))))) sds_nil)
  (sds_cons (sd_augF Y.at in_add ok_rAdd ed_int (ed_var (pv 0)))
  (sds_cons (sd_if (td_gt (ed_fld Y.at (ed_var (pv 0))) (ed_prim (fun ha => pe_callB (x := "len") call_lenAll (by rfl) Y.tb.len boot_len ha) ok_len (ad_cons (ed_fld Y.at (ed_var (pv 0))) ad_nil))) (sds_one (sd_ret ed_int)) sds_nil)
  (sds_one (sd_ret (ed_ix hr (ed_fld Y.at (ed_var (pv 0))) (ed_sub (ed_fld Y.at (ed_var (pv 0))) ed_int) (fun _ _ => rfl))))))))))
theorem ok_Plain_brought (Y : Fx K mg) : MtC P w K mg base "Plain" "brought" 2 ["self", "row"] [] F_Plain_brought := by
  obtain ⟨fd, FD⟩ := Y.c.def_ 16 (d := d_Plain_brought) rfl
  exact MtC.of FD (Y.c.fact 22) (Y.c.fact 36) rfl (ok_Plain_brought_fn FD Y) fun _ _ _ _ _ _ us hl => match us, hl with | [_, _], _ => rfl
theorem sc_Plain_step : FnScope ["self", "row", "way"] ["self"] (defScope s_Plain_step) := ⟨rfl, rfl, rfl, by decide +kernel, rfl, by decide +kernel, by decide +kernel⟩
theorem ok_Plain_step_fn {f : Addr} {fd : FuncData} (FD : FunD K d_Plain_step.name d_Plain_step.qual d_Plain_step.params d_Plain_step.body d_Plain_step.scope (He.DefD.dvs K d_Plain_step) (He.DefD.kws K d_Plain_step) f fd) (Y : Fx K mg) : FnOk P w K mg base CX0 3 f fd ["self"] (spS K 1 F_Plain_step) := by
  refine fn_ok FD sc_Plain_step fun cdv A outer s H E hr => ?_
  exact (sds_cons (sd_if (td_val (ed_meth0 (ok_Plain_ended Y) rfl hr (by decide) dd0 (ed_var (pv 0)))) (sds_one sd_retN) sds_nil)
  (sds_cons (sd_set (ps_set (i := 1) sc_Plain_step.nd rfl (by first | exact .inl rfl | exact .inr rfl) (ED.pe (ed_ix hr (ed_fld Y.at (ed_var (pv 0))) (ed_fld Y.at (ed_var (pv 0))) (fun _ _ => rfl)))))
  (sds_cons (sd_augF Y.at in_add ok_rAdd ed_int (ed_var (pv 0)))
  (sds_cons (sd_if (td_eq hr (ed_ix hr (ed_var (pv 1)) ed_int (fun _ _ => rfl)) ed_str) (sds_cons (sd_setF Y.at (ed_meth (ok_Plain_worth Y) rfl hr (by decide) dd0 (ed_var (pv 0)) (ad_cons (ed_ix hr (ed_var (pv 1)) ed_int (fun _ _ => rfl)) ad_nil)) (ed_var (pv 0)))
  (sds_one sd_retN)) sds_nil)
  (sds_cons (sd_set (ps_set (i := 2) sc_Plain_step.nd rfl (by first | exact .inl rfl | exact .inr rfl) (ED.pe ed_int)))
  (sds_cons (sd_if (td_eq hr (ed_ix hr (ed_var (pv 1)) ed_int (fun _ _ => rfl)) ed_str) (sds_one (sd_set (ps_set (i := 2) sc_Plain_step.nd rfl (by first | exact .inl rfl | exact .inr rfl) (ED.pe (ed_prim (fun ha => pe_callTy (x := "int") call_intAll (by rfl) Y.tb.int boot_int ha) ok_int (ad_cons (ed_eq hr (ed_meth (ok_Plain_worth Y) rfl hr (by decide) dd0 (ed_var (pv 0)) (ad_cons (ed_ix hr (ed_var (pv 1)) ed_int (fun _ _ => rfl)) ad_nil)) ed_int) ad_nil)))))) (sds_one (sd_if (td_in hr (ed_ix hr (ed_var (pv 1)) ed_int (fun _ _ => rfl)) (ed_tup (ad_cons ed_str (ad_cons ed_str (ad_cons ed_str ad_nil)))) rfl) (sds_one (sd_expr (ed_meth (ok_Plain_put_out Y) rfl hr (by decide) dd0 (ed_var (pv 0)) (ad_cons (ed_var (pv 1)) ad_nil)))) (sds_one (sd_if (td_ne hr (ed_ix hr (ed_var (pv 1)) ed_int (fun _ _ => rfl)) ed_str) (sds_one (sd_sub (ps_asg (ED.pe (ed_meth (ok_Plain_brought Y) rfl hr (by decide) dd0 (ed_var (pv 0)) (ad_cons (ed_var (pv 1)) ad_nil))) (pg_sub (ED.pe (ed_fld Y.at (ed_var (pv 0)))) (ED.pe (ed_ix hr (ed_var (pv 1)) ed_int (fun _ _ => rfl))) (PSet.or set_list (set_dict (hu1 hr))))))) sds_nil)))))
  (sds_one (sd_setF Y.at (ed_ix hr (ed_ix hr (ed_fld Y.at (ed_var (pv 0))) (ed_fld Y.at (ed_var (pv 0))) (fun _ _ => rfl)) (ed_var (pv 2)) (fun _ _ => rfl)) (ed_var (pv 0))))))))))
theorem ok_Plain_step (Y : Fx K mg) : MtC P w K mg base "Plain" "step" 3 ["self"] [] F_Plain_step := by
  obtain ⟨fd, FD⟩ := Y.c.def_ 14 (d := d_Plain_step) rfl
  exact MtC.of FD (Y.c.fact 22) (Y.c.fact 34) rfl (ok_Plain_step_fn FD Y) fun _ _ _ _ _ _ us hl => match us, hl with | [_], _ => rfl
theorem sc_law_cell_at : FnScope ["_law_script", "_law_k"] ["_law_script", "_law_k"] (defScope s_law_cell_at) := ⟨rfl, rfl, rfl, by decide +kernel, rfl, by decide +kernel, by decide +kernel⟩
theorem ok_law_cell_at_fn {f : Addr} {fd : FuncData} (FD : FunD K d_law_cell_at.name d_law_cell_at.qual d_law_cell_at.params d_law_cell_at.body d_law_cell_at.scope (He.DefD.dvs K d_law_cell_at) (He.DefD.kws K d_law_cell_at) f fd) (Y : Fx K mg) : FnOk P w K mg base CX0 1 f fd ["_law_script", "_law_k"] (spS K 2 F_law_cell_at) := by
  refine fn_ok FD sc_law_cell_at fun cdv A outer s H E hr => ?_
  exact (sds_cons (sd_if (td_lt (ed_var (pv 1)) (ed_prim (fun ha => pe_callB (x := "len") call_lenAll (by rfl) Y.tb.len boot_len ha) ok_len (ad_cons (ed_var (pv 0)) ad_nil))) (sds_one (sd_ret (ed_ix hr (ed_var (pv 0)) (ed_var (pv 1)) (fun _ _ => rfl)))) sds_nil)
  (sds_one (sd_ret ed_int)))
theorem ok_law_cell_at (Y : Fx K mg) : FnC P w K mg base "_law_cell_at" 1 ["_law_script", "_law_k"] [] F_law_cell_at := by
  obtain ⟨fd, FD⟩ := Y.c.def_ 17 (d := d_law_cell_at) rfl
  exact FnC.of FD (Y.glo 3) (ok_law_cell_at_fn FD Y) fun _ _ _ _ _ _ us hl => match us, hl with | [_, _], _ => rfl
theorem sc_law_drawn : FnScope ["_law_cell", "_law_many", "_law_digits", "_law_found", "_law_number", "_law_k"] ["_law_cell", "_law_many", "_law_digits"] (defScope s_law_drawn) := ⟨rfl, rfl, rfl, by decide +kernel, rfl, by decide +kernel, by decide +kernel⟩
theorem ok_law_drawn_fn {f : Addr} {fd : FuncData} (FD : FunD K d_law_drawn.name d_law_drawn.qual d_law_drawn.params d_law_drawn.body d_law_drawn.scope (He.DefD.dvs K d_law_drawn) (He.DefD.kws K d_law_drawn) f fd) (Y : Fx K mg) : FnOk P w K mg base CX0 1 f fd ["_law_cell", "_law_many", "_law_digits"] (spS K 3 F_law_drawn) := by
  refine fn_ok FD sc_law_drawn fun cdv A outer s H E hr => ?_
  exact (sds_cons (sd_if (td_val (ed_var (pv 2))) (sds_one (sd_ret (ed_lc (pe_lc (own := [("_law_k", 5)]) rfl sc_law_drawn.nd (Dn.ID.pi (id_range1 (ad_cons (ed_var (pv 1)) ad_nil) (fun ha => pi_range1 (by rfl) Y.tb.range ha))) (blkOk_by (by rfl)) (fun _ _ _ _ _ => (pg_name (i := 5) sc_law_drawn.nd rfl (by first | exact .inl rfl | exact .inr rfl))) (fun _ _ _ _ _ => pts_nil) (fun _ _ _ _ _ => (ED.pe (ed_mod (ed_shr (ed_var (pv 0)) (ed_mul ed_int (ed_var (pv 5)))) (ed_pow ed_int ed_int))))) (gw_name (by decide)) yes_of))) sds_nil)
  (sds_cons (sd_set (ps_set (i := 3) sc_law_drawn.nd rfl (by first | exact .inl rfl | exact .inr rfl) (ED.pe (ed_lstM ad_nil))))
  (sds_cons (sd_set (ps_set (i := 4) sc_law_drawn.nd rfl (by first | exact .inl rfl | exact .inr rfl) (ED.pe (ed_add (ed_mod (ed_var (pv 0)) ed_int) ed_int))))
  (sds_cons (sd_for (ps_for PassesOwn.never rfl (Dn.ID.pi (id_range1 (ad_cons (ed_add (ed_var (pv 1)) ed_int) ad_nil) (fun ha => pi_range1 (by rfl) Y.tb.range ha))) (GD.pg (gd_name (pg_name (i := 5) sc_law_drawn.nd rfl (by first | exact .inl rfl | exact .inr rfl)))) (SDs.ps (sds_cons (sd_set (ps_set (i := 4) sc_law_drawn.nd rfl (by first | exact .inl rfl | exact .inr rfl) (ED.pe (ed_mod (ed_add (ed_add (ed_mul (ed_var (pv 4)) (ed_var (pv 4))) (ed_mul ed_int (ed_var (pv 4)))) (ed_var (pv 5))) ed_int))))
  (sds_one (sd_expr (ed_mt ok_append (ed_var (pv 3)) (ad_cons (ed_var (pv 4)) ad_nil) (fun ho ha => pe_bm PySem.F.plainAttrs_list PySem.F.slot_list_append PySem.F.type_list_append mt_append ho ha))))))))
  (sds_one (sd_ret (ed_sl (ed_var (pv 3)) (od_some ed_int) od_none)))))))
theorem ok_law_drawn (Y : Fx K mg) : FnC P w K mg base "_law_drawn" 1 ["_law_cell", "_law_many", "_law_digits"] [] F_law_drawn := by
  obtain ⟨fd, FD⟩ := Y.c.def_ 18 (d := d_law_drawn) rfl
  exact FnC.of FD (Y.glo 4) (ok_law_drawn_fn FD Y) fun _ _ _ _ _ _ us hl => match us, hl with | [_, _, _], _ => rfl
theorem sc_law_names : FnScope ["_law_cell", "_law_many", "_law_letters", "_law_size", "_law_at", "_law_common", "_law_k"] ["_law_cell", "_law_many"] (defScope s_law_names) := ⟨rfl, rfl, rfl, by decide +kernel, rfl, by decide +kernel, by decide +kernel⟩
theorem ok_law_names_fn {f : Addr} {fd : FuncData} (FD : FunD K d_law_names.name d_law_names.qual d_law_names.params d_law_names.body d_law_names.scope (He.DefD.dvs K d_law_names) (He.DefD.kws K d_law_names) f fd) (Y : Fx K mg) : FnOk P w K mg base CX0 1 f fd ["_law_cell", "_law_many"] (spS K 2 F_law_names) := by
  refine fn_ok FD sc_law_names fun cdv A outer s H E hr => ?_
  exact (sds_cons (sd_set (ps_set (i := 2) sc_law_names.nd rfl (by first | exact .inl rfl | exact .inr rfl) (ED.pe ed_str)))
  (sds_cons (sd_set (ps_set (i := 3) sc_law_names.nd rfl (by first | exact .inl rfl | exact .inr rfl) (ED.pe (ed_mod (ed_var (pv 0)) ed_int))))
  (sds_cons (sd_set (ps_set (i := 4) sc_law_names.nd rfl (by first | exact .inl rfl | exact .inr rfl) (ED.pe (ed_mod (ed_div (ed_var (pv 0)) ed_int) (ed_add (ed_var (pv 3)) ed_int)))))
  (sds_cons (sd_set (ps_set (i := 5) sc_law_names.nd rfl (by first | exact .inl rfl | exact .inr rfl) (ED.pe (ed_m1 ok_join ed_str (ed_lc (pe_lc (own := [("_law_k", 6)]) rfl sc_law_names.nd (Dn.ID.pi (id_range1 (ad_cons (ed_var (pv 3)) ad_nil) (fun ha => pi_range1 (by rfl) Y.tb.range ha))) (blkOk_by (by rfl)) (fun _ _ _ _ _ => (pg_name (i := 6) sc_law_names.nd rfl (by first | exact .inl rfl | exact .inr rfl))) (fun _ _ _ _ _ => pts_nil) (fun _ _ _ _ _ => (ED.pe (ed_ix hr (ed_var (pv 2)) (ed_mod (ed_add (ed_div (ed_var (pv 0)) ed_int) (ed_mul (ed_mul ed_int (ed_var (pv 6))) (ed_mod (ed_var (pv 0)) ed_int))) ed_int) (fun _ _ => rfl))))) (gw_name (by decide)) yes_of) (fun ho hb => pe_join ho hb)))))
  (sds_one (sd_ret (ed_lc (pe_lc (own := [("_law_k", 6)]) rfl sc_law_names.nd (Dn.ID.pi (id_range1 (ad_cons (ed_var (pv 1)) ad_nil) (fun ha => pi_range1 (by rfl) Y.tb.range ha))) (blkOk_by (by rfl)) (fun _ _ _ _ _ => (pg_name (i := 6) sc_law_names.nd rfl (by first | exact .inl rfl | exact .inr rfl))) (fun _ _ _ _ _ => pts_nil) (fun _ _ _ _ _ => (ED.pe (ed_add (ed_add (ed_sl (ed_var (pv 5)) od_none (od_some (ed_var (pv 4)))) (ed_ix hr (ed_var (pv 2)) (ed_mod (ed_add (ed_div (ed_var (pv 0)) ed_int) (ed_mul ed_int (ed_var (pv 6)))) ed_int) (fun _ _ => rfl))) (ed_sl (ed_var (pv 5)) (od_some (ed_var (pv 4))) od_none))))) (gw_name (by decide)) yes_of)))))))
theorem ok_law_names (Y : Fx K mg) : FnC P w K mg base "_law_names" 1 ["_law_cell", "_law_many"] [] F_law_names := by
  obtain ⟨fd, FD⟩ := Y.c.def_ 19 (d := d_law_names) rfl
  exact FnC.of FD (Y.glo 5) (ok_law_names_fn FD Y) fun _ _ _ _ _ _ us hl => match us, hl with | [_, _], _ => rfl
theorem sc_law_value_by : FnScope ["_law_number"] ["_law_number"] (defScope s_law_value_by) := ⟨rfl, rfl, rfl, by decide +kernel, rfl, by decide +kernel, by decide +kernel⟩
theorem ok_law_value_by_fn {f : Addr} {fd : FuncData} (FD : FunD K d_law_value_by.name d_law_value_by.qual d_law_value_by.params d_law_value_by.body d_law_value_by.scope (He.DefD.dvs K d_law_value_by) (He.DefD.kws K d_law_value_by) f fd) (Y : Fx K mg) : FnOk P w K mg base CX0 1 f fd ["_law_number"] (spS K 1 F_law_value_by) := by
  refine fn_ok FD sc_law_value_by fun cdv A outer s H E hr => ?_
  exact (sds_cons (sd_if (td_eq hr (ed_mod (ed_var (pv 0)) ed_int) ed_int) (sds_one (sd_ret (ed_mod (ed_div (ed_var (pv 0)) ed_int) ed_int))) sds_nil)
  (sds_cons (sd_if (td_eq hr (ed_mod (ed_var (pv 0)) ed_int) ed_int) (sds_one (sd_ret (ed_sub (ed_sub (ed_pow ed_int ed_int) ed_int) (ed_mod (ed_div (ed_var (pv 0)) ed_int) ed_int)))) sds_nil)
  (sds_one (sd_ret (ed_mod (ed_mul (ed_div (ed_var (pv 0)) ed_int) ed_int) (ed_pow ed_int ed_int))))))
theorem ok_law_value_by (Y : Fx K mg) : FnC P w K mg base "_law_value_by" 1 ["_law_number"] [] F_law_value_by := by
  obtain ⟨fd, FD⟩ := Y.c.def_ 20 (d := d_law_value_by) rfl
  exact FnC.of FD (Y.glo 6) (ok_law_value_by_fn FD Y) fun _ _ _ _ _ _ us hl => match us, hl with | [_], _ => rfl
theorem sc_law_atom : FnScope ["_law_number", "_law_names_here"] ["_law_number", "_law_names_here"] (defScope s_law_atom) := ⟨rfl, rfl, rfl, by decide +kernel, rfl, by decide +kernel, by decide +kernel⟩
theorem ok_law_atom_fn {f : Addr} {fd : FuncData} (FD : FunD K d_law_atom.name d_law_atom.qual d_law_atom.params d_law_atom.body d_law_atom.scope (He.DefD.dvs K d_law_atom) (He.DefD.kws K d_law_atom) f fd) (Y : Fx K mg) : FnOk P w K mg base CX0 2 f fd ["_law_number", "_law_names_here"] (spS K 2 F_law_atom) := by
  refine fn_ok FD sc_law_atom fun cdv A outer s H E hr => ?_
  exact (sds_cons (sd_if (td_eq hr (ed_mod (ed_var (pv 0)) ed_int) ed_int) (sds_one (sd_ret (ed_callP (ok_law_value_by Y) rfl hr (by decide) (by rfl) dd0 (ad_cons (ed_div (ed_var (pv 0)) ed_int) ad_nil)))) sds_nil)
  (sds_one (sd_ret (ed_ix hr (ed_var (pv 1)) (ed_mod (ed_div (ed_var (pv 0)) ed_int) (ed_prim (fun ha => pe_callB (x := "len") call_lenAll (by rfl) Y.tb.len boot_len ha) ok_len (ad_cons (ed_var (pv 1)) ad_nil))) (fun _ _ => rfl)))))
theorem ok_law_atom (Y : Fx K mg) : FnC P w K mg base "_law_atom" 2 ["_law_number", "_law_names_here"] [] F_law_atom := by
  obtain ⟨fd, FD⟩ := Y.c.def_ 21 (d := d_law_atom) rfl
  exact FnC.of FD (Y.glo 7) (ok_law_atom_fn FD Y) fun _ _ _ _ _ _ us hl => match us, hl with | [_, _], _ => rfl
theorem sc_law_world : FnScope ["_law_script", "_law_names_here", "_law_digits", "_law_xs", "_law_most", "_law_cells", "_law_shelves", "_law_boxes", "_law_letters", "_law_k", "_law_number"] ["_law_script"] (defScope s_law_world) := ⟨rfl, rfl, rfl, by decide +kernel, rfl, by decide +kernel, by decide +kernel⟩
theorem ok_law_world_fn {f : Addr} {fd : FuncData} (FD : FunD K d_law_world.name d_law_world.qual d_law_world.params d_law_world.body d_law_world.scope (He.DefD.dvs K d_law_world) (He.DefD.kws K d_law_world) f fd) (Y : Fx K mg) : FnOk P w K mg base CX0 2 f fd ["_law_script"] (spS K 1 F_law_world) := by
  refine fn_ok FD sc_law_world fun cdv A outer s H E hr => ?_
  exact (sds_cons (sd_set (ps_set (i := 1) sc_law_world.nd rfl (by first | exact .inl rfl | exact .inr rfl) (ED.pe (ed_callP (ok_law_names Y) rfl hr (by decide) (by rfl) dd0 (ad_cons (ed_callP (ok_law_cell_at Y) rfl hr (by decide) (by rfl) dd0 (ad_cons (ed_var (pv 0)) (ad_cons ed_int ad_nil))) (ad_cons ed_int ad_nil))))))
  (sds_cons (sd_set (ps_set (i := 2) sc_law_world.nd rfl (by first | exact .inl rfl | exact .inr rfl) (ED.pe (ed_eq hr (ed_mod (ed_callP (ok_law_cell_at Y) rfl hr (by decide) (by rfl) dd0 (ad_cons (ed_var (pv 0)) (ad_cons ed_int ad_nil))) ed_int) ed_int))))
  (sds_cons (sd_set (ps_set (i := 3) sc_law_world.nd rfl (by first | exact .inl rfl | exact .inr rfl) (ED.pe (ed_callP (ok_law_drawn Y) rfl hr (by decide) (by rfl) dd0 (ad_cons (ed_callP (ok_law_cell_at Y) rfl hr (by decide) (by rfl) dd0 (ad_cons (ed_var (pv 0)) (ad_cons ed_int ad_nil))) (ad_cons ed_int (ad_cons (ed_var (pv 2)) ad_nil)))))))
  (sds_cons (sd_set (ps_set (i := 4) sc_law_world.nd rfl (by first | exact .inl rfl | exact .inr rfl) (ED.pe (ed_ix hr (ed_lst (ad_cons (ed_lst (ad_cons ed_int (ad_cons ed_int (ad_cons ed_int (ad_cons ed_int ad_nil))))) (ad_cons (ed_lst (ad_cons ed_int (ad_cons ed_int (ad_cons ed_int (ad_cons ed_int ad_nil))))) ad_nil))) (ed_prim (fun ha => pe_callTy (x := "int") call_intAll (by rfl) Y.tb.int boot_int ha) ok_int (ad_cons (ed_var (pv 2)) ad_nil)) (fun _ _ => rfl)))))
  (sds_cons (sd_setLc (i := 5) (ps_setLc (own := [("_law_k", 9)]) rfl sc_law_world.nd rfl rfl rfl (Dn.ID.pi (id_range1 (ad_cons (ed_add ed_int (ed_mod (ed_ix hr (ed_var (pv 3)) ed_int (fun _ _ => rfl)) (ed_ix hr (ed_var (pv 4)) ed_int (fun _ _ => rfl)))) ad_nil) (fun ha => pi_range1 (by rfl) Y.tb.range ha))) (blkOk_by (by rfl)) (fun _ _ _ _ _ => (pg_name (i := 9) sc_law_world.nd rfl (by first | exact .inl rfl | exact .inr rfl))) (fun _ _ _ _ _ => pts_nil) (fun _ _ _ _ _ => (ED.pe (ed_tup (ad_cons (ed_ix hr (ed_var (pv 1)) (ed_var (pv 9)) (fun _ _ => rfl)) (ad_cons (ed_callP (ok_law_value_by Y) rfl hr (by decide) (by rfl) dd0 (ad_cons (ed_div (ed_ix hr (ed_var (pv 3)) (ed_var (pv 9)) (fun _ _ => rfl)) ed_int) ad_nil)) (ad_cons (ed_eq hr (ed_mod (ed_ix hr (ed_var (pv 3)) (ed_var (pv 9)) (fun _ _ => rfl)) ed_int) ed_int) ad_nil))))))) (gw_name (by decide)) yes_of)
  (sds_cons (sd_setLc (i := 6) (ps_setLc (own := [("_law_k", 9)]) rfl sc_law_world.nd rfl rfl rfl (Dn.ID.pi (id_range1 (ad_cons (ed_add ed_int (ed_mod (ed_ix hr (ed_var (pv 3)) ed_int (fun _ _ => rfl)) (ed_ix hr (ed_var (pv 4)) ed_int (fun _ _ => rfl)))) ad_nil) (fun ha => pi_range1 (by rfl) Y.tb.range ha))) (blkOk_by (by rfl)) (fun _ _ _ _ _ => (pg_name (i := 9) sc_law_world.nd rfl (by first | exact .inl rfl | exact .inr rfl))) (fun _ _ _ _ _ => pts_nil) (fun _ _ _ _ _ => (ED.pe (ed_tup (ad_cons (ed_ix hr (ed_var (pv 1)) (ed_add ed_int (ed_var (pv 9))) (fun _ _ => rfl)) (ad_cons (ed_add ed_int (ed_mod (ed_ix hr (ed_var (pv 3)) (ed_add ed_int (ed_var (pv 9))) (fun _ _ => rfl)) ed_int)) (ad_cons (ed_eq hr (ed_mod (ed_div (ed_ix hr (ed_var (pv 3)) (ed_add ed_int (ed_var (pv 9))) (fun _ _ => rfl)) ed_int) ed_int) ed_int) ad_nil))))))) (gw_name (by decide)) yes_of)
  (sds_cons (sd_set (ps_set (i := 7) sc_law_world.nd rfl (by first | exact .inl rfl | exact .inr rfl) (ED.pe (ed_sl (ed_sl (ed_var (pv 1)) (od_some (ed_sub ed_int (ed_mod (ed_ix hr (ed_var (pv 3)) ed_int (fun _ _ => rfl)) ed_int))) od_none) od_none (od_some (ed_add ed_int (ed_mod (ed_add ed_int (ed_ix hr (ed_var (pv 3)) ed_int (fun _ _ => rfl))) (ed_ix hr (ed_var (pv 4)) ed_int (fun _ _ => rfl)))))))))
  (sds_cons (sd_set (ps_set (i := 8) sc_law_world.nd rfl (by first | exact .inl rfl | exact .inr rfl) (ED.pe (ed_callP (ok_law_drawn Y) rfl hr (by decide) (by rfl) dd0 (ad_cons (ed_callP (ok_law_cell_at Y) rfl hr (by decide) (by rfl) dd0 (ad_cons (ed_var (pv 0)) (ad_cons ed_int ad_nil))) (ad_cons (ed_mod (ed_div (ed_ix hr (ed_var (pv 3)) ed_int (fun _ _ => rfl)) ed_int) (ed_ix hr (ed_var (pv 4)) ed_int (fun _ _ => rfl))) (ad_cons (ed_var (pv 2)) ad_nil)))))))
  (sds_one (sd_ret (ed_tup (ad_cons (ed_var (pv 7)) (ad_cons (ed_var (pv 5)) (ad_cons (ed_var (pv 6)) (ad_cons (ed_lc (pe_lc (own := [("_law_number", 10)]) rfl sc_law_world.nd (Dn.ID.pi (id_seq (ed_var (pv 8)))) (blkOk_by (by rfl)) (fun _ _ _ _ _ => (pg_name (i := 10) sc_law_world.nd rfl (by first | exact .inl rfl | exact .inr rfl))) (fun _ _ _ _ _ => pts_nil) (fun _ _ _ _ _ => (ED.pe (ed_callP (ok_law_value_by Y) rfl hr (by decide) (by rfl) dd0 (ad_cons (ed_var (pv 10)) ad_nil))))) (gw_name (by decide)) yes_of) (ad_cons (ed_var (pv 2)) ad_nil))))))))))))))))
theorem ok_law_world (Y : Fx K mg) : FnC P w K mg base "_law_world" 2 ["_law_script"] [] F_law_world := by
  obtain ⟨fd, FD⟩ := Y.c.def_ 22 (d := d_law_world) rfl
  exact FnC.of FD (Y.glo 8) (ok_law_world_fn FD Y) fun _ _ _ _ _ _ us hl => match us, hl with | [_], _ => rfl
theorem sc_law_led : FnScope ["_law_xs", "_law_at", "_law_many"] ["_law_xs", "_law_at", "_law_many"] (defScope s_law_led) := ⟨rfl, rfl, rfl, by decide +kernel, rfl, by decide +kernel, by decide +kernel⟩
theorem ok_law_led_fn {f : Addr} {fd : FuncData} (FD : FunD K d_law_led.name d_law_led.qual d_law_led.params d_law_led.body d_law_led.scope (He.DefD.dvs K d_law_led) (He.DefD.kws K d_law_led) f fd) (Y : Fx K mg) : FnOk P w K mg base CX0 1 f fd ["_law_xs", "_law_at", "_law_many"] (spS K 3 F_law_led) := by
  refine fn_ok FD sc_law_led fun cdv A outer s H E hr => ?_
  exact (sds_cons (sd_if (td_eq hr (ed_mod (ed_ix hr (ed_var (pv 0)) ed_int (fun _ _ => rfl)) ed_int) ed_int) (sds_one (sd_ret (ed_mod (ed_ix hr (ed_var (pv 0)) ed_int (fun _ _ => rfl)) (ed_var (pv 2))))) sds_nil)
  (sds_one (sd_ret (ed_add (ed_add (ed_var (pv 1)) ed_int) (ed_mod (ed_ix hr (ed_var (pv 0)) ed_int (fun _ _ => rfl)) (ed_sub (ed_sub (ed_var (pv 2)) ed_int) (ed_var (pv 1))))))))
theorem ok_law_led (Y : Fx K mg) : FnC P w K mg base "_law_led" 1 ["_law_xs", "_law_at", "_law_many"] [] F_law_led := by
  obtain ⟨fd, FD⟩ := Y.c.def_ 23 (d := d_law_led) rfl
  exact FnC.of FD (Y.glo 9) (ok_law_led_fn FD Y) fun _ _ _ _ _ _ us hl => match us, hl with | [_, _, _], _ => rfl
theorem sc_law_row : FnScope ["_law_cell", "_law_at", "_law_many", "_law_world_here", "_law_xs", "_law_x", "_law_name", "_law_shelf", "_law_a", "_law_b", "_law_kind", "_law_boxes", "_law_cells", "_law_shelves", "_law_letters", "_law_digits"] ["_law_cell", "_law_at", "_law_many", "_law_world_here"] (defScope s_law_row) := ⟨rfl, rfl, rfl, by decide +kernel, rfl, by decide +kernel, by decide +kernel⟩
theorem ok_law_row_fn {f : Addr} {fd : FuncData} (FD : FunD K d_law_row.name d_law_row.qual d_law_row.params d_law_row.body d_law_row.scope (He.DefD.dvs K d_law_row) (He.DefD.kws K d_law_row) f fd) (Y : Fx K mg) : FnOk P w K mg base CX0 3 f fd ["_law_cell", "_law_at", "_law_many", "_law_world_here"] (spS K 4 F_law_row) := by
  refine fn_ok FD sc_law_row fun cdv A outer s H E hr => ?_
  exact (sds_cons (sd_asg (ps_asg (ED.pe (ed_var (pv 3))) (GD.pg (gd_t rfl (gds_c (gd_name (pg_name (i := 11) sc_law_row.nd rfl (by first | exact .inl rfl | exact .inr rfl))) (gds_c (gd_name (pg_name (i := 12) sc_law_row.nd rfl (by first | exact .inl rfl | exact .inr rfl))) (gds_c (gd_name (pg_name (i := 13) sc_law_row.nd rfl (by first | exact .inl rfl | exact .inr rfl))) (gds_c (gd_name (pg_name (i := 14) sc_law_row.nd rfl (by first | exact .inl rfl | exact .inr rfl))) (gds_c (gd_name (pg_name (i := 15) sc_law_row.nd rfl (by first | exact .inl rfl | exact .inr rfl))) gds_nil)))))))))
  (sds_cons (sd_set (ps_set (i := 4) sc_law_row.nd rfl (by first | exact .inl rfl | exact .inr rfl) (ED.pe (ed_callP (ok_law_drawn Y) rfl hr (by decide) (by rfl) dd0 (ad_cons (ed_var (pv 0)) (ad_cons ed_int (ad_cons (ed_var (pv 15)) ad_nil)))))))
  (sds_cons (sd_set (ps_set (i := 5) sc_law_row.nd rfl (by first | exact .inl rfl | exact .inr rfl) (ED.pe (ed_ix hr (ed_var (pv 11)) (ed_mod (ed_ix hr (ed_var (pv 4)) ed_int (fun _ _ => rfl)) (ed_prim (fun ha => pe_callB (x := "len") call_lenAll (by rfl) Y.tb.len boot_len ha) ok_len (ad_cons (ed_var (pv 11)) ad_nil))) (fun _ _ => rfl)))))
  (sds_cons (sd_set (ps_set (i := 6) sc_law_row.nd rfl (by first | exact .inl rfl | exact .inr rfl) (ED.pe (ed_ix hr (ed_ix hr (ed_var (pv 12)) (ed_mod (ed_ix hr (ed_var (pv 4)) ed_int (fun _ _ => rfl)) (ed_prim (fun ha => pe_callB (x := "len") call_lenAll (by rfl) Y.tb.len boot_len ha) ok_len (ad_cons (ed_var (pv 12)) ad_nil))) (fun _ _ => rfl)) ed_int (fun _ _ => rfl)))))
  (sds_cons (sd_set (ps_set (i := 7) sc_law_row.nd rfl (by first | exact .inl rfl | exact .inr rfl) (ED.pe (ed_ix hr (ed_ix hr (ed_var (pv 13)) (ed_mod (ed_ix hr (ed_var (pv 4)) ed_int (fun _ _ => rfl)) (ed_prim (fun ha => pe_callB (x := "len") call_lenAll (by rfl) Y.tb.len boot_len ha) ok_len (ad_cons (ed_var (pv 13)) ad_nil))) (fun _ _ => rfl)) ed_int (fun _ _ => rfl)))))
  (sds_cons (sd_set (ps_set (i := 8) sc_law_row.nd rfl (by first | exact .inl rfl | exact .inr rfl) (ED.pe (ed_callP (ok_law_atom Y) rfl hr (by decide) (by rfl) dd0 (ad_cons (ed_ix hr (ed_var (pv 4)) ed_int (fun _ _ => rfl)) (ad_cons (ed_var (pv 11)) ad_nil))))))
  (sds_cons (sd_set (ps_set (i := 9) sc_law_row.nd rfl (by first | exact .inl rfl | exact .inr rfl) (ED.pe (ed_callP (ok_law_atom Y) rfl hr (by decide) (by rfl) dd0 (ad_cons (ed_ix hr (ed_var (pv 4)) ed_int (fun _ _ => rfl)) (ad_cons (ed_var (pv 11)) ad_nil))))))
  (sds_cons (sd_set (ps_set (i := 10) sc_law_row.nd rfl (by first | exact .inl rfl | exact .inr rfl) (ED.pe (ed_mod (ed_ix hr (ed_var (pv 4)) ed_int (fun _ _ => rfl)) ed_int))))
  (sds_cons (sd_if (td_lt (ed_var (pv 10)) ed_int) (sds_one (sd_ret (ed_tup (ad_cons ed_str (ad_cons (ed_var (pv 5)) (ad_cons (ed_ix hr ed_str (ed_mod (ed_ix hr (ed_var (pv 4)) ed_int (fun _ _ => rfl)) ed_int) (fun _ _ => rfl)) (ad_cons (ed_var (pv 8)) (ad_cons (ed_var (pv 9)) ad_nil)))))))) sds_nil)
  (sds_cons (sd_if (td_lt (ed_var (pv 10)) ed_int) (sds_one (sd_ret (ed_ix hr (ed_lst (ad_cons (ed_tup (ad_cons ed_str (ad_cons (ed_var (pv 5)) (ad_cons (ed_var (pv 6)) ad_nil)))) (ad_cons (ed_tup (ad_cons ed_str (ad_cons (ed_var (pv 6)) (ad_cons (ed_var (pv 8)) ad_nil)))) (ad_cons (ed_tup (ad_cons ed_str (ad_cons (ed_var (pv 5)) (ad_cons (ed_var (pv 7)) (ad_cons (ed_var (pv 8)) ad_nil))))) (ad_cons (ed_tup (ad_cons ed_str (ad_cons (ed_var (pv 7)) (ad_cons (ed_var (pv 8)) (ad_cons (ed_var (pv 9)) ad_nil))))) ad_nil))))) (ed_mod (ed_var (pv 10)) ed_int) (fun _ _ => rfl)))) sds_nil)
  (sds_cons (sd_if (td_lt (ed_var (pv 10)) ed_int) (sds_one (sd_ret (ed_ix hr (ed_lst (ad_cons (ed_tup (ad_cons ed_str (ad_cons (ed_var (pv 5)) (ad_cons (ed_var (pv 8)) ad_nil)))) (ad_cons (ed_tup (ad_cons ed_str (ad_cons (ed_var (pv 5)) ad_nil))) (ad_cons (ed_tup (ad_cons ed_str (ad_cons (ed_var (pv 8)) ad_nil))) ad_nil)))) (ed_mod (ed_var (pv 10)) ed_int) (fun _ _ => rfl)))) sds_nil)
  (sds_cons (sd_if (td_lt (ed_var (pv 10)) ed_int) (sds_one (sd_ret (ed_tup (ad_cons ed_str (ad_cons (ed_ix hr (ed_lst (ad_cons (ed_var (pv 5)) (ad_cons (ed_var (pv 8)) ad_nil))) (ed_mod (ed_ix hr (ed_var (pv 4)) ed_int (fun _ _ => rfl)) ed_int) (fun _ _ => rfl)) (ad_cons (ed_callP (ok_law_led Y) rfl hr (by decide) (by rfl) dd0 (ad_cons (ed_var (pv 4)) (ad_cons (ed_var (pv 1)) (ad_cons (ed_var (pv 2)) ad_nil)))) ad_nil)))))) sds_nil)
  (sds_one (sd_ret (ed_ix hr (ed_lst (ad_cons (ed_tup (ad_cons ed_str (ad_cons (ed_var (pv 8)) ad_nil))) (ad_cons (ed_tup (ad_cons ed_str (ad_cons (ed_var (pv 9)) ad_nil))) (ad_cons (ed_tup (ad_cons ed_str (ad_cons (ed_callP (ok_law_led Y) rfl hr (by decide) (by rfl) dd0 (ad_cons (ed_var (pv 4)) (ad_cons (ed_var (pv 1)) (ad_cons (ed_var (pv 2)) ad_nil)))) ad_nil))) ad_nil)))) (ed_mod (ed_ix hr (ed_var (pv 4)) ed_int (fun _ _ => rfl)) ed_int) (fun _ _ => rfl))))))))))))))))
theorem ok_law_row (Y : Fx K mg) : FnC P w K mg base "_law_row" 3 ["_law_cell", "_law_at", "_law_many", "_law_world_here"] [] F_law_row := by
  obtain ⟨fd, FD⟩ := Y.c.def_ 24 (d := d_law_row) rfl
  exact FnC.of FD (Y.glo 10) (ok_law_row_fn FD Y) fun _ _ _ _ _ _ us hl => match us, hl with | [_, _, _, _], _ => rfl
theorem sc_law_program : FnScope ["_law_some", "_law_world_here", "_law_last", "_law_rows", "_law_at"] ["_law_some", "_law_world_here", "_law_last"] (defScope s_law_program) := ⟨rfl, rfl, rfl, by decide +kernel, rfl, by decide +kernel, by decide +kernel⟩
theorem ok_law_program_fn {f : Addr} {fd : FuncData} (FD : FunD K d_law_program.name d_law_program.qual d_law_program.params d_law_program.body d_law_program.scope (He.DefD.dvs K d_law_program) (He.DefD.kws K d_law_program) f fd) (Y : Fx K mg) : FnOk P w K mg base CX0 4 f fd ["_law_some", "_law_world_here", "_law_last"] (spS K 3 F_law_program) := by
  refine fn_ok FD sc_law_program fun cdv A outer s H E hr => ?_
  exact (sds_cons (sd_setLc (i := 3) (ps_setLc (own := [("_law_at", 4)]) rfl sc_law_program.nd rfl rfl rfl (Dn.ID.pi (id_range1 (ad_cons (ed_prim (fun ha => pe_callB (x := "len") call_lenAll (by rfl) Y.tb.len boot_len ha) ok_len (ad_cons (ed_var (pv 0)) ad_nil)) ad_nil) (fun ha => pi_range1 (by rfl) Y.tb.range ha))) (blkOk_by (by rfl)) (fun _ _ _ _ _ => (pg_name (i := 4) sc_law_program.nd rfl (by first | exact .inl rfl | exact .inr rfl))) (fun _ _ _ _ _ => pts_nil) (fun _ _ _ _ _ => (ED.pe (ed_callP (ok_law_row Y) rfl hr (by decide) (by rfl) dd0 (ad_cons (ed_ix hr (ed_var (pv 0)) (ed_var (pv 4)) (fun _ _ => rfl)) (ad_cons (ed_var (pv 4)) (ad_cons (ed_add (ed_prim (fun ha => pe_callB (x := "len") call_lenAll (by rfl) Y.tb.len boot_len ha) ok_len (ad_cons (ed_var (pv 0)) ad_nil)) ed_int) (ad_cons (ed_var (pv 1)) ad_nil)))))))) (gw_name (by decide)) yes_of)
  (sds_one (sd_ret (ed_tup (ad_cons (ed_prim (fun ha => pe_callTy (x := "tuple") call_tupAll (by rfl) Y.tb.tuple boot_tuple ha) ok_tuple (ad_cons (ed_ix hr (ed_var (pv 1)) ed_int (fun _ _ => rfl)) ad_nil)) (ad_cons (ed_prim (fun ha => pe_callTy (x := "tuple") call_tupAll (by rfl) Y.tb.tuple boot_tuple ha) ok_tuple (ad_cons (ed_ix hr (ed_var (pv 1)) ed_int (fun _ _ => rfl)) ad_nil)) (ad_cons (ed_add (ed_prim (fun ha => pe_callTy (x := "tuple") call_tupAll (by rfl) Y.tb.tuple boot_tuple ha) ok_tuple (ad_cons (ed_var (pv 3)) ad_nil)) (ed_tup (ad_cons (ed_tup (ad_cons ed_str (ad_cons (ed_var (pv 2)) ad_nil))) ad_nil))) ad_nil)))))))
theorem ok_law_program (Y : Fx K mg) : FnC P w K mg base "_law_program" 4 ["_law_some", "_law_world_here", "_law_last"] [] F_law_program := by
  obtain ⟨fd, FD⟩ := Y.c.def_ 25 (d := d_law_program) rfl
  exact FnC.of FD (Y.glo 11) (ok_law_program_fn FD Y) fun _ _ _ _ _ _ us hl => match us, hl with | [_, _, _], _ => rfl
theorem sc_law_value : FnScope ["_law_sign", "_law_one", "_law_other", "_law_some"] ["_law_sign", "_law_one", "_law_other"] (defScope s_law_value) := ⟨rfl, rfl, rfl, by decide +kernel, rfl, by decide +kernel, by decide +kernel⟩
theorem ok_law_value_fn {f : Addr} {fd : FuncData} (FD : FunD K d_law_value.name d_law_value.qual d_law_value.params d_law_value.body d_law_value.scope (He.DefD.dvs K d_law_value) (He.DefD.kws K d_law_value) f fd) (Y : Fx K mg) : FnOk P w K mg base CX0 1 f fd ["_law_sign", "_law_one", "_law_other"] (spS K 3 F_law_value) := by
  refine fn_ok FD sc_law_value fun cdv A outer s H E hr => ?_
  exact (sds_cons (sd_if (td_eq hr (ed_var (pv 0)) ed_str) (sds_one (sd_ret (ed_prim (fun ha => pe_callTy (x := "int") call_intAll (by rfl) Y.tb.int boot_int ha) ok_int (ad_cons (ed_lt (ed_var (pv 1)) (ed_var (pv 2))) ad_nil)))) sds_nil)
  (sds_cons (sd_if (td_eq hr (ed_var (pv 0)) ed_str) (sds_one (sd_ret (ed_prim (fun ha => pe_callTy (x := "int") call_intAll (by rfl) Y.tb.int boot_int ha) ok_int (ad_cons (ed_eq hr (ed_var (pv 1)) (ed_var (pv 2))) ad_nil)))) sds_nil)
  (sds_cons (sd_set (ps_set (i := 3) sc_law_value.nd rfl (by first | exact .inl rfl | exact .inr rfl) (ED.pe (ed_disp (ppd_cons ed_str (ed_add (ed_var (pv 1)) (ed_var (pv 2))) (ppd_cons ed_str (ed_sub (ed_var (pv 1)) (ed_var (pv 2))) (ppd_cons ed_str (ed_mul (ed_var (pv 1)) (ed_var (pv 2))) (ppd_cons ed_str (ed_band (ed_var (pv 1)) (ed_var (pv 2))) (ppd_cons ed_str (ed_bor (ed_var (pv 1)) (ed_var (pv 2))) (ppd_cons ed_str (ed_bxor (ed_var (pv 1)) (ed_var (pv 2))) ppd_nil))))))))))
  (sds_one (sd_ret (ed_mod (ed_ix hr (ed_var (pv 3)) (ed_var (pv 0)) (fun _ _ => rfl)) (ed_pow ed_int ed_int)))))))
theorem ok_law_value (Y : Fx K mg) : FnC P w K mg base "_law_value" 1 ["_law_sign", "_law_one", "_law_other"] [] F_law_value := by
  obtain ⟨fd, FD⟩ := Y.c.def_ 26 (d := d_law_value) rfl
  exact FnC.of FD (Y.glo 12) (ok_law_value_fn FD Y) fun _ _ _ _ _ _ us hl => match us, hl with | [_, _, _], _ => rfl
theorem sc_law_worth : FnScope ["_law_atom_here", "_law_now"] ["_law_atom_here", "_law_now"] (defScope s_law_worth) := ⟨rfl, rfl, rfl, by decide +kernel, rfl, by decide +kernel, by decide +kernel⟩
theorem ok_law_worth_fn {f : Addr} {fd : FuncData} (FD : FunD K d_law_worth.name d_law_worth.qual d_law_worth.params d_law_worth.body d_law_worth.scope (He.DefD.dvs K d_law_worth) (He.DefD.kws K d_law_worth) f fd) (Y : Fx K mg) : FnOk P w K mg base CX0 1 f fd ["_law_atom_here", "_law_now"] (spS K 2 F_law_worth) := by
  refine fn_ok FD sc_law_worth fun cdv A outer s H E hr => ?_
  exact (sds_cons (sd_if (td_val (e_isi (T7 := .str) Y.tb Y.tb.str (by decide) (by rfl) (by rfl) boot_str (ed_var (pv 0)))) (sds_one (sd_ret (ed_get2 (ed_ix hr (ed_var (pv 1)) ed_str (fun _ _ => rfl)) (ed_var (pv 0)) ed_int (fun ho he hf => pe_dget2 (hu1 hr) ho he hf ⟨by rfl, by rfl, by rfl, by rfl⟩)))) sds_nil)
  (sds_one (sd_ret (ed_var (pv 0)))))
theorem ok_law_worth (Y : Fx K mg) : FnC P w K mg base "_law_worth" 1 ["_law_atom_here", "_law_now"] [] F_law_worth := by
  obtain ⟨fd, FD⟩ := Y.c.def_ 27 (d := d_law_worth) rfl
  exact FnC.of FD (Y.glo 13) (ok_law_worth_fn FD Y) fun _ _ _ _ _ _ us hl => match us, hl with | [_, _], _ => rfl
theorem sc_law_brought : FnScope ["_law_row_here", "_law_now", "_law_some"] ["_law_row_here", "_law_now"] (defScope s_law_brought) := ⟨rfl, rfl, rfl, by decide +kernel, rfl, by decide +kernel, by decide +kernel⟩
theorem ok_law_brought_fn {f : Addr} {fd : FuncData} (FD : FunD K d_law_brought.name d_law_brought.qual d_law_brought.params d_law_brought.body d_law_brought.scope (He.DefD.dvs K d_law_brought) (He.DefD.kws K d_law_brought) f fd) (Y : Fx K mg) : FnOk P w K mg base CX0 2 f fd ["_law_row_here", "_law_now"] (spS K 2 F_law_brought) := by
  refine fn_ok FD sc_law_brought fun cdv A outer s H E hr => ?_
  exact (sds_cons (sd_if (td_eq hr (ed_ix hr (ed_var (pv 0)) ed_int (fun _ _ => rfl)) ed_str) (sds_one (sd_ret (ed_callP (ok_law_value Y) rfl hr (by decide) (by rfl) dd0 (ad_cons (ed_ix hr (ed_var (pv 0)) ed_int (fun _ _ => rfl)) (ad_cons (ed_callS (ok_law_worth Y) rfl hr (by decide) (by rfl) dd0 (ad_cons (ed_ix hr (ed_var (pv 0)) ed_int (fun _ _ => rfl)) (ad_cons (ed_var (pv 1)) ad_nil))) (ad_cons (ed_callS (ok_law_worth Y) rfl hr (by decide) (by rfl) dd0 (ad_cons (ed_ix hr (ed_var (pv 0)) ed_int (fun _ _ => rfl)) (ad_cons (ed_var (pv 1)) ad_nil))) ad_nil)))))) sds_nil)
  (sds_cons (sd_if (td_eq hr (ed_ix hr (ed_var (pv 0)) ed_int (fun _ _ => rfl)) ed_str) (sds_one (sd_ret (ed_ix hr (ed_ix hr (ed_ix hr (ed_var (pv 1)) ed_str (fun _ _ => rfl)) (ed_ix hr (ed_var (pv 0)) ed_int (fun _ _ => rfl)) (fun _ _ => rfl)) ed_int (fun _ _ => rfl)))) sds_nil)
  (sds_cons (sd_if (td_eq hr (ed_ix hr (ed_var (pv 0)) ed_int (fun _ _ => rfl)) ed_str) (sds_cons (sd_set (ps_set (i := 2) sc_law_brought.nd rfl (by first | exact .inl rfl | exact .inr rfl) (ED.pe (ed_ix hr (ed_ix hr (ed_var (pv 1)) ed_str (fun _ _ => rfl)) (ed_ix hr (ed_var (pv 0)) ed_int (fun _ _ => rfl)) (fun _ _ => rfl)))))
  (sds_one (sd_ret (ed_ix hr (ed_var (pv 2)) (ed_mod (ed_callS (ok_law_worth Y) rfl hr (by decide) (by rfl) dd0 (ad_cons (ed_ix hr (ed_var (pv 0)) ed_int (fun _ _ => rfl)) (ad_cons (ed_var (pv 1)) ad_nil))) (ed_prim (fun ha => pe_callB (x := "len") call_lenAll (by rfl) Y.tb.len boot_len ha) ok_len (ad_cons (ed_var (pv 2)) ad_nil))) (fun _ _ => rfl))))) sds_nil)
  (sds_cons (sd_if (td_eq hr (ed_ix hr (ed_var (pv 0)) ed_int (fun _ _ => rfl)) ed_str) (sds_cons (sd_sub (ps_asg (ED.pe (ed_add (ed_ix hr (ed_var (pv 1)) ed_str (fun _ _ => rfl)) ed_int)) (pg_sub (ED.pe (ed_var (pv 1))) (ED.pe ed_str) (PSet.or set_list (set_dict (hu1 hr))))))
  (sds_one (sd_ret (ed_ix hr (ed_add (ed_ix hr (ed_var (pv 1)) ed_str (fun _ _ => rfl)) (ed_mul (ed_lst (ad_cons ed_int ad_nil)) ed_int)) (ed_sub (ed_ix hr (ed_var (pv 1)) ed_str (fun _ _ => rfl)) ed_int) (fun _ _ => rfl))))) sds_nil)
  (sds_one (sd_ret (ed_callS (ok_law_worth Y) rfl hr (by decide) (by rfl) dd0 (ad_cons (ed_ix hr (ed_var (pv 0)) ed_int (fun _ _ => rfl)) (ad_cons (ed_var (pv 1)) ad_nil)))))))))
theorem ok_law_brought (Y : Fx K mg) : FnC P w K mg base "_law_brought" 2 ["_law_row_here", "_law_now"] [] F_law_brought := by
  obtain ⟨fd, FD⟩ := Y.c.def_ 28 (d := d_law_brought) rfl
  exact FnC.of FD (Y.glo 14) (ok_law_brought_fn FD Y) fun _ _ _ _ _ _ us hl => match us, hl with | [_, _], _ => rfl
theorem sc_law_done : FnScope ["_law_row_here", "_law_now", "_law_some"] ["_law_row_here", "_law_now"] (defScope s_law_done) := ⟨rfl, rfl, rfl, by decide +kernel, rfl, by decide +kernel, by decide +kernel⟩
theorem ok_law_done_fn {f : Addr} {fd : FuncData} (FD : FunD K d_law_done.name d_law_done.qual d_law_done.params d_law_done.body d_law_done.scope (He.DefD.dvs K d_law_done) (He.DefD.kws K d_law_done) f fd) (Y : Fx K mg) : FnOk P w K mg base CX0 3 f fd ["_law_row_here", "_law_now"] (spS K 2 F_law_done) := by
  refine fn_ok FD sc_law_done fun cdv A outer s H E hr => ?_
  exact (sds_cons (sd_sub (ps_asg (ED.pe (ed_add (ed_ix hr (ed_var (pv 1)) ed_str (fun _ _ => rfl)) ed_int)) (pg_sub (ED.pe (ed_var (pv 1))) (ED.pe ed_str) (PSet.or set_list (set_dict (hu1 hr))))))
  (sds_cons (sd_if (td_eq hr (ed_ix hr (ed_var (pv 0)) ed_int (fun _ _ => rfl)) ed_str) (sds_cons (sd_sub (ps_asg (ED.pe (ed_callS (ok_law_worth Y) rfl hr (by decide) (by rfl) dd0 (ad_cons (ed_ix hr (ed_var (pv 0)) ed_int (fun _ _ => rfl)) (ad_cons (ed_var (pv 1)) ad_nil)))) (pg_sub (ED.pe (ed_var (pv 1))) (ED.pe ed_str) (PSet.or set_list (set_dict (hu1 hr))))))
  (sds_one sd_retN)) sds_nil)
  (sds_cons (sd_sub (ps_asg (ED.pe (ed_add (ed_ix hr (ed_var (pv 1)) ed_str (fun _ _ => rfl)) ed_int)) (pg_sub (ED.pe (ed_var (pv 1))) (ED.pe ed_str) (PSet.or set_list (set_dict (hu1 hr))))))
  (sds_one (sd_if (TDW.td (tw_or (td_eq hr (ed_ix hr (ed_var (pv 0)) ed_int (fun _ _ => rfl)) ed_str) (tw_or1 (TDW.td (tw_and (td_eq hr (ed_ix hr (ed_var (pv 0)) ed_int (fun _ _ => rfl)) ed_str) (tw_and1 (td_ne hr (ed_callS (ok_law_worth Y) rfl hr (by decide) (by rfl) dd0 (ad_cons (ed_ix hr (ed_var (pv 0)) ed_int (fun _ _ => rfl)) (ad_cons (ed_var (pv 1)) ad_nil))) ed_int))))))) (sds_one (sd_sub (ps_asg (ED.pe (ed_ix hr (ed_var (pv 0)) (ed_neg ed_int) (fun _ _ => rfl))) (pg_sub (ED.pe (ed_var (pv 1))) (ED.pe ed_str) (PSet.or set_list (set_dict (hu1 hr))))))) (sds_one (sd_if (td_eq hr (ed_ix hr (ed_var (pv 0)) ed_int (fun _ _ => rfl)) ed_str) (sds_one (sd_sub (ps_asg (ED.pe (ed_lstM (ad_cons (ed_callS (ok_law_worth Y) rfl hr (by decide) (by rfl) dd0 (ad_cons (ed_ix hr (ed_var (pv 0)) ed_int (fun _ _ => rfl)) (ad_cons (ed_var (pv 1)) ad_nil))) ad_nil))) (pg_sub (ED.pe (ed_ix hr (ed_var (pv 1)) ed_str (fun _ _ => rfl))) (ED.pe (ed_ix hr (ed_var (pv 0)) ed_int (fun _ _ => rfl))) (PSet.or set_list (set_dict (hu1 hr))))))) (sds_one (sd_if (td_eq hr (ed_ix hr (ed_var (pv 0)) ed_int (fun _ _ => rfl)) ed_str) (sds_cons (sd_set (ps_set (i := 2) sc_law_done.nd rfl (by first | exact .inl rfl | exact .inr rfl) (ED.pe (ed_ix hr (ed_ix hr (ed_var (pv 1)) ed_str (fun _ _ => rfl)) (ed_ix hr (ed_var (pv 0)) ed_int (fun _ _ => rfl)) (fun _ _ => rfl)))))
  (sds_one (sd_sub (ps_asg (ED.pe (ed_callS (ok_law_worth Y) rfl hr (by decide) (by rfl) dd0 (ad_cons (ed_ix hr (ed_var (pv 0)) ed_int (fun _ _ => rfl)) (ad_cons (ed_var (pv 1)) ad_nil)))) (pg_sub (ED.pe (ed_var (pv 2))) (ED.pe (ed_mod (ed_callS (ok_law_worth Y) rfl hr (by decide) (by rfl) dd0 (ad_cons (ed_ix hr (ed_var (pv 0)) ed_int (fun _ _ => rfl)) (ad_cons (ed_var (pv 1)) ad_nil))) (ed_prim (fun ha => pe_callB (x := "len") call_lenAll (by rfl) Y.tb.len boot_len ha) ok_len (ad_cons (ed_var (pv 2)) ad_nil)))) (PSet.or set_list (set_dict (hu1 hr)))))))) (sds_one (sd_if (td_eq hr (ed_ix hr (ed_var (pv 0)) ed_int (fun _ _ => rfl)) ed_str) (sds_one (sd_expr (ed_mt ok_append (ed_ix hr (ed_var (pv 1)) ed_str (fun _ _ => rfl)) (ad_cons (ed_callS (ok_law_worth Y) rfl hr (by decide) (by rfl) dd0 (ad_cons (ed_ix hr (ed_var (pv 0)) ed_int (fun _ _ => rfl)) (ad_cons (ed_var (pv 1)) ad_nil))) ad_nil) (fun ho ha => pe_bm PySem.F.plainAttrs_list PySem.F.slot_list_append PySem.F.type_list_append mt_append ho ha)))) (sds_one (sd_if (td_ne hr (ed_ix hr (ed_var (pv 0)) ed_int (fun _ _ => rfl)) ed_str) (sds_one (sd_sub (ps_asg (ED.pe (ed_callS (ok_law_brought Y) rfl hr (by decide) (by rfl) dd0 (ad_cons (ed_var (pv 0)) (ad_cons (ed_var (pv 1)) ad_nil)))) (pg_sub (ED.pe (ed_ix hr (ed_var (pv 1)) ed_str (fun _ _ => rfl))) (ED.pe (ed_ix hr (ed_var (pv 0)) ed_int (fun _ _ => rfl))) (PSet.or set_list (set_dict (hu1 hr))))))) sds_nil)))))))))))))
theorem ok_law_done (Y : Fx K mg) : FnC P w K mg base "_law_done" 3 ["_law_row_here", "_law_now"] [] F_law_done := by
  obtain ⟨fd, FD⟩ := Y.c.def_ 29 (d := d_law_done) rfl
  exact FnC.of FD (Y.glo 15) (ok_law_done_fn FD Y) fun _ _ _ _ _ _ us hl => match us, hl with | [_, _], _ => rfl
theorem sc_law_begun : FnScope ["_law_program_here", "_law_letters", "_law_now", "_law_name", "_law_start", "_law_twin", "_law_size"] ["_law_program_here", "_law_letters"] (defScope s_law_begun) := ⟨rfl, rfl, rfl, by decide +kernel, rfl, by decide +kernel, by decide +kernel⟩
theorem ok_law_begun_fn {f : Addr} {fd : FuncData} (FD : FunD K d_law_begun.name d_law_begun.qual d_law_begun.params d_law_begun.body d_law_begun.scope (He.DefD.dvs K d_law_begun) (He.DefD.kws K d_law_begun) f fd) (Y : Fx K mg) : FnOk P w K mg base CX0 1 f fd ["_law_program_here", "_law_letters"] (spS K 2 F_law_begun) := by
  refine fn_ok FD sc_law_begun fun cdv A outer s H E hr => ?_
  exact (sds_cons (sd_set (ps_set (i := 2) sc_law_begun.nd rfl (by first | exact .inl rfl | exact .inr rfl) (ED.pe (ed_disp (ppd_cons ed_str ed_int (ppd_cons ed_str ed_int (ppd_cons ed_str ed_int (ppd_cons ed_str ed_non (ppd_cons ed_str (ed_lstM ad_nil) (ppd_cons ed_str (ed_var (pv 1)) (ppd_cons ed_str (ed_dnewK pe_dnewK) (ppd_cons ed_str (ed_dnewK pe_dnewK) ppd_nil))))))))))))
  (sds_cons (sd_for (ps_for PassesOwn.never rfl (Dn.ID.pi (id_seq (ed_ix hr (ed_var (pv 0)) ed_int (fun _ _ => rfl)))) (GD.pg (gd_t rfl (gds_c (gd_name (pg_name (i := 3) sc_law_begun.nd rfl (by first | exact .inl rfl | exact .inr rfl))) (gds_c (gd_name (pg_name (i := 4) sc_law_begun.nd rfl (by first | exact .inl rfl | exact .inr rfl))) (gds_c (gd_name (pg_name (i := 5) sc_law_begun.nd rfl (by first | exact .inl rfl | exact .inr rfl))) gds_nil))))) (SDs.ps (sds_one (sd_sub (ps_asg (ED.pe (ed_lstM (ad_cons (ed_var (pv 4)) ad_nil))) (pg_sub (ED.pe (ed_ix hr (ed_var (pv 2)) ed_str (fun _ _ => rfl))) (ED.pe (ed_var (pv 3))) (PSet.or set_list (set_dict (hu1 hr))))))))))
  (sds_cons (sd_for (ps_for PassesOwn.never rfl (Dn.ID.pi (id_seq (ed_ix hr (ed_var (pv 0)) ed_int (fun _ _ => rfl)))) (GD.pg (gd_t rfl (gds_c (gd_name (pg_name (i := 3) sc_law_begun.nd rfl (by first | exact .inl rfl | exact .inr rfl))) (gds_c (gd_name (pg_name (i := 6) sc_law_begun.nd rfl (by first | exact .inl rfl | exact .inr rfl))) (gds_c (gd_name (pg_name (i := 5) sc_law_begun.nd rfl (by first | exact .inl rfl | exact .inr rfl))) gds_nil))))) (SDs.ps (sds_one (sd_sub (ps_asg (ED.pe (ed_mulM (ed_lst (ad_cons ed_int ad_nil)) (ed_var (pv 6)))) (pg_sub (ED.pe (ed_ix hr (ed_var (pv 2)) ed_str (fun _ _ => rfl))) (ED.pe (ed_var (pv 3))) (PSet.or set_list (set_dict (hu1 hr))))))))))
  (sds_one (sd_ret (ed_var (pv 2)))))))
theorem ok_law_begun (Y : Fx K mg) : FnC P w K mg base "_law_begun" 1 ["_law_program_here", "_law_letters"] [] F_law_begun := by
  obtain ⟨fd, FD⟩ := Y.c.def_ 30 (d := d_law_begun) rfl
  exact FnC.of FD (Y.glo 16) (ok_law_begun_fn FD Y) fun _ _ _ _ _ _ us hl => match us, hl with | [_, _], _ => rfl
theorem sc_law_long : FnScope ["_law_names_here", "_law_cell", "_law_rounds", "_law_rows", "_law_run", "_law_k", "_law_x", "_law_y"] ["_law_names_here", "_law_cell"] (defScope s_law_long) := ⟨rfl, rfl, rfl, by decide +kernel, rfl, by decide +kernel, by decide +kernel⟩
theorem ok_law_long_fn {f : Addr} {fd : FuncData} (FD : FunD K d_law_long.name d_law_long.qual d_law_long.params d_law_long.body d_law_long.scope (He.DefD.dvs K d_law_long) (He.DefD.kws K d_law_long) f fd) (Y : Fx K mg) : FnOk P w K mg base CX0 5 f fd ["_law_names_here", "_law_cell"] (spS K 2 F_law_long) := by
  refine fn_ok FD sc_law_long fun cdv A outer s H E hr => ?_
  exact (sds_cons (sd_asg (ps_asg (ED.pe (ed_sl (ed_var (pv 0)) od_none (od_some ed_int))) (GD.pg (gd_l rfl (gds_c (gd_name (pg_name (i := 6) sc_law_long.nd rfl (by first | exact .inl rfl | exact .inr rfl))) (gds_c (gd_name (pg_name (i := 7) sc_law_long.nd rfl (by first | exact .inl rfl | exact .inr rfl))) gds_nil))))))
  (sds_cons (sd_set (ps_set (i := 2) sc_law_long.nd rfl (by first | exact .inl rfl | exact .inr rfl) (ED.pe (ed_add ed_int (ed_mod (ed_var (pv 1)) ed_int)))))
  (sds_cons (sd_set (ps_set (i := 3) sc_law_long.nd rfl (by first | exact .inl rfl | exact .inr rfl) (ED.pe (ed_tup (ad_cons (ed_tup (ad_cons ed_str (ad_cons (ed_var (pv 6)) (ad_cons ed_str (ad_cons (ed_var (pv 6)) (ad_cons ed_int ad_nil)))))) (ad_cons (ed_tup (ad_cons ed_str (ad_cons (ed_var (pv 7)) (ad_cons ed_str (ad_cons (ed_var (pv 6)) (ad_cons (ed_var (pv 2)) ad_nil)))))) (ad_cons (ed_tup (ad_cons ed_str (ad_cons (ed_var (pv 7)) (ad_cons ed_int ad_nil)))) (ad_cons (ed_tup (ad_cons ed_str (ad_cons (ed_var (pv 7)) ad_nil))) (ad_cons (ed_tup (ad_cons ed_str (ad_cons (ed_var (pv 6)) ad_nil))) ad_nil)))))))))
  (sds_cons (sd_set (ps_set (i := 4) sc_law_long.nd rfl (by first | exact .inl rfl | exact .inr rfl) (ED.pe (ed_make (ok_Plain_init Y) rfl hr (by decide) (by rfl) dd0 (ad_cons (ed_tup (ad_cons (ed_tup ad_nil) (ad_cons (ed_tup ad_nil) (ad_cons (ed_var (pv 3)) ad_nil)))) (ad_cons (ed_lst ad_nil) ad_nil))))))
  (sds_cons (sd_for (ps_for PassesOwn.never rfl (Dn.ID.pi (id_range1 (ad_cons (ed_add (ed_mul ed_int (ed_var (pv 2))) ed_int) ad_nil) (fun ha => pi_range1 (by rfl) Y.tb.range ha))) (GD.pg (gd_name (pg_name (i := 5) sc_law_long.nd rfl (by first | exact .inl rfl | exact .inr rfl)))) (SDs.ps (sds_one (sd_expr (ed_meth0 (ok_Plain_step Y) rfl hr (by decide) dd0 (ed_var (pv 4))))))))
  (sds_cons (sd_if (TDW.td (tw_or (td_ne hr (ed_meth0 (ok_Plain_stands Y) rfl hr (by decide) dd0 (ed_var (pv 4))) ed_int) (tw_or (td_isnotB (ed_meth0 (ok_Plain_ended Y) rfl hr (by decide) dd0 (ed_var (pv 4))) ed_bl) (tw_or (td_ne hr (ed_meth (ok_Plain_box Y) rfl hr (by decide) dd0 (ed_var (pv 4)) (ad_cons (ed_var (pv 6)) ad_nil)) (ed_var (pv 2))) (tw_or1 (td_ne hr (ed_meth0 (ok_Plain_count Y) rfl hr (by decide) dd0 (ed_var (pv 4))) (ed_add (ed_mul ed_int (ed_var (pv 2))) ed_int))))))) (sds_one (sd_ret ed_bl)) sds_nil)
  (sds_cons (sd_expr (ed_meth0 (ok_Plain_step Y) rfl hr (by decide) dd0 (ed_var (pv 4))))
  (sds_one (sd_ret (ed_and (ed_isB (ed_meth0 (ok_Plain_ended Y) rfl hr (by decide) dd0 (ed_var (pv 4))) ed_bl) (ed_and (ed_eq hr (ed_meth0 (ok_Plain_answer Y) rfl hr (by decide) dd0 (ed_var (pv 4))) (ed_var (pv 2))) (ed_one (ed_eq hr (ed_meth0 (ok_Plain_sent Y) rfl hr (by decide) dd0 (ed_var (pv 4))) (ed_lst (ad_cons ed_int ad_nil)))))))))))))))
theorem ok_law_long (Y : Fx K mg) : FnC P w K mg base "_law_long" 5 ["_law_names_here", "_law_cell"] [] F_law_long := by
  obtain ⟨fd, FD⟩ := Y.c.def_ 31 (d := d_law_long) rfl
  exact FnC.of FD (Y.glo 17) (ok_law_long_fn FD Y) fun _ _ _ _ _ _ us hl => match us, hl with | [_, _], _ => rfl
theorem sc_law_wholes : FnScope ["_law_run", "_law_boxes", "_law_some", "_law_name", "_law_one"] ["_law_run", "_law_boxes"] (defScope s_law_wholes) := ⟨rfl, rfl, rfl, by decide +kernel, rfl, by decide +kernel, by decide +kernel⟩
theorem ok_law_wholes_fn {f : Addr} {fd : FuncData} (FD : FunD K d_law_wholes.name d_law_wholes.qual d_law_wholes.params d_law_wholes.body d_law_wholes.scope (He.DefD.dvs K d_law_wholes) (He.DefD.kws K d_law_wholes) f fd) (Y : Fx K mg) : FnOk P w K mg base CX0 2 f fd ["_law_run", "_law_boxes"] (spS K 2 F_law_wholes) := by
  refine fn_ok FD sc_law_wholes fun cdv A outer s H E hr => ?_
  exact (sds_cons (sd_set (ps_set (i := 2) sc_law_wholes.nd rfl (by first | exact .inl rfl | exact .inr rfl) (ED.pe (ed_add (ed_add (ed_lst (ad_cons (ed_meth0 (ok_Plain_stands Y) rfl hr (by decide) dd0 (ed_var (pv 0))) (ad_cons (ed_meth0 (ok_Plain_count Y) rfl hr (by decide) dd0 (ed_var (pv 0))) (ad_cons (ed_meth0 (ok_Plain_heard Y) rfl hr (by decide) dd0 (ed_var (pv 0))) ad_nil)))) (ed_meth0 (ok_Plain_sent Y) rfl hr (by decide) dd0 (ed_var (pv 0)))) (ed_lc (pe_lc (own := [("_law_name", 3)]) rfl sc_law_wholes.nd (Dn.ID.pi (id_seq (ed_var (pv 1)))) (blkOk_by (by rfl)) (fun _ _ _ _ _ => (pg_name (i := 3) sc_law_wholes.nd rfl (by first | exact .inl rfl | exact .inr rfl))) (fun _ _ _ _ _ => pts_nil) (fun _ _ _ _ _ => (ED.pe (ed_meth (ok_Plain_box Y) rfl hr (by decide) dd0 (ed_var (pv 0)) (ad_cons (ed_var (pv 3)) ad_nil))))) (gw_name (by decide)) yes_of)))))
  (sds_one (sd_ret (ed_prim (fun ha => pe_callB (x := "all") (cr_all rfl) (by rfl) Y.tb.all boot_all ha) ok_all (ad_cons (ed_lc (pe_lc (own := [("_law_one", 4)]) rfl sc_law_wholes.nd (Dn.ID.pi (id_seq (ed_var (pv 2)))) (blkOk_by (by rfl)) (fun _ _ _ _ _ => (pg_name (i := 4) sc_law_wholes.nd rfl (by first | exact .inl rfl | exact .inr rfl))) (fun _ _ _ _ _ => pts_nil) (fun _ _ _ _ _ => (ED.pe (ed_and (e_isi (T7 := .int) Y.tb Y.tb.int (by decide) (by rfl) (by rfl) boot_int (ed_var (pv 4))) (ed_one (ed_not (e_isi (T7 := .bool) Y.tb Y.tb.bool (by decide) (by rfl) (by rfl) boot_bool (ed_var (pv 4))))))))) (gw_name (by decide)) yes_of) ad_nil)))))
theorem ok_law_wholes (Y : Fx K mg) : FnC P w K mg base "_law_wholes" 2 ["_law_run", "_law_boxes"] [] F_law_wholes := by
  obtain ⟨fd, FD⟩ := Y.c.def_ 32 (d := d_law_wholes) rfl
  exact FnC.of FD (Y.glo 18) (ok_law_wholes_fn FD Y) fun _ _ _ _ _ _ us hl => match us, hl with | [_, _], _ => rfl
theorem sc_law_same : FnScope ["_law_run", "_law_now", "_law_program_here", "_law_boxes", "_law_name", "_law_found", "_law_start", "_law_twin", "_law_size"] ["_law_run", "_law_now", "_law_program_here", "_law_boxes"] (defScope s_law_same) := ⟨rfl, rfl, rfl, by decide +kernel, rfl, by decide +kernel, by decide +kernel⟩
theorem ok_law_same_fn {f : Addr} {fd : FuncData} (FD : FunD K d_law_same.name d_law_same.qual d_law_same.params d_law_same.body d_law_same.scope (He.DefD.dvs K d_law_same) (He.DefD.kws K d_law_same) f fd) (Y : Fx K mg) : FnOk P w K mg base CX0 3 f fd ["_law_run", "_law_now", "_law_program_here", "_law_boxes"] (spS K 4 F_law_same) := by
  refine fn_ok FD sc_law_same fun cdv A outer s H E hr => ?_
  exact (sds_cons (sd_if (td_not (td_val (ed_callS (ok_law_wholes Y) rfl hr (by decide) (by rfl) dd0 (ad_cons (ed_var (pv 0)) (ad_cons (ed_var (pv 3)) ad_nil))))) (sds_one (sd_ret ed_bl)) sds_nil)
  (sds_cons (sd_if (TDW.td (tw_or (td_ne hr (ed_meth0 (ok_Plain_stands Y) rfl hr (by decide) dd0 (ed_var (pv 0))) (ed_ix hr (ed_var (pv 1)) ed_str (fun _ _ => rfl))) (tw_or (td_ne hr (ed_meth0 (ok_Plain_count Y) rfl hr (by decide) dd0 (ed_var (pv 0))) (ed_ix hr (ed_var (pv 1)) ed_str (fun _ _ => rfl))) (tw_or1 (td_ne hr (ed_meth0 (ok_Plain_heard Y) rfl hr (by decide) dd0 (ed_var (pv 0))) (ed_ix hr (ed_var (pv 1)) ed_str (fun _ _ => rfl))))))) (sds_one (sd_ret ed_bl)) sds_nil)
  (sds_cons (sd_if (TDW.td (tw_or (td_ne hr (ed_meth0 (ok_Plain_sent Y) rfl hr (by decide) dd0 (ed_var (pv 0))) (ed_ix hr (ed_var (pv 1)) ed_str (fun _ _ => rfl))) (tw_or1 (td_ne hr (ed_meth0 (ok_Plain_answer Y) rfl hr (by decide) dd0 (ed_var (pv 0))) (ed_ix hr (ed_var (pv 1)) ed_str (fun _ _ => rfl)))))) (sds_one (sd_ret ed_bl)) sds_nil)
  (sds_cons (sd_for (ps_for PassesOwn.never rfl (Dn.ID.pi (id_seq (ed_ix hr (ed_var (pv 2)) ed_int (fun _ _ => rfl)))) (GD.pg (gd_t rfl (gds_c (gd_name (pg_name (i := 4) sc_law_same.nd rfl (by first | exact .inl rfl | exact .inr rfl))) (gds_c (gd_name (pg_name (i := 6) sc_law_same.nd rfl (by first | exact .inl rfl | exact .inr rfl))) (gds_c (gd_name (pg_name (i := 7) sc_law_same.nd rfl (by first | exact .inl rfl | exact .inr rfl))) gds_nil))))) (SDs.ps (sds_one (sd_if (td_ne hr (ed_lst (ad_cons (ed_meth (ok_Plain_cell Y) rfl hr (by decide) dd0 (ed_var (pv 0)) (ad_cons (ed_var (pv 4)) ad_nil)) ad_nil)) (ed_ix hr (ed_ix hr (ed_var (pv 1)) ed_str (fun _ _ => rfl)) (ed_var (pv 4)) (fun _ _ => rfl))) (sds_one (sd_ret ed_bl)) sds_nil)))))
  (sds_cons (sd_for (ps_for PassesOwn.never rfl (Dn.ID.pi (id_seq (ed_ix hr (ed_var (pv 2)) ed_int (fun _ _ => rfl)))) (GD.pg (gd_t rfl (gds_c (gd_name (pg_name (i := 4) sc_law_same.nd rfl (by first | exact .inl rfl | exact .inr rfl))) (gds_c (gd_name (pg_name (i := 8) sc_law_same.nd rfl (by first | exact .inl rfl | exact .inr rfl))) (gds_c (gd_name (pg_name (i := 7) sc_law_same.nd rfl (by first | exact .inl rfl | exact .inr rfl))) gds_nil))))) (SDs.ps (sds_one (sd_if (td_ne hr (ed_meth (ok_Plain_shelf Y) rfl hr (by decide) dd0 (ed_var (pv 0)) (ad_cons (ed_var (pv 4)) ad_nil)) (ed_ix hr (ed_ix hr (ed_var (pv 1)) ed_str (fun _ _ => rfl)) (ed_var (pv 4)) (fun _ _ => rfl))) (sds_one (sd_ret ed_bl)) sds_nil)))))
  (sds_cons (sd_for (ps_for PassesOwn.never rfl (Dn.ID.pi (id_seq (ed_var (pv 3)))) (GD.pg (gd_name (pg_name (i := 4) sc_law_same.nd rfl (by first | exact .inl rfl | exact .inr rfl)))) (SDs.ps (sds_one (sd_if (td_ne hr (ed_meth (ok_Plain_box Y) rfl hr (by decide) dd0 (ed_var (pv 0)) (ad_cons (ed_var (pv 4)) ad_nil)) (ed_get2 (ed_ix hr (ed_var (pv 1)) ed_str (fun _ _ => rfl)) (ed_var (pv 4)) ed_int (fun ho he hf => pe_dget2 (hu1 hr) ho he hf ⟨by rfl, by rfl, by rfl, by rfl⟩))) (sds_one (sd_ret ed_bl)) sds_nil)))))
  (sds_cons (sd_set (ps_set (i := 5) sc_law_same.nd rfl (by first | exact .inl rfl | exact .inr rfl) (ED.pe (ed_meth0 (ok_Plain_ended Y) rfl hr (by decide) dd0 (ed_var (pv 0))))))
  (sds_one (sd_ret (ed_and (e_isi (T7 := .bool) Y.tb Y.tb.bool (by decide) (by rfl) (by rfl) boot_bool (ed_var (pv 5))) (ed_one (ed_eq hr (ed_var (pv 5)) (ed_isnot (ed_ix hr (ed_var (pv 1)) ed_str (fun _ _ => rfl)) ed_non)))))))))))))
theorem ok_law_same (Y : Fx K mg) : FnC P w K mg base "_law_same" 3 ["_law_run", "_law_now", "_law_program_here", "_law_boxes"] [] F_law_same := by
  obtain ⟨fd, FD⟩ := Y.c.def_ 33 (d := d_law_same) rfl
  exact FnC.of FD (Y.glo 19) (ok_law_same_fn FD Y) fun _ _ _ _ _ _ us hl => match us, hl with | [_, _, _, _], _ => rfl
theorem sc_law : FnScope ["_law_script", "_law_world_here", "_law_names_here", "_law_program_here", "_law_run", "_law_now", "_law_k", "_law_cell"] ["_law_script"] (defScope s_law) := ⟨rfl, rfl, rfl, by decide +kernel, rfl, by decide +kernel, by decide +kernel⟩
theorem ok_law_fn {f : Addr} {fd : FuncData} (FD : FunD K d_law.name d_law.qual d_law.params d_law.body d_law.scope (He.DefD.dvs K d_law) (He.DefD.kws K d_law) f fd) (Y : Fx K mg) : FnOk P w K mg base CX0 6 f fd ["_law_script"] (spS K 1 F_law) := by
  refine fn_ok FD sc_law fun cdv A outer s H E hr => ?_
  exact (sds_cons (sd_set (ps_set (i := 1) sc_law.nd rfl (by first | exact .inl rfl | exact .inr rfl) (ED.pe (ed_callP (ok_law_world Y) rfl hr (by decide) (by rfl) dd0 (ad_cons (ed_var (pv 0)) ad_nil)))))
  (sds_cons (sd_set (ps_set (i := 2) sc_law.nd rfl (by first | exact .inl rfl | exact .inr rfl) (ED.pe (ed_callP (ok_law_names Y) rfl hr (by decide) (by rfl) dd0 (ad_cons (ed_callP (ok_law_cell_at Y) rfl hr (by decide) (by rfl) dd0 (ad_cons (ed_var (pv 0)) (ad_cons ed_int ad_nil))) (ad_cons ed_int ad_nil))))))
  (sds_cons (sd_set (ps_set (i := 3) sc_law.nd rfl (by first | exact .inl rfl | exact .inr rfl) (ED.pe (ed_callP (ok_law_program Y) rfl hr (by decide) (by rfl) dd0 (ad_cons (ed_sl (ed_var (pv 0)) (od_some ed_int) (od_some ed_int)) (ad_cons (ed_var (pv 1)) (ad_cons (ed_callP (ok_law_atom Y) rfl hr (by decide) (by rfl) dd0 (ad_cons (ed_mod (ed_callP (ok_law_cell_at Y) rfl hr (by decide) (by rfl) dd0 (ad_cons (ed_var (pv 0)) (ad_cons ed_int ad_nil))) (ed_pow ed_int ed_int)) (ad_cons (ed_ix hr (ed_var (pv 1)) ed_int (fun _ _ => rfl)) ad_nil))) ad_nil)))))))
  (sds_cons (sd_set (ps_set (i := 4) sc_law.nd rfl (by first | exact .inl rfl | exact .inr rfl) (ED.pe (ed_make (ok_Plain_init Y) rfl hr (by decide) (by rfl) dd0 (ad_cons (ed_var (pv 3)) (ad_cons (ed_ix hr (ed_var (pv 1)) ed_int (fun _ _ => rfl)) ad_nil))))))
  (sds_cons (sd_set (ps_set (i := 5) sc_law.nd rfl (by first | exact .inl rfl | exact .inr rfl) (ED.pe (ed_callS (ok_law_begun Y) rfl hr (by decide) (by rfl) dd0 (ad_cons (ed_var (pv 3)) (ad_cons (ed_ix hr (ed_var (pv 1)) ed_int (fun _ _ => rfl)) ad_nil))))))
  (sds_cons (sd_for (ps_for PassesOwn.never rfl (Dn.ID.pi (id_range1 (ad_cons ed_int ad_nil) (fun ha => pi_range1 (by rfl) Y.tb.range ha))) (GD.pg (gd_name (pg_name (i := 6) sc_law.nd rfl (by first | exact .inl rfl | exact .inr rfl)))) (SDs.ps (sds_cons (sd_if (td_not (td_val (ed_callS (ok_law_same Y) rfl hr (by decide) (by rfl) dd0 (ad_cons (ed_var (pv 4)) (ad_cons (ed_var (pv 5)) (ad_cons (ed_var (pv 3)) (ad_cons (ed_var (pv 2)) ad_nil))))))) (sds_one (sd_ret ed_bl)) sds_nil)
  (sds_cons (sd_expr (ed_meth0 (ok_Plain_step Y) rfl hr (by decide) dd0 (ed_var (pv 4))))
  (sds_one (sd_if (td_is (ed_ix hr (ed_var (pv 5)) ed_str (fun _ _ => rfl)) ed_non) (sds_one (sd_expr (ed_callS (ok_law_done Y) rfl hr (by decide) (by rfl) dd0 (ad_cons (ed_ix hr (ed_ix hr (ed_var (pv 3)) ed_int (fun _ _ => rfl)) (ed_ix hr (ed_var (pv 5)) ed_str (fun _ _ => rfl)) (fun _ _ => rfl)) (ad_cons (ed_var (pv 5)) ad_nil))))) sds_nil)))))))
  (sds_cons (sd_if (td_not (td_val (ed_callS (ok_law_same Y) rfl hr (by decide) (by rfl) dd0 (ad_cons (ed_var (pv 4)) (ad_cons (ed_var (pv 5)) (ad_cons (ed_var (pv 3)) (ad_cons (ed_var (pv 2)) ad_nil))))))) (sds_one (sd_ret ed_bl)) sds_nil)
  (sds_cons (sd_set (ps_set (i := 7) sc_law.nd rfl (by first | exact .inl rfl | exact .inr rfl) (ED.pe (ed_callP (ok_law_cell_at Y) rfl hr (by decide) (by rfl) dd0 (ad_cons (ed_var (pv 0)) (ad_cons ed_int ad_nil))))))
  (sds_one (sd_ret (ed_or (ed_ne hr (ed_mod (ed_var (pv 7)) ed_int) ed_int) (ed_one (ed_callP (ok_law_long Y) rfl hr (by decide) (by rfl) dd0 (ad_cons (ed_var (pv 2)) (ad_cons (ed_div (ed_var (pv 7)) ed_int) ad_nil)))))))))))))))
end
end Lk24

namespace Lk24
open PySem PySem.Spec PyProof.Rows L2 Dn
/-! ### a plain run in the store -/
section
variable {S S0 : Sto} {L : PLoc} {rows : List PRow} {coming : List Int} {st : PSt} {ρ : List (Option DV)}
theorem fl {f : Str} {d : DV} {g : DE} (A : PlAt S L rows coming st) (hg : g ρ S0 = some (.loc L.o, S)) (hT : AT.contains (("Plain" : Str), f) = true) (hl : (plF rows L st).lookup f = some d) : dFld AT f g ρ S0 = some (d, S) := fld_at hg A.o hT hl
theorem f_rows (A : PlAt S L rows coming st) : dFld AT "rows" (dVar 0) (some (.loc L.o) :: ρ) S = some (.tup (rows.map PRow.d), S) := fl A rfl rfl rfl
theorem f_leads (A : PlAt S L rows coming st) : dFld AT "leads" (dVar 0) (some (.loc L.o) :: ρ) S = some (.loc L.l, S) := fl A rfl rfl rfl
theorem f_coming (A : PlAt S L rows coming st) : dFld AT "coming" (dVar 0) (some (.loc L.o) :: ρ) S = some (.loc L.c, S) := fl A rfl rfl rfl
theorem f_at (A : PlAt S L rows coming st) : dFld AT "at" (dVar 0) (some (.loc L.o) :: ρ) S = some (.int st.at_, S) := fl A rfl rfl rfl
theorem f_held (A : PlAt S L rows coming st) : dFld AT "held" (dVar 0) (some (.loc L.o) :: ρ) S = some (.loc L.h, S) := fl A rfl rfl rfl
theorem f_cells (A : PlAt S L rows coming st) : dFld AT "cells" (dVar 0) (some (.loc L.o) :: ρ) S = some (.loc L.ce, S) := fl A rfl rfl rfl
theorem f_places (A : PlAt S L rows coming st) : dFld AT "places" (dVar 0) (some (.loc L.o) :: ρ) S = some (.loc L.p, S) := fl A rfl rfl rfl
theorem f_gone (A : PlAt S L rows coming st) : dFld AT "gone" (dVar 0) (some (.loc L.o) :: ρ) S = some (.loc L.g, S) := fl A rfl rfl rfl
theorem f_hears (A : PlAt S L rows coming st) : dFld AT "hears" (dVar 0) (some (.loc L.o) :: ρ) S = some (.int st.hears, S) := fl A rfl rfl rfl
theorem f_done (A : PlAt S L rows coming st) : dFld AT "done" (dVar 0) (some (.loc L.o) :: ρ) S = some (.int st.done, S) := fl A rfl rfl rfl
theorem f_result (A : PlAt S L rows coming st) : dFld AT "result" (dVar 0) (some (.loc L.o) :: ρ) S = some (optI st.res, S) := fl A rfl rfl rfl
theorem set_at {e : DE} {n : Nat} (A : PlAt S L rows coming st) (he : e (some (.loc L.o) :: ρ) S = some (.int n, S)) : ∃ S1, dSetF AT "at" e (dVar 0) (some (.loc L.o) :: ρ) S = some (.nx (some (.loc L.o) :: ρ) S1) ∧ PlAt S1 L rows coming { st with at_ := n } ∧ Fr L S S1 :=
  ⟨_, setF_at he rfl A.o rfl (show (11 : Nat) < 1000 by decide), A.setO n st.done st.hears st.res, Fr.set (by simp [PLoc.fp])⟩
theorem set_res {e : DE} {n : Int} (A : PlAt S L rows coming st) (he : e (some (.loc L.o) :: ρ) S = some (.int n, S)) : ∃ S1, dSetF AT "result" e (dVar 0) (some (.loc L.o) :: ρ) S = some (.nx (some (.loc L.o) :: ρ) S1) ∧ PlAt S1 L rows coming { st with res := some n } ∧ Fr L S S1 :=
  ⟨_, setF_at he rfl A.o rfl (show (11 : Nat) < 1000 by decide), A.setO st.at_ st.done st.hears (some n), Fr.set (by simp [PLoc.fp])⟩
theorem aug_done (A : PlAt S L rows coming st) : ∃ S1, dAugF AT "done" pAddI (dC (.int 1)) (dVar 0) (some (.loc L.o) :: ρ) S = some (.nx (some (.loc L.o) :: ρ) S1) ∧ PlAt S1 L rows coming { st with done := st.done + 1 } ∧ Fr L S S1 :=
  ⟨_, augF_at (x := .int st.done) rfl A.o rfl rfl rfl rfl A.o (show (11 : Nat) < 1000 by decide), A.setO st.at_ (st.done + 1) st.hears st.res, Fr.set (by simp [PLoc.fp])⟩
theorem aug_hears (A : PlAt S L rows coming st) : ∃ S1, dAugF AT "hears" pAddI (dC (.int 1)) (dVar 0) (some (.loc L.o) :: ρ) S = some (.nx (some (.loc L.o) :: ρ) S1) ∧ PlAt S1 L rows coming { st with hears := st.hears + 1 } ∧ Fr L S S1 :=
  ⟨_, augF_at (x := .int st.hears) rfl A.o rfl rfl rfl rfl A.o (show (11 : Nat) < 1000 by decide), A.setO st.at_ st.done (st.hears + 1) st.res, Fr.set (by simp [PLoc.fp])⟩
theorem held_get (A : PlAt S L rows coming st) {e : DE} {x : Str} {ρ : List (Option DV)} (he : e (some (.loc L.o) :: ρ) S = some (.str x, S)) : dGet2 (dFld AT "held" (dVar 0)) e (dC (.int 0)) (some (.loc L.o) :: ρ) S = some (.int (st.worth (.x x)), S) := by
  rw [get2_at (f_held A) (isD_dik A.h) he rfl (getD_dik A.h), lkD_map]
  show _ = some (DV.int ((lkG st.hk st.hv (Sum.inr x : Key)).getD 0), S)
  cases lkG st.hk st.hv (Sum.inr x : Key) <;> rfl
theorem worth_ok (A : PlAt S L rows coming st) (a : Atm) : F_Plain_worth [.loc L.o, a.d] S = some (.int (st.worth a), S) := by
  cases a with
  | n i =>
    unfold F_Plain_worth b_Plain_worth runF
    simp [Atm.d, isT, PSt.worth]
  | x s =>
    have h := held_get A (e := dVar 1) (ρ := [some (.str s)]) (x := s) rfl
    unfold F_Plain_worth b_Plain_worth runF
    simp [Atm.d, isT, h]
theorem worth_m (A : PlAt S L rows coming st) {e : DE} {a : Atm} (he : e (some (.loc L.o) :: ρ) S = some (a.d, S)) : dMeth "Plain" "worth" F_Plain_worth [] (dVar 0) (aCons e aNil) (some (.loc L.o) :: ρ) S = some (.int (st.worth a), S) := by
  rw [meth_at (S := S) (n := L.o) (xs := [a.d]) (S2 := S) rfl A.o rfl (by simp [he])]
  exact worth_ok A a
theorem ended_ok (A : PlAt S L rows coming st) : F_Plain_ended [.loc L.o] S = some (.bl st.res.isSome, S) := by
  unfold F_Plain_ended b_Plain_ended runF
  have h := f_result (ρ := []) A
  cases e : st.res <;> simp [h, e, optI]
theorem ended_m (A : PlAt S L rows coming st) : dMeth "Plain" "ended" F_Plain_ended [] (dVar 0) aNil (some (.loc L.o) :: ρ) S = some (.bl st.res.isSome, S) := by
  rw [meth_at (S := S) (n := L.o) (xs := []) (S2 := S) rfl A.o rfl rfl]
  exact ended_ok A
theorem value_eq {s : Str} {a b : Int} (ha : In40 a) (hb : In40 b) : pureOf F_value [.str s, .int a, .int b] = some (.int (valS s a b)) := by
  refine pureOf_of (S' := []) ?_ rfl
  obtain ⟨b0, b1⟩ := hb
  have pm : ∀ {S : Sto} {z : Int}, pMod (.int z) (.int 1099511627776) S = some (.int (z % 1099511627776), S) := v_modI (by decide)
  have pl : ∀ {S : Sto}, pMul (.int a) (.int b) S = some (.int (a * b), S) := v_mulI (by omega)
  unfold F_value b_value runF valS
  by_cases q1 : s = "+"
  · subst q1
    simp [pm]
  by_cases q2 : s = "-"
  · subst q2
    simp [pm]
  by_cases q3 : s = "*"
  · subst q3
    simp [pm, pl]
  by_cases q4 : s = "<"
  · subst q4
    simp
  by_cases q5 : s = "="
  · subst q5
    simp
  by_cases q6 : s = "&"
  · subst q6
    simp
  by_cases q7 : s = "|"
  · subst q7
    simp
  simp [q1, q2, q3, q4, q5, q6, q7]
end
end Lk24

namespace Lk24
open PySem PySem.Spec PyProof.Rows L2 Dn
section
variable {S S0 : Sto} {L : PLoc} {rows : List PRow} {coming : List Int} {st : PSt} {ρ : List (Option DV)}
theorem len_loc {n : Nat} {ds : List DV} (h : S[n]? = some (.lst ds)) : pLen [.loc n] S = some (.int ds.length, S) := by
  show (match asL S (.loc n) with | some ds => some (DV.int ds.length, S) | none => _) = _
  rw [asL_loc h]
theorem place_ix {n : Nat} {l : List Int} (h : S[n]? = some (.lst (l.map .int))) (hl : l ≠ []) (v : Int) : pIx (.loc n) (.int (v % (l.length : Int))) S = some (.int (l.getD (placeN l v) 0), S) := by
  have hlt := placeN_lt hl v
  have h0 := Int.emod_nonneg v (b := (l.length : Int)) (by have := List.length_pos_iff.mpr hl; omega)
  refine ix_loc h (atD_int h0 ?_)
  show (l.map DV.int)[placeN l v]? = _
  rw [List.getElem?_map, List.getElem?_eq_getElem hlt, List.getD_eq_getElem?_getD, List.getElem?_eq_getElem hlt] <;> rfl
theorem place_n {l : List Int} (hl : l ≠ []) (v : Int) : ixN (l.map DV.int).length (v % (l.length : Int)) = some (placeN l v) := by
  have hlt := placeN_lt hl v
  have h1 : 0 < l.length := List.length_pos_iff.mpr hl
  rw [List.length_map]
  exact ixN_int (Int.emod_nonneg _ (by omega)) (Int.emod_lt_of_pos _ (by omega))
theorem br_copy (A : PlAt S L rows coming st) (x : Str) (a : Atm) : F_Plain_brought [.loc L.o, (PRow.copy x a).d] S = some (.int (st.worth a), S) := by
  have h := worth_m A (a := a) (ρ := [some (PRow.copy x a).d, none]) (e := dBin pIx (dVar 1) (dC (.int 2))) (by simp [PRow.d])
  simp only [PRow.d] at h
  unfold F_Plain_brought b_Plain_brought runF
  simp [PRow.d, h]
theorem br_op (A : PlAt S L rows coming st) (O : st.Ok) (x s : Str) (a b : Atm) (ha : a.Ok) (hb : b.Ok) : F_Plain_brought [.loc L.o, (PRow.op x s a b).d] S = some (.int (valS s (st.worth a) (st.worth b)), S) := by
  have h := worth_m A (a := a) (ρ := [some (PRow.op x s a b).d, none]) (e := dBin pIx (dVar 1) (dC (.int 3))) (by simp [PRow.d])
  have h2 := worth_m A (a := b) (ρ := [some (PRow.op x s a b).d, none]) (e := dBin pIx (dVar 1) (dC (.int 4))) (by simp [PRow.d])
  simp only [PRow.d] at h h2
  have hv := value_eq (s := s) (O.worth ha) (O.worth hb)
  unfold F_Plain_brought b_Plain_brought runF
  simp [PRow.d, h, h2, cpL_plain, hv]
theorem br_load (A : PlAt S L rows coming st) (O : st.Ok) (x c : Str) (hc : hasK st.ck (.inr c) = true) : F_Plain_brought [.loc L.o, (PRow.load x c).d] S = some (.int (st.cell c), S) := by
  have h := f_cells (ρ := [some (PRow.load x c).d, none]) A
  simp only [PRow.d] at h
  have h2 : pIx (.loc L.ce) (.str c) S = some (.int (st.cell c), S) := ix_dik A.ce (by rw [lkD_map, (O.cell hc).1] <;> rfl)
  unfold F_Plain_brought b_Plain_brought runF
  simp [PRow.d, h, h2]
theorem br_take (A : PlAt S L rows coming st) (O : st.Ok) (x s : Str) (a : Atm) (hs : hasK st.sk (.inr s) = true) (ha : a.Ok) : F_Plain_brought [.loc L.o, (PRow.take x s a).d] S = some (.int ((st.shelf s).getD (placeN (st.shelf s) (st.worth a)) 0), S) := by
  obtain ⟨e, ne, _, _⟩ := O.shelf hs
  obtain ⟨n, _, n1, n2, _⟩ := A.shelf e
  have h := f_places (ρ := [some (PRow.take x s a).d, none]) A
  have h2 : pIx (.loc L.p) (.str s) S = some (.loc n, S) := ix_dik A.p n1
  have h3 := worth_m A (a := a) (ρ := [some (PRow.take x s a).d, some (.loc n)]) (e := dBin pIx (dVar 1) (dC (.int 3))) (by simp [PRow.d])
  simp only [PRow.d] at h h3
  have h4 := len_loc n2
  rw [List.length_map] at h4
  have h5 : ∀ {S : Sto}, pMod (.int (st.worth a)) (.int ((st.shelf s).length : Int)) S = some (.int (st.worth a % ((st.shelf s).length : Int)), S) := v_modI (by have := List.length_pos_iff.mpr ne; omega)
  have h6 := place_ix n2 ne (st.worth a)
  unfold F_Plain_brought b_Plain_brought runF
  simp [PRow.d, h, h2, h3, h4, h5, h6]
theorem br_hear (A : PlAt S L rows coming st) (x : Str) : ∃ S1, F_Plain_brought [.loc L.o, (PRow.hear x).d] S = some (.int (coming.getD st.hears 0), S1) ∧ PlAt S1 L rows coming { st with hears := st.hears + 1 } ∧ Fr L S S1 := by
  obtain ⟨S1, e1, A1, f1⟩ := aug_hears (ρ := [some (PRow.hear x).d, none]) A
  have h1 := f_hears (ρ := [some (PRow.hear x).d, none]) A1
  have h2 := f_coming (ρ := [some (PRow.hear x).d, none]) A1
  have h3 := len_loc A1.c
  rw [List.length_map] at h3
  simp only [PRow.d] at e1 h1 h2
  refine ⟨S1, ?_, A1, f1⟩
  unfold F_Plain_brought b_Plain_brought runF
  by_cases q : st.hears < coming.length
  · have h4 : pIx (.loc L.c) (.int (st.hears : Int)) S1 = some (.int (coming.getD st.hears 0), S1) := by
      refine ix_loc A1.c (atD_nat ?_)
      rw [List.getElem?_map, List.getElem?_eq_getElem q, List.getD_eq_getElem?_getD, List.getElem?_eq_getElem q] <;> rfl
    have q2 : ¬ ((coming.length : Int) < (st.hears : Int) + 1) := by omega
    simp [PRow.d, e1, h1, h2, h3, q2, h4]
  · have q2 : ((coming.length : Int) < (st.hears : Int) + 1) := by omega
    have q3 : coming.getD st.hears 0 = 0 := by
      rw [List.getD_eq_getElem?_getD, List.getElem?_eq_none (by omega)] <;> rfl
    simp only [q3]
    simp [PRow.d, e1, h1, h2, h3, q2]
theorem po_say (A : PlAt S L rows coming st) (a : Atm) (hz : st.gone.length < 1000000) : ∃ S1, F_Plain_put_out [.loc L.o, (PRow.say a).d] S = some (.non, S1) ∧ PlAt S1 L rows coming { st with gone := st.gone ++ [st.worth a] } ∧ Fr L S S1 := by
  have h := f_gone (ρ := [some (PRow.say a).d, none]) A
  have h3 := worth_m A (a := a) (ρ := [some (PRow.say a).d, none]) (e := dBin pIx (dVar 1) (dC (.int 1))) (by simp [PRow.d])
  simp only [PRow.d] at h h3
  have h4 := asL_loc A.g
  have h5 : pAppend (.loc L.g) [.int (st.worth a)] S = _ := app_loc A.g (by rw [List.length_map]; omega)
  have A1 := A.setG (st.gone ++ [st.worth a])
  rw [List.map_append] at A1
  refine ⟨_, ?_, A1, Fr.set (by simp [PLoc.fp])⟩
  unfold F_Plain_put_out b_Plain_put_out runF
  simp [PRow.d, h, h3, h4, h5]
theorem po_store (A : PlAt S L rows coming st) (c : Str) (a : Atm) (hc : hasK st.ck (.inr c) = true) (hz : st.ck.length < 1000000) : ∃ S1, F_Plain_put_out [.loc L.o, (PRow.store c a).d] S = some (.non, S1) ∧ PlAt S1 L rows coming { st with cv := rpG (.inr c) (st.worth a) st.ck st.cv } ∧ Fr L S S1 := by
  have h := f_cells (ρ := [some (PRow.store c a).d, none]) A
  have h3 := worth_m A (a := a) (ρ := [some (PRow.store c a).d, none]) (e := dBin pIx (dVar 1) (dC (.int 2))) (by simp [PRow.d])
  have h5 : setI (.loc L.ce) (.str c) (.int (st.worth a)) S = _ := setI_dik A.ce (by omega)
  rw [putKs_has hc, putVs_map, putG_has hc] at h5
  refine ⟨_, ?_, A.setC (rpG (.inr c) (st.worth a) st.ck st.cv), Fr.set (by simp [PLoc.fp])⟩
  have h6 := sub_at (g := dBin pIx (dVar 1) (dC (.int 1))) h3 h (by simp [PRow.d] <;> rfl) h5
  simp only [PRow.d] at h6
  unfold F_Plain_put_out b_Plain_put_out runF
  simp [PRow.d, h6]
theorem po_lay (A : PlAt S L rows coming st) (O : st.Ok) (s : Str) (a b : Atm) (hs : hasK st.sk (.inr s) = true) : ∃ S1, F_Plain_put_out [.loc L.o, (PRow.lay s a b).d] S = some (.non, S1) ∧ PlAt S1 L rows coming { st with sv := rpG (.inr s) ((st.shelf s).set (placeN (st.shelf s) (st.worth a)) (st.worth b)) st.sk st.sv } ∧ Fr L S S1 := by
  obtain ⟨e, ne, _, _⟩ := O.shelf hs
  obtain ⟨n, nf, n1, n2, n3⟩ := A.shelf e
  have h := f_places (ρ := [some (PRow.lay s a b).d, none]) A
  have h2 : pIx (.loc L.p) (.str s) S = some (.loc n, S) := ix_dik A.p n1
  have h3 := worth_m A (a := a) (ρ := [some (PRow.lay s a b).d, some (.loc n)]) (e := dBin pIx (dVar 1) (dC (.int 2))) (by simp [PRow.d])
  have h3b := worth_m A (a := b) (ρ := [some (PRow.lay s a b).d, some (.loc n)]) (e := dBin pIx (dVar 1) (dC (.int 3))) (by simp [PRow.d])
  have h4 := len_loc n2
  rw [List.length_map] at h4
  have h5 : ∀ {S : Sto}, pMod (.int (st.worth a)) (.int ((st.shelf s).length : Int)) S = some (.int (st.worth a % ((st.shelf s).length : Int)), S) := v_modI (by have := List.length_pos_iff.mpr ne; omega)
  have h6 : setI (.loc n) (.int (st.worth a % ((st.shelf s).length : Int))) (.int (st.worth b)) S = _ := setI_lst n2 (place_n ne _)
  rw [← List.map_set] at h6
  refine ⟨_, ?_, n3 ((st.shelf s).set (placeN (st.shelf s) (st.worth a)) (st.worth b)), Fr.set nf⟩
  simp only [PRow.d] at h h3 h3b
  have h7 := sub_at (o := dVar 2) (g := dBin pMod (dMeth "Plain" "worth" F_Plain_worth [] (dVar 0) (aCons (dBin pIx (dVar 1) (dC (.int 2))) aNil)) (dPrim pLen (aCons (dVar 2) aNil))) h3b rfl (by simp [h3, h4, h5] <;> rfl) h6
  unfold F_Plain_put_out b_Plain_put_out runF
  simp [PRow.d, h, h2, h7]
end
end Lk24

namespace Lk24
open PySem PySem.Spec PyProof.Rows L2 Dn
section
variable {S S0 S1 S2 : Sto} {L : PLoc} {rows : List PRow} {coming : List Int} {st : PSt} {ρ : List (Option DV)}
theorem row_at (A : PlAt S L rows coming st) {r : PRow} (h : rows[st.at_]? = some r) : dBin pIx (dFld AT "rows" (dVar 0)) (dFld AT "at" (dVar 0)) (some (.loc L.o) :: ρ) S = some (r.d, S) := by
  have h1 := f_rows (ρ := ρ) A
  have h2 := f_at (ρ := ρ) A
  have h3 : ∀ {S : Sto}, pIx (.tup (rows.map PRow.d)) (.int (st.at_ : Int)) S = some (r.d, S) := fun {S} => ix_tup (atD_nat (by rw [List.getElem?_map, h] <;> rfl))
  simp [h1, h2, h3]
theorem lead_at (A : PlAt S L rows coming st) {r : PRow} (h : rows[st.at_]? = some r) {w n : Nat} (hw : (r.led st.at_)[w]? = some n) (hi : (w = 0 ∧ ρ = [some r.d, some (.int 0)]) ∨ (w = 1 ∧ ρ = [some r.d, some (.int 1)])) :
    dBin pIx (dBin pIx (dFld AT "leads" (dVar 0)) (dFld AT "at" (dVar 0))) (dVar 2) (some (.loc L.o) :: ρ) S = some (.int n, S) := by
  have h1 := f_leads (ρ := ρ) A
  have h2 := f_at (ρ := ρ) A
  have h3 : pIx (.loc L.l) (.int (st.at_ : Int)) S = some (ledD st.at_ r, S) := ix_loc A.l (atD_nat (by
    unfold leadsD
    rw [List.getElem?_mapIdx, h] <;> rfl))
  have h4 : pIx (ledD st.at_ r) (.int (w : Nat)) S = some (.int n, S) := ix_tup (atD_nat (by rw [List.getElem?_map, hw] <;> rfl))
  rcases hi with ⟨rfl, rfl⟩ | ⟨rfl, rfl⟩
  · have h4 : pIx (ledD st.at_ r) (.int 0) S = some (.int n, S) := h4
    simp [h1, h2, h3, h4]
  · have h4 : pIx (ledD st.at_ r) (.int 1) S = some (.int n, S) := h4
    simp [h1, h2, h3, h4]
theorem meth1 (A : PlAt S L rows coming st) {m : Str} {F : PL} (hm : (plF rows L st).lookup m = none) {x : DV} : dMeth "Plain" m F [] (dVar 0) (aCons (dVar 1) aNil) (some (.loc L.o) :: some x :: ρ) S = F [.loc L.o, x] S :=
  meth_at (S := S) (n := L.o) (xs := [x]) (S2 := S) rfl A.o hm rfl
/-- from the last statement on -/
theorem goes (A : PlAt S L rows coming st) {r : PRow} (h : rows[st.at_]? = some r) {w n : Nat} (hw : (r.led st.at_)[w]? = some n) (hi : (w = 0 ∧ ρ = [some r.d, some (.int 0)]) ∨ (w = 1 ∧ ρ = [some r.d, some (.int 1)])) :
    ∃ S1, dSetF AT "at" (dBin pIx (dBin pIx (dFld AT "leads" (dVar 0)) (dFld AT "at" (dVar 0))) (dVar 2)) (dVar 0) (some (.loc L.o) :: ρ) S = some (.nx (some (.loc L.o) :: ρ) S1) ∧ PlAt S1 L rows coming { st with at_ := n } ∧ Fr L S S1 := set_at A (lead_at A h hw hi)
theorem put_held (A : PlAt S L rows coming st) {e i : DE} {x : Str} {v : Int} (he : e (some (.loc L.o) :: ρ) S0 = some (.int v, S)) (hi : i (some (.loc L.o) :: ρ) S = some (.str x, S)) (hz : st.hk.length < 1000000) :
    ∃ S1, dSub e (dFld AT "held" (dVar 0)) i (some (.loc L.o) :: ρ) S0 = some (.nx (some (.loc L.o) :: ρ) S1) ∧ PlAt S1 L rows coming (st.out x v) ∧ Fr L S S1 := by
  have h5 : setI (.loc L.h) (.str x) (.int v) S = _ := setI_dik A.h (by omega)
  rw [putVs_map] at h5
  exact ⟨_, sub_at he (f_held A) hi h5, A.setH (putKs st.hk (.inr x)) (putG st.hk st.hv (.inr x) v), Fr.set (by simp [PLoc.fp])⟩
def stepC : DS := dSetF AT "at" (dBin pIx (dBin pIx (dFld AT "leads" (dVar 0)) (dFld AT "at" (dVar 0))) (dVar 2)) (dVar 0)
def stepB : DS := dIfS (dBin (pEq false) (dBin pIx (dVar 1) (dC (.int 0))) (dC (.str "if"))) (dSet 2 (dPrim pInt (aCons (dBin (pEq false) (dMeth "Plain" "worth" F_Plain_worth [] (dVar 0) (aCons (dBin pIx (dVar 1) (dC (.int 1))) aNil)) (dC (.int 0))) aNil))) (dIfS (dBin (pIn false) (dBin pIx (dVar 1) (dC (.int 0))) (dPrim pTup (aCons (dC (.str "store")) (aCons (dC (.str "lay")) (aCons (dC (.str "say")) aNil))))) (dExpr (dMeth "Plain" "put_out" F_Plain_put_out [] (dVar 0) (aCons (dVar 1) aNil))) (dIfS (dBin (pEq true) (dBin pIx (dVar 1) (dC (.int 0))) (dC (.str "go"))) (dSub (dMeth "Plain" "brought" F_Plain_brought [] (dVar 0) (aCons (dVar 1) aNil)) (dFld AT "held" (dVar 0)) (dBin pIx (dVar 1) (dC (.int 1)))) dNext))
def stepE : DS := dIfS (dBin (pEq false) (dBin pIx (dVar 1) (dC (.int 0))) (dC (.str "end"))) (dSeq (dSetF AT "result" (dMeth "Plain" "worth" F_Plain_worth [] (dVar 0) (aCons (dBin pIx (dVar 1) (dC (.int 1))) aNil)) (dVar 0)) dRetN) dNext
theorem step_shape : b_Plain_step = dSeq (dIfS (dMeth "Plain" "ended" F_Plain_ended [] (dVar 0) aNil) dRetN dNext) (dSeq (dSet 1 (dBin pIx (dFld AT "rows" (dVar 0)) (dFld AT "at" (dVar 0)))) (dSeq (dAugF AT "done" pAddI (dC (.int 1)) (dVar 0)) (dSeq stepE (dSeq (dSet 2 (dC (.int 0))) (dSeq stepB stepC))))) := rfl
/-- the row does its deed: the middle part -/
def Mid (S1 : Sto) (L : PLoc) (rows : List PRow) (coming : List Int) (st : PSt) (r : PRow) : Prop :=
  stepE [some (.loc L.o), some r.d, none] S1 = some (.nx [some (.loc L.o), some r.d, none] S1) ∧ ∃ S2 w, stepB [some (.loc L.o), some r.d, some (.int 0)] S1 = some (.nx [some (.loc L.o), some r.d, some (.int (w : Nat))] S2) ∧
    PlAt S2 L rows coming (st.does coming r) ∧ Fr L S1 S2 ∧ (w = 0 ∨ w = 1) ∧ (r.led st.at_)[w]? = some (st.next r)
theorem fin_step (A : PlAt S L rows coming st) {r : PRow} (hr : rows[st.at_]? = some r) (hres : st.res = none) (hm : ∀ S1, PlAt S1 L rows coming { st with done := st.done + 1 } → Mid S1 L rows coming { st with done := st.done + 1 } r)
    (hd : ({ st with done := st.done + 1 } : PSt).does coming r = { st.does coming r with done := st.done + 1 }) (hn : ({ st with done := st.done + 1 } : PSt).next r = st.next r) (ha : (st.does coming r).at_ = st.at_) :
    ∃ S2, F_Plain_step [.loc L.o] S = some (.non, S2) ∧ PlAt S2 L rows coming (st.step rows coming) ∧ Fr L S S2 := by
  have e0 := ended_m (ρ := [none, none]) A
  rw [hres] at e0
  have e1 := row_at (ρ := [none, none]) A hr
  obtain ⟨S1, e2, A1, f1⟩ := aug_done (ρ := [some r.d, none]) A
  obtain ⟨e3, S2, w, e4, A2, f2, hw, hl⟩ := hm S1 A1
  rw [hn] at hl
  rw [hd] at A2
  have e5 : ∃ S3, stepC [some (.loc L.o), some r.d, some (.int (w : Nat))] S2 = some (.nx [some (.loc L.o), some r.d, some (.int (w : Nat))] S3) ∧ PlAt S3 L rows coming { st.does coming r with done := st.done + 1, at_ := st.next r } ∧ Fr L S2 S3 := by
    refine set_at A2 (lead_at A2 (show rows[(st.does coming r).at_]? = some r by rw [ha]; exact hr) (w := w) (show (r.led (st.does coming r).at_)[w]? = some (st.next r) by rw [ha]; exact hl) ?_)
    rcases hw with rfl | rfl
    · exact .inl ⟨rfl, rfl⟩
    · exact .inr ⟨rfl, rfl⟩
  obtain ⟨S3, e5, A3, f3⟩ := e5
  refine ⟨S3, ?_, ?_, (f1.trans f2).trans f3⟩
  · unfold F_Plain_step runF
    rw [step_shape]
    show (match (dSeq _ _ [some (.loc L.o), none, none] S : Option Out) with | some (.rt d S') => some (d, S') | some (.nx _ S') => some (.non, S') | _ => none) = _
    simp only [v_seq, v_ifS, e0, v_retN, v_next, Option.isSome_none, v_set, e1, List.set_cons_succ, List.set_cons_zero, e2, e3, v_c, e4, e5]
  · unfold PSt.step
    rw [hres, hr]
    exact A3
end
end Lk24

namespace Lk24
open PySem PySem.Spec PyProof.Rows L2 Dn
section
variable {S S0 S1 S2 : Sto} {L : PLoc} {rows : List PRow} {coming : List Int} {st : PSt} {ρ : List (Option DV)}
theorem mid_say (A : PlAt S1 L rows coming st) (a : Atm) (hz : st.gone.length < 1000000) : Mid S1 L rows coming st (.say a) := by
  obtain ⟨S2, e, A2, f⟩ := po_say A a hz
  have m := meth1 (ρ := [some (.int 0)]) (F := F_Plain_put_out) (m := "put_out") (x := (PRow.say a).d) A rfl
  rw [e] at m
  simp only [PRow.d] at m
  refine ⟨?_, S2, 0, ?_, A2, f, .inl rfl, rfl⟩
  · unfold stepE
    simp [PRow.d]
  · unfold stepB
    simp [PRow.d, m]
theorem mid_store (A : PlAt S1 L rows coming st) (c : Str) (a : Atm) (hc : hasK st.ck (.inr c) = true) (hz : st.ck.length < 1000000) : Mid S1 L rows coming st (.store c a) := by
  obtain ⟨S2, e, A2, f⟩ := po_store A c a hc hz
  have m := meth1 (ρ := [some (.int 0)]) (F := F_Plain_put_out) (m := "put_out") (x := (PRow.store c a).d) A rfl
  rw [e] at m
  simp only [PRow.d] at m
  refine ⟨?_, S2, 0, ?_, A2, f, .inl rfl, rfl⟩
  · unfold stepE
    simp [PRow.d]
  · unfold stepB
    simp [PRow.d, m]
theorem mid_lay (A : PlAt S1 L rows coming st) (O : st.Ok) (s : Str) (a b : Atm) (hs : hasK st.sk (.inr s) = true) : Mid S1 L rows coming st (.lay s a b) := by
  obtain ⟨S2, e, A2, f⟩ := po_lay A O s a b hs
  have m := meth1 (ρ := [some (.int 0)]) (F := F_Plain_put_out) (m := "put_out") (x := (PRow.lay s a b).d) A rfl
  rw [e] at m
  simp only [PRow.d] at m
  refine ⟨?_, S2, 0, ?_, A2, f, .inl rfl, rfl⟩
  · unfold stepE
    simp [PRow.d]
  · unfold stepB
    simp [PRow.d, m]
theorem mid_held {r : PRow} {x : Str} {v : Int} {st2 : PSt} (A : PlAt S1 L rows coming st) (hx : ∃ k tl, r.d = .tup (.str k :: .str x :: tl) ∧ tl.length ≤ 3 ∧ k ≠ "end" ∧ k ≠ "if" ∧ k ≠ "store" ∧ k ≠ "lay" ∧ k ≠ "say" ∧ k ≠ "go")
    (hb : ∃ S2, F_Plain_brought [.loc L.o, r.d] S1 = some (.int v, S2) ∧ PlAt S2 L rows coming st2 ∧ Fr L S1 S2) (hz : st2.hk.length < 1000000) (hs : st2.out x v = st.does coming r) (hl : (r.led st.at_)[0]? = some (st.next r)) : Mid S1 L rows coming st r := by
  obtain ⟨k, tl, hd, ht, k1, k2, k3, k4, k5, k6⟩ := hx
  obtain ⟨S2, e, A2, f⟩ := hb
  have m := meth1 (ρ := [some (.int 0)]) (F := F_Plain_brought) (m := "brought") (x := r.d) A rfl
  rw [e] at m
  have i0 : ∀ {S : Sto}, pIx r.d (.int 0) S = some (.str k, S) := fun {S} => by
    rw [hd]
    match tl, ht with
    | [], _ => rfl
    | [a], _ => rfl
    | [a, b], _ => rfl
    | [a, b, c], _ => rfl
  have i1 : ∀ {S : Sto}, pIx r.d (.int 1) S = some (.str x, S) := fun {S} => by
    rw [hd]
    match tl, ht with
    | [], _ => rfl
    | [a], _ => rfl
    | [a, b], _ => rfl
    | [a, b, c], _ => rfl
  obtain ⟨S3, e3, A3, f3⟩ := put_held (i := dBin pIx (dVar 1) (dC (.int 1))) (x := x) (ρ := [some r.d, some (.int 0)]) A2 m (by simp [i1]) hz
  rw [hs] at A3
  refine ⟨?_, S3, 0, ?_, A3, f.trans f3, .inl rfl, hl⟩
  · unfold stepE
    simp [i0, k1]
  · unfold stepB
    simp [i0, k2, Ne.symm k3, Ne.symm k4, Ne.symm k5, k6, e3]
theorem mid_if (A : PlAt S1 L rows coming st) (a : Atm) (n : Nat) : Mid S1 L rows coming st (.ifr a n) := by
  have h := worth_m A (a := a) (ρ := [some (PRow.ifr a n).d, some (.int 0)]) (e := dBin pIx (dVar 1) (dC (.int 1))) (by simp [PRow.d])
  simp only [PRow.d] at h
  refine ⟨?_, S1, if st.worth a = 0 then 1 else 0, ?_, A, Fr.refl, ?_, ?_⟩
  · unfold stepE
    simp [PRow.d]
  · unfold stepB
    by_cases q : st.worth a = 0
    · simp [PRow.d, h, q]
    · simp [PRow.d, h, q]
  · by_cases q : st.worth a = 0
    · exact .inr (if_pos q)
    · exact .inl (if_neg q)
  · unfold PSt.next
    by_cases q : st.worth a = 0
    · rw [if_pos q]
      simp [q, PRow.led]
    · rw [if_neg q]
      simp [q, PRow.led]
theorem mid_go (A : PlAt S1 L rows coming st) (n : Nat) : Mid S1 L rows coming st (.go n) := by
  refine ⟨?_, S1, 0, ?_, A, Fr.refl, .inl rfl, rfl⟩
  · unfold stepE
    simp [PRow.d]
  · unfold stepB
    simp [PRow.d]
theorem step_end (A : PlAt S L rows coming st) {a : Atm} (hr : rows[st.at_]? = some (.endr a)) (hres : st.res = none) :
    ∃ S2, F_Plain_step [.loc L.o] S = some (.non, S2) ∧ PlAt S2 L rows coming (st.step rows coming) ∧ Fr L S S2 := by
  have e0 := ended_m (ρ := [none, none]) A
  rw [hres] at e0
  have e1 := row_at (ρ := [none, none]) A hr
  obtain ⟨S1, e2, A1, f1⟩ := aug_done (ρ := [some (PRow.endr a).d, none]) A
  obtain ⟨S2, e3, A2, f2⟩ := set_res A1 (worth_m A1 (a := a) (ρ := [some (PRow.endr a).d, none]) (e := dBin pIx (dVar 1) (dC (.int 1))) (by simp [PRow.d]))
  simp only [PRow.d] at e1 e2 e3
  refine ⟨S2, ?_, ?_, f1.trans f2⟩
  · unfold F_Plain_step runF
    rw [step_shape]
    show (match (dSeq _ _ [some (.loc L.o), none, none] S : Option Out) with | some (.rt d S') => some (d, S') | some (.nx _ S') => some (.non, S') | _ => none) = _
    simp only [v_seq, v_ifS, e0, v_retN, v_next, Option.isSome_none, v_set, e1, List.set_cons_succ, List.set_cons_zero, e2]
    unfold stepE
    simp [e3]
  · unfold PSt.step
    rw [hres, hr]
    exact A2
theorem step_done (A : PlAt S L rows coming st) {v : Int} (hres : st.res = some v) : F_Plain_step [.loc L.o] S = some (.non, S) := by
  have e0 := ended_m (ρ := [none, none]) A
  rw [hres] at e0
  unfold F_Plain_step runF
  rw [step_shape]
  show (match (dSeq _ _ [some (.loc L.o), none, none] S : Option Out) with | some (.rt d S') => some (d, S') | some (.nx _ S') => some (.non, S') | _ => none) = _
  simp only [v_seq, v_ifS, e0, v_retN, v_next, Option.isSome_some]
theorem step_ok (A : PlAt S L rows coming st) (O : st.Ok) (hrows : ∀ r ∈ rows, r.Ok st.ck st.sk) (hd : st.done < 100000) (hck : st.ck.length < 1000) (hat : st.res = none → st.at_ < rows.length) :
    ∃ S2, F_Plain_step [.loc L.o] S = some (.non, S2) ∧ PlAt S2 L rows coming (st.step rows coming) ∧ Fr L S S2 := by
  cases hres : st.res with
  | some v =>
    refine ⟨S, step_done A hres, ?_, Fr.refl⟩
    unfold PSt.step
    rw [hres]
    exact A
  | none =>
    have hr : rows[st.at_]? = some (rows[st.at_]'(hat hres)) := List.getElem?_eq_getElem _
    generalize rows[st.at_]'(hat hres) = r at hr
    have hok := hrows r (List.mem_of_getElem? hr)
    have h1 := O.hd
    have h2 := O.gd
    have O1 : PSt.Ok { st with done := st.done + 1 } := ⟨O.hl, O.hr, O.cl, O.cr, O.sl, O.sr, Nat.le_succ_of_le O.hd, Nat.le_succ_of_le O.gd⟩
    cases r with
    | say a => exact fin_step A hr hres (fun S1 A1 => mid_say A1 a (by show st.gone.length < _; omega)) rfl rfl rfl
    | copy x a => exact fin_step A hr hres (fun S1 A1 => mid_held A1 ⟨"copy", [a.d], rfl, by simp, by decide, by decide, by decide, by decide, by decide, by decide⟩ ⟨S1, br_copy A1 x a, A1, Fr.refl⟩ (by show st.hk.length < _; omega) rfl rfl) rfl rfl rfl
    | op x s a b => exact fin_step A hr hres (fun S1 A1 => mid_held A1 ⟨"op", [.str s, a.d, b.d], rfl, by simp, by decide, by decide, by decide, by decide, by decide, by decide⟩ ⟨S1, br_op A1 O1 x s a b hok.2.1 hok.2.2, A1, Fr.refl⟩ (by show st.hk.length < _; omega) rfl rfl) rfl rfl rfl
    | load x c => exact fin_step A hr hres (fun S1 A1 => mid_held A1 ⟨"load", [.str c], rfl, by simp, by decide, by decide, by decide, by decide, by decide, by decide⟩ ⟨S1, br_load A1 O1 x c hok, A1, Fr.refl⟩ (by show st.hk.length < _; omega) rfl rfl) rfl rfl rfl
    | store c a => exact fin_step A hr hres (fun S1 A1 => mid_store A1 c a hok.1 (by show st.ck.length < _; omega)) rfl rfl rfl
    | take x s a => exact fin_step A hr hres (fun S1 A1 => mid_held A1 ⟨"take", [.str s, a.d], rfl, by simp, by decide, by decide, by decide, by decide, by decide, by decide⟩ ⟨S1, br_take A1 O1 x s a hok.1 hok.2, A1, Fr.refl⟩ (by show st.hk.length < _; omega) rfl rfl) rfl rfl rfl
    | lay s a b => exact fin_step A hr hres (fun S1 A1 => mid_lay A1 O1 s a b hok.1) rfl rfl rfl
    | hear x => exact fin_step A hr hres (fun S1 A1 => mid_held A1 ⟨"hear", [], rfl, by simp, by decide, by decide, by decide, by decide, by decide, by decide⟩ (br_hear A1 x) (by show st.hk.length < _; omega) rfl rfl) rfl rfl rfl
    | ifr a n => exact fin_step A hr hres (fun S1 A1 => mid_if A1 a n) rfl rfl rfl
    | go n => exact fin_step A hr hres (fun S1 A1 => mid_go A1 n) rfl rfl rfl
    | endr a => exact step_end A hr hres
end
end Lk24

namespace Lk24
open PySem PySem.Spec PyProof.Rows L2 Dn
theorem ways_of_eq (i : Nat) (r : PRow) : pureOf F_ways_of [r.d, .int i] = some (ledD i r) := by
  refine pureOf_of (S' := []) ?_ (by cases r <;> simp [ledD, PRow.led])
  unfold F_ways_of b_ways_of runF
  cases r <;> simp [PRow.d, ledD, PRow.led]
theorem ways_loop {x y : Option DV} : ∀ (rows : List PRow) (k : Nat), lcL (gTupD 2 (gsCons (gSet 1) (gsCons (gSet 2) gsNil))) (dC (.bl true)) (dPrim (cP (pureOf F_ways_of) []) (aCons (dVar 2) (aCons (dVar 1) aNil))) [x, none, none] (enD k (rows.map PRow.d)) [] = some (rows.mapIdx fun i r => ledD (k + i) r, [])
  | [], k => rfl
  | r :: rows, k => by
    have ih := ways_loop (x := x) (y := y) rows (k + 1)
    have hg : gTupD 2 (gsCons (gSet 1) (gsCons (gSet 2) gsNil)) (.tup [.int (k : Nat), r.d]) [x, none, none] [] = some ([x, some (.int (k : Nat)), some r.d], []) := rfl
    rw [List.map_cons]
    show lcL _ _ _ _ (DV.tup [.int (k : Nat), r.d] :: enD (k + 1) (rows.map PRow.d)) [] = _
    unfold lcL
    simp only [hg, v_c]
    have h1 : dPrim (cP (pureOf F_ways_of) []) (aCons (dVar 2) (aCons (dVar 1) aNil)) [x, some (.int (k : Nat)), some r.d] [] = some (ledD k r, []) := by
      simp [cpL_plain, PRow.plain_d, ways_of_eq]
    simp only [h1, ih]
    rw [List.mapIdx_cons]
    have e : (fun i r => ledD (k + 1 + i) r) = fun i r => ledD (k + (i + 1)) r := by
      funext i r
      rw [show k + 1 + i = k + (i + 1) by omega]
    rw [e]
    rfl
theorem leads_plain (rows : List PRow) : plainL (leadsD rows) = true := plainL_iff.mpr fun d h => by
  unfold leadsD at h
  obtain ⟨i, hi, rfl⟩ := List.mem_mapIdx.mp h
  unfold ledD
  exact plainL_iff.mpr fun d h => by
    obtain ⟨n, _, rfl⟩ := List.mem_map.mp h
    rfl
theorem ways_eq {c s : DV} (hc : plain c = true) (hs : plain s = true) (rows : List PRow) (hn : rows.length ≤ 1000) : freshOf F_ways [.tup [c, s, .tup (rows.map PRow.d)]] = some (leadsD rows) := by
  refine freshOf_loc (n := 0) (S' := [.lst (leadsD rows)]) ?_ rfl (leads_plain rows)
  have e := ways_loop (x := some (.tup [c, s, .tup (rows.map PRow.d)])) (y := none) rows 0
  have hi : iEnum2 (aCons (dBin pIx (dVar 0) (dC (.int 2))) aNil) [some (.tup [c, s, .tup (rows.map PRow.d)]), none, none] [] = some (enD 0 (rows.map PRow.d), []) := rfl
  have hz : (rows.mapIdx fun i r => ledD (0 + i) r).length ≤ sizeLine := size_ok (by rw [List.length_mapIdx]; omega)
  have h := dLcM_of (vs := [1, 2]) hi (by rw [show (dwipe [some (DV.tup [c, s, .tup (rows.map PRow.d)]), none, none] [1, 2]) = [some (DV.tup [c, s, .tup (rows.map PRow.d)]), none, none] from rfl]; exact e) hz
  have e2 : (rows.mapIdx fun i r => ledD (0 + i) r) = leadsD rows := by
    unfold leadsD
    congr
    funext i r
    rw [Nat.zero_add]
  rw [e2] at h
  unfold F_ways b_ways runF
  show (match (dRet _ [some (DV.tup [c, s, .tup (rows.map PRow.d)]), none, none] [] : Option Out) with | some (.rt d S') => some (d, S') | some (.nx _ S') => some (.non, S') | _ => none) = _
  rw [v_ret, h]
  rfl
/-! ### made -/
def cellD (c : Str × Int × Bool) : DV := .tup [.str c.1, .int c.2.1, .bl c.2.2]
abbrev cellG : DG := gTupD 3 (gsCons (gSet 3) (gsCons (gSet 4) (gsCons (gSet 5) gsNil)))
abbrev cellB : DS := dSub (dVar 4) (dFld AT "cells" (dVar 0)) (dVar 3)
theorem hasK_snoc {ks : List Key} {a b : Key} : hasK (ks ++ [a]) b = (hasK ks b || decide (a = b)) := by
  unfold hasK
  simp
theorem loop_cells {o n : Nat} {p l x6 : Option DV} {fs : List (Str × DV)} (hl : fs.lookup ("cells" : Str) = some (DV.loc n)) (hon : o ≠ n) : ∀ (cs : List (Str × Int × Bool)) (S : Sto) (ks : List Key) (vs : List Int) (x3 x4 x5 : Option DV), (∀ c ∈ cs, hasK ks (.inr c.1) = false) → (cs.map (·.1)).Nodup → ks.length + cs.length < 1000 →
    S[o]? = some (.ins "Plain" fs) → S[n]? = some (.dik ks (vs.map .int)) →
    ∃ y3 y4 y5, forL cellG cellB (cs.map cellD) [some (.loc o), p, l, x3, x4, x5, x6] S = some (.nx [some (.loc o), p, l, y3, y4, y5, x6] (S.set n (.dik (ks ++ cs.map fun c => .inr c.1) ((vs ++ cs.map fun c => c.2.1).map .int))))
  | [], S, ks, vs, x3, x4, x5, _, _, _, _, hn => ⟨x3, x4, x5, by
    have e : S.set n (.dik ks (vs.map .int)) = S := by
      obtain ⟨h1, h2⟩ := List.getElem?_eq_some_iff.mp hn
      rw [← h2, List.set_getElem_self]
    simp [e, forL]⟩
  | (nm, v, t) :: cs, S, ks, vs, x3, x4, x5, hk, hnd, hz, ho, hn => by
    have hk0 : hasK ks (Sum.inr nm : Key) = false := hk _ List.mem_cons_self
    rw [List.map_cons, List.nodup_cons] at hnd
    rw [List.length_cons] at hz
    have hg : cellG (cellD (nm, v, t)) [some (.loc o), p, l, x3, x4, x5, x6] S = some ([some (.loc o), p, l, some (.str nm), some (.int v), some (.bl t), x6], S) := rfl
    have hs : setI (.loc n) (.str nm) (.int v) S = _ := setI_dik hn (by omega)
    unfold putKs putVs at hs
    rw [hk0] at hs
    have hb : cellB [some (.loc o), p, l, some (.str nm), some (.int v), some (.bl t), x6] S = _ := sub_at rfl (fld_at rfl ho rfl hl) rfl hs
    have hn2 : (S.set n (.dik (ks ++ [.inr nm]) ((vs ++ [v]).map .int)))[n]? = some (.dik (ks ++ [.inr nm]) ((vs ++ [v]).map .int)) := List.getElem?_set_self (get_lt hn)
    obtain ⟨y3, y4, y5, e⟩ := loop_cells hl hon cs (S.set n (.dik (ks ++ [.inr nm]) ((vs ++ [v]).map .int))) (ks ++ [.inr nm]) (vs ++ [v]) (some (.str nm)) (some (.int v)) (some (.bl t)) (fun c hc => by
      rw [hasK_snoc, hk c (List.mem_cons_of_mem _ hc), decide_eq_false fun q => hnd.1 (List.mem_map.mpr ⟨c, hc, (Sum.inr.inj q).symm⟩)] <;> rfl) hnd.2 (by simp; omega) (by rw [List.getElem?_set_ne (Ne.symm hon)]; exact ho) hn2
    refine ⟨y3, y4, y5, ?_⟩
    rw [List.map_cons]
    unfold forL
    simp only [hg, hb]
    rw [List.map_append, List.map_cons, List.map_nil] at e
    show forL cellG cellB (cs.map cellD) _ _ = _
    rw [show (if false = true then ks else ks ++ [Sum.inr nm]) = ks ++ [Sum.inr nm] from rfl, show (if false = true then rpG (Sum.inr nm) (DV.int v) ks (vs.map .int) else vs.map .int ++ [DV.int v]) = vs.map .int ++ [DV.int v] from rfl, e]
    rw [List.set_set]
    simp
def shelfD (c : Str × Nat × Bool) : DV := .tup [.str c.1, .int c.2.1, .bl c.2.2]
abbrev shelfG : DG := gTupD 3 (gsCons (gSet 3) (gsCons (gSet 6) (gsCons (gSet 5) gsNil)))
abbrev shelfB : DS := dSub (dBin pMulM (dPrim pLst (aCons (dC (.int 0)) aNil)) (dVar 6)) (dFld AT "places" (dVar 0)) (dVar 3)
def noughts (k : Nat) : List Int := List.replicate k 0
theorem mulM0 {S : Sto} {k : Nat} (hk : k ≤ 1000) : pMulM (.lst .own [.int 0]) (.int k) S = some (.loc S.length, S ++ [.lst ((noughts k).map .int)]) := by
  have e : repD [DV.int 0] k = (noughts k).map .int := by
    unfold repD noughts
    induction k with
    | zero => rfl
    | succ k ih =>
      rw [List.replicate_succ, List.flatten_cons, ih (by omega), List.replicate_succ, List.map_cons] <;> rfl
  show (if (k : Int).natAbs < 9223372036854775808 ∧ [DV.int 0].length * (k : Int).toNat ≤ sizeLine then some (DV.loc S.length, S ++ [Cell.lst (repD [DV.int 0] (k : Int).toNat)]) else none) = _
  rw [if_pos ⟨by omega, by rw [size_eq]; simp; omega⟩, Int.toNat_natCast, e]
theorem loop_shelves {o n : Nat} {p l x4 : Option DV} {fs : List (Str × DV)} (hl : fs.lookup ("places" : Str) = some (DV.loc n)) (hon : o ≠ n) : ∀ (cs : List (Str × Nat × Bool)) (S : Sto) (ks : List Key) (ss : List Nat) (x3 x5 x6 : Option DV), (∀ c ∈ cs, hasK ks (.inr c.1) = false) → (cs.map (·.1)).Nodup → ks.length + cs.length < 1000 → (∀ c ∈ cs, c.2.1 ≤ 1000) →
    S[o]? = some (.ins "Plain" fs) → S[n]? = some (.dik ks (ss.map .loc)) →
    ∃ y3 y5 y6, forL shelfG shelfB (cs.map shelfD) [some (.loc o), p, l, x3, x4, x5, x6] S = some (.nx [some (.loc o), p, l, y3, x4, y5, y6] (S.set n (.dik (ks ++ cs.map fun c => .inr c.1) ((ss ++ List.range' S.length cs.length).map .loc)) ++ cs.map fun c => .lst ((noughts c.2.1).map .int)))
  | [], S, ks, ss, x3, x5, x6, _, _, _, _, _, hn => ⟨x3, x5, x6, by
    have e : S.set n (.dik ks (ss.map .loc)) = S := by
      obtain ⟨h1, h2⟩ := List.getElem?_eq_some_iff.mp hn
      rw [← h2, List.set_getElem_self]
    simp [e, forL]⟩
  | (nm, v, t) :: cs, S, ks, ss, x3, x5, x6, hk, hnd, hz, hv, ho, hn => by
    have hk0 : hasK ks (Sum.inr nm : Key) = false := hk _ List.mem_cons_self
    rw [List.map_cons, List.nodup_cons] at hnd
    rw [List.length_cons] at hz
    have hg : shelfG (shelfD (nm, v, t)) [some (.loc o), p, l, x3, x4, x5, x6] S = some ([some (.loc o), p, l, some (.str nm), x4, some (.bl t), some (.int v)], S) := rfl
    have lt := get_lt hn
    have lt2 := get_lt ho
    have hn1 : (S ++ [Cell.lst ((noughts v).map .int)])[n]? = some (.dik ks (ss.map .loc)) := by
      rw [List.getElem?_append_left lt]
      exact hn
    have ho1 : (S ++ [Cell.lst ((noughts v).map .int)])[o]? = some (.ins "Plain" fs) := by
      rw [List.getElem?_append_left lt2]
      exact ho
    have hs : setI (.loc n) (.str nm) (.loc S.length) (S ++ [Cell.lst ((noughts v).map .int)]) = _ := setI_dik hn1 (by omega)
    unfold putKs putVs at hs
    rw [hk0] at hs
    have hm : dBin pMulM (dPrim pLst (aCons (dC (.int 0)) aNil)) (dVar 6) [some (.loc o), p, l, some (.str nm), x4, some (.bl t), some (.int v)] S = some (.loc S.length, S ++ [Cell.lst ((noughts v).map .int)]) := by
      have := mulM0 (S := S) (hv _ List.mem_cons_self)
      simp [this]
    have hb : shelfB [some (.loc o), p, l, some (.str nm), x4, some (.bl t), some (.int v)] S = _ := sub_at hm (fld_at rfl ho1 rfl hl) rfl hs
    have e1 : (S ++ [Cell.lst ((noughts v).map .int)]).set n (.dik (ks ++ [.inr nm]) ((ss ++ [S.length]).map .loc)) = S.set n (.dik (ks ++ [.inr nm]) ((ss ++ [S.length]).map .loc)) ++ [Cell.lst ((noughts v).map .int)] := List.set_append_left _ _ lt
    have hn2 : (S.set n (.dik (ks ++ [.inr nm]) ((ss ++ [S.length]).map .loc)) ++ [Cell.lst ((noughts v).map .int)])[n]? = some (.dik (ks ++ [.inr nm]) ((ss ++ [S.length]).map .loc)) := by
      rw [List.getElem?_append_left (by rw [List.length_set]; exact lt)]
      exact List.getElem?_set_self lt
    obtain ⟨y3, y5, y6, e⟩ := loop_shelves (x4 := x4) (p := p) (l := l) hl hon cs _ (ks ++ [.inr nm]) (ss ++ [S.length]) (some (.str nm)) (some (.bl t)) (some (.int v)) (fun c hc => by
      rw [hasK_snoc, hk c (List.mem_cons_of_mem _ hc), decide_eq_false fun q => hnd.1 (List.mem_map.mpr ⟨c, hc, (Sum.inr.inj q).symm⟩)] <;> rfl) hnd.2 (by simp; omega) (fun c hc => hv c (List.mem_cons_of_mem _ hc)) (by rw [← e1, List.getElem?_set_ne (Ne.symm hon)]; exact ho1) hn2
    refine ⟨y3, y5, y6, ?_⟩
    rw [List.map_cons]
    unfold forL
    simp only [hg, hb]
    show forL shelfG shelfB (cs.map shelfD) _ _ = _
    rw [show (if false = true then ks else ks ++ [Sum.inr nm]) = ks ++ [Sum.inr nm] from rfl, show (if false = true then rpG (Sum.inr nm) (DV.loc S.length) ks (ss.map .loc) else ss.map .loc ++ [DV.loc S.length]) = (ss ++ [S.length]).map .loc by rw [List.map_append] <;> rfl, e1, e]
    rw [List.set_append_left _ _ (by rw [List.length_set]; exact lt), List.set_set, List.append_assoc]
    simp [List.range'_succ]
end Lk24

namespace Lk24
open PySem PySem.Spec PyProof.Rows L2 Dn
theorem set_off {S T : Sto} {k : Nat} {x : Cell} : (S ++ T).set (S.length + k) x = S ++ T.set k x := by
  rw [List.set_append_right _ _ (Nat.le_add_right _ _), Nat.add_sub_cancel_left]
theorem get_off {S T : Sto} {k : Nat} : (S ++ T)[S.length + k]? = T[k]? := by
  rw [List.getElem?_append_right (Nat.le_add_right _ _), Nat.add_sub_cancel_left]
theorem ini {f : Str} {e : DE} {ρ : List (Option DV)} {S T T' : Sto} {fs : List (Str × DV)} {y : DV} (hT : AT.contains (("Plain" : Str), f) = true) (he : e (some (.loc S.length) :: ρ) (S ++ (.ins "Plain" fs :: T)) = some (y, S ++ (.ins "Plain" fs :: T'))) (hz : fs.length < 1000) :
    dSetF AT f e (dVar 0) (some (.loc S.length) :: ρ) (S ++ (.ins "Plain" fs :: T)) = some (.nx (some (.loc S.length) :: ρ) (S ++ (.ins "Plain" (putFD f y fs) :: T'))) := by
  rw [setF_at he rfl (get_off (k := 0)) hT hz]
  rw [show S.length = S.length + 0 from rfl, set_off] <;> rfl
def st0 (cells : List (Str × Int × Bool)) (shelves : List (Str × Nat × Bool)) : PSt where
  at_ := 0
  done := 0
  hears := 0
  res := none
  hk := []
  hv := []
  ck := cells.map fun c => .inr c.1
  cv := cells.map fun c => c.2.1
  sk := shelves.map fun c => .inr c.1
  sv := shelves.map fun c => noughts c.2.1
  gone := []
def L0 (b k : Nat) : PLoc where
  o := b
  l := b + 1
  c := b + 2
  h := b + 3
  ce := b + 4
  p := b + 5
  g := b + 6 + k
  ss := List.range' (b + 6) k
theorem L0_fp (b k i : Nat) (h : i ∈ (L0 b k).fp) : b ≤ i ∧ i ≤ b + 6 + k := by
  simp only [PLoc.fp, L0, List.mem_cons, List.mem_range'_1] at h
  omega
theorem L0_nd (b k : Nat) : (L0 b k).fp.Nodup := by
  have h := List.nodup_range' (s := b + 6) (n := k) (step := 1)
  simp only [PLoc.fp, L0, List.nodup_cons, List.mem_cons, List.mem_range'_1, not_or, h, and_true]
  omega
abbrev progD (cells : List (Str × Int × Bool)) (shelves : List (Str × Nat × Bool)) (rows : List PRow) : DV := .tup [.tup (cells.map cellD), .tup (shelves.map shelfD), .tup (rows.map PRow.d)]
theorem init_ok (S : Sto) (cells : List (Str × Int × Bool)) (shelves : List (Str × Nat × Bool)) (rows : List PRow) (coming : List Int) (letters : DV) (hL : ∀ T, itemsD (S ++ T) letters = some (coming.map .int))
    (hc : (cells.map (·.1)).Nodup) (hs : (shelves.map (·.1)).Nodup) (hcl : cells.length < 500) (hsl : shelves.length < 500) (hsz : ∀ c ∈ shelves, c.2.1 ≤ 1000) (hr : rows.length ≤ 1000) :
    ∃ T, F_Plain_init [.loc S.length, progD cells shelves rows, letters] (S ++ [.ins "Plain" []]) = some (.non, S ++ T) ∧ T.length = 7 + shelves.length ∧ PlAt (S ++ T) (L0 S.length shelves.length) rows coming (st0 cells shelves) := by
  let R : DV := .tup (rows.map PRow.d)
  let ρ : List (Option DV) := [some (progD cells shelves rows), some letters, none, none, none, none]
  have pc : plain (.tup (cells.map cellD)) = true := plainL_iff.mpr fun d h => by
    obtain ⟨c, _, rfl⟩ := List.mem_map.mp h
    rfl
  have ps : plain (.tup (shelves.map shelfD)) = true := plainL_iff.mpr fun d h => by
    obtain ⟨c, _, rfl⟩ := List.mem_map.mp h
    rfl
  have pr : plainL (rows.map PRow.d) = true := plainL_iff.mpr fun d h => by
    obtain ⟨c, _, rfl⟩ := List.mem_map.mp h
    exact PRow.plain_d
  have pp : plainL [progD cells shelves rows] = true := by
    simp only [plainL_cons, plainL_nil, plain_tup, Bool.and_true]
    rw [show plainL (cells.map cellD) = true from pc, show plainL (shelves.map shelfD) = true from ps, pr] <;> rfl
  have wq := ways_eq pc ps rows hr
  have e1 : dSetF AT "rows" (dBin pIx (dVar 1) (dC (.int 2))) (dVar 0) (some (.loc S.length) :: ρ) (S ++ [.ins "Plain" []]) = some (.nx (some (.loc S.length) :: ρ) (S ++ [.ins "Plain" [("rows", R)]])) := ini rfl rfl (by decide)
  have e2 : dSetF AT "leads" (dPrim (cM (freshOf F_ways) []) (aCons (dVar 1) aNil)) (dVar 0) (some (.loc S.length) :: ρ) (S ++ [.ins "Plain" [("rows", R)]]) = some (.nx (some (.loc S.length) :: ρ) (S ++ [.ins "Plain" [("rows", R), ("leads", .loc (S.length + 1))], .lst (leadsD rows)])) := ini rfl (by
    have h0 : dVar 1 (some (.loc S.length) :: ρ) (S ++ [.ins "Plain" [("rows", R)]]) = some (progD cells shelves rows, S ++ [.ins "Plain" [("rows", R)]]) := rfl
    simp only [v_prim, v_cons, v_nil, h0, cM_eq, cpL_plain pp, wq]
    simp) (show (1 : Nat) < 1000 by decide)
  have e3 : dSetF AT "coming" (dPrim pListM (aCons (dVar 2) aNil)) (dVar 0) (some (.loc S.length) :: ρ) (S ++ [.ins "Plain" [("rows", R), ("leads", .loc (S.length + 1))], .lst (leadsD rows)]) = some (.nx (some (.loc S.length) :: ρ) (S ++ [.ins "Plain" [("rows", R), ("leads", .loc (S.length + 1)), ("coming", .loc (S.length + 2))], .lst (leadsD rows), .lst (coming.map .int)])) := ini rfl (by
    have h0 : dVar 2 (some (.loc S.length) :: ρ) (S ++ [.ins "Plain" [("rows", R), ("leads", .loc (S.length + 1))], .lst (leadsD rows)]) = some (letters, S ++ [.ins "Plain" [("rows", R), ("leads", .loc (S.length + 1))], .lst (leadsD rows)]) := rfl
    simp only [v_prim, v_cons, v_nil, h0, pListM, hL]
    simp) (show (2 : Nat) < 1000 by decide)
  have e4 : dSetF AT "at" (dC (.int 0)) (dVar 0) (some (.loc S.length) :: ρ) (S ++ [.ins "Plain" [("rows", R), ("leads", .loc (S.length + 1)), ("coming", .loc (S.length + 2))], .lst (leadsD rows), .lst (coming.map .int)]) = some (.nx (some (.loc S.length) :: ρ) (S ++ [.ins "Plain" [("rows", R), ("leads", .loc (S.length + 1)), ("coming", .loc (S.length + 2)), ("at", .int 0)], .lst (leadsD rows), .lst (coming.map .int)])) := ini rfl rfl (show (3 : Nat) < 1000 by decide)
  have e5 : dSetF AT "held" (fun _ S => some (.loc S.length, S ++ [.dik [] []])) (dVar 0) (some (.loc S.length) :: ρ) (S ++ [.ins "Plain" [("rows", R), ("leads", .loc (S.length + 1)), ("coming", .loc (S.length + 2)), ("at", .int 0)], .lst (leadsD rows), .lst (coming.map .int)]) = some (.nx (some (.loc S.length) :: ρ) (S ++ [.ins "Plain" [("rows", R), ("leads", .loc (S.length + 1)), ("coming", .loc (S.length + 2)), ("at", .int 0), ("held", .loc (S.length + 3))], .lst (leadsD rows), .lst (coming.map .int), .dik [] []])) := ini rfl (by simp) (show (4 : Nat) < 1000 by decide)
  have e6 : dSetF AT "cells" (fun _ S => some (.loc S.length, S ++ [.dik [] []])) (dVar 0) (some (.loc S.length) :: ρ) (S ++ [.ins "Plain" [("rows", R), ("leads", .loc (S.length + 1)), ("coming", .loc (S.length + 2)), ("at", .int 0), ("held", .loc (S.length + 3))], .lst (leadsD rows), .lst (coming.map .int), .dik [] []]) = some (.nx (some (.loc S.length) :: ρ) (S ++ [.ins "Plain" [("rows", R), ("leads", .loc (S.length + 1)), ("coming", .loc (S.length + 2)), ("at", .int 0), ("held", .loc (S.length + 3)), ("cells", .loc (S.length + 4))], .lst (leadsD rows), .lst (coming.map .int), .dik [] [], .dik [] []])) := ini rfl (by simp) (show (5 : Nat) < 1000 by decide)
  obtain ⟨y3, y4, y5, e7⟩ := loop_cells (o := S.length) (n := S.length + 4) (p := some (progD cells shelves rows)) (l := some letters) (x6 := none) (fs := [("rows", R), ("leads", .loc (S.length + 1)), ("coming", .loc (S.length + 2)), ("at", .int 0), ("held", .loc (S.length + 3)), ("cells", .loc (S.length + 4))]) rfl (by omega) cells
    (S ++ [.ins "Plain" [("rows", R), ("leads", .loc (S.length + 1)), ("coming", .loc (S.length + 2)), ("at", .int 0), ("held", .loc (S.length + 3)), ("cells", .loc (S.length + 4))], .lst (leadsD rows), .lst (coming.map .int), .dik [] [], .dik [] []]) [] [] none none none (fun _ _ => rfl) hc (by simp; omega) (get_off (k := 0)) get_off
  rw [set_off] at e7
  have e7 : forL cellG cellB (cells.map cellD) (some (.loc S.length) :: ρ) (S ++ [.ins "Plain" [("rows", R), ("leads", .loc (S.length + 1)), ("coming", .loc (S.length + 2)), ("at", .int 0), ("held", .loc (S.length + 3)), ("cells", .loc (S.length + 4))], .lst (leadsD rows), .lst (coming.map .int), .dik [] [], .dik [] []]) = some (.nx [some (.loc S.length), some (progD cells shelves rows), some letters, y3, y4, y5, none] (S ++ [.ins "Plain" [("rows", R), ("leads", .loc (S.length + 1)), ("coming", .loc (S.length + 2)), ("at", .int 0), ("held", .loc (S.length + 3)), ("cells", .loc (S.length + 4))], .lst (leadsD rows), .lst (coming.map .int), .dik [] [], .dik (st0 cells shelves).ck ((st0 cells shelves).cv.map .int)])) := e7
  let ρ1 : List (Option DV) := [some (progD cells shelves rows), some letters, y3, y4, y5, none]
  have e8 : dSetF AT "places" (fun _ S => some (.loc S.length, S ++ [.dik [] []])) (dVar 0) (some (.loc S.length) :: ρ1) (S ++ [.ins "Plain" [("rows", R), ("leads", .loc (S.length + 1)), ("coming", .loc (S.length + 2)), ("at", .int 0), ("held", .loc (S.length + 3)), ("cells", .loc (S.length + 4))], .lst (leadsD rows), .lst (coming.map .int), .dik [] [], .dik (st0 cells shelves).ck ((st0 cells shelves).cv.map .int)]) = some (.nx (some (.loc S.length) :: ρ1) (S ++ [.ins "Plain" [("rows", R), ("leads", .loc (S.length + 1)), ("coming", .loc (S.length + 2)), ("at", .int 0), ("held", .loc (S.length + 3)), ("cells", .loc (S.length + 4)), ("places", .loc (S.length + 5))], .lst (leadsD rows), .lst (coming.map .int), .dik [] [], .dik (st0 cells shelves).ck ((st0 cells shelves).cv.map .int), .dik [] []])) := ini rfl (by simp) (show (6 : Nat) < 1000 by decide)
  obtain ⟨z3, z5, z6, e9⟩ := loop_shelves (o := S.length) (n := S.length + 5) (p := some (progD cells shelves rows)) (l := some letters) (x4 := y4) (fs := [("rows", R), ("leads", .loc (S.length + 1)), ("coming", .loc (S.length + 2)), ("at", .int 0), ("held", .loc (S.length + 3)), ("cells", .loc (S.length + 4)), ("places", .loc (S.length + 5))]) rfl (by omega) shelves
    (S ++ [.ins "Plain" [("rows", R), ("leads", .loc (S.length + 1)), ("coming", .loc (S.length + 2)), ("at", .int 0), ("held", .loc (S.length + 3)), ("cells", .loc (S.length + 4)), ("places", .loc (S.length + 5))], .lst (leadsD rows), .lst (coming.map .int), .dik [] [], .dik (st0 cells shelves).ck ((st0 cells shelves).cv.map .int), .dik [] []]) [] [] y3 y5 none (fun _ _ => rfl) hs (by simp; omega) hsz (get_off (k := 0)) get_off
  rw [set_off, show (S ++ [Cell.ins "Plain" [("rows", R), ("leads", .loc (S.length + 1)), ("coming", .loc (S.length + 2)), ("at", .int 0), ("held", .loc (S.length + 3)), ("cells", .loc (S.length + 4)), ("places", .loc (S.length + 5))], .lst (leadsD rows), .lst (coming.map .int), .dik [] [], .dik (st0 cells shelves).ck ((st0 cells shelves).cv.map .int), .dik [] []]).length = S.length + 6 by simp, List.append_assoc] at e9
  let B : Sto := [.lst (leadsD rows), .lst (coming.map .int), .dik [] [], .dik (st0 cells shelves).ck ((st0 cells shelves).cv.map .int), .dik (st0 cells shelves).sk ((List.range' (S.length + 6) shelves.length).map .loc)] ++ shelves.map fun c => .lst ((noughts c.2.1).map .int)
  have e9 : forL shelfG shelfB (shelves.map shelfD) (some (.loc S.length) :: ρ1) (S ++ [.ins "Plain" [("rows", R), ("leads", .loc (S.length + 1)), ("coming", .loc (S.length + 2)), ("at", .int 0), ("held", .loc (S.length + 3)), ("cells", .loc (S.length + 4)), ("places", .loc (S.length + 5))], .lst (leadsD rows), .lst (coming.map .int), .dik [] [], .dik (st0 cells shelves).ck ((st0 cells shelves).cv.map .int), .dik [] []]) = some (.nx [some (.loc S.length), some (progD cells shelves rows), some letters, z3, y4, z5, z6] (S ++ (.ins "Plain" [("rows", R), ("leads", .loc (S.length + 1)), ("coming", .loc (S.length + 2)), ("at", .int 0), ("held", .loc (S.length + 3)), ("cells", .loc (S.length + 4)), ("places", .loc (S.length + 5))] :: B))) := e9
  have Bl : B.length = 5 + shelves.length := by simp [B]; omega
  let ρ2 : List (Option DV) := [some (progD cells shelves rows), some letters, z3, y4, z5, z6]
  have ea : dSetF AT "gone" (dPrim pLstM aNil) (dVar 0) (some (.loc S.length) :: ρ2) (S ++ (.ins "Plain" [("rows", R), ("leads", .loc (S.length + 1)), ("coming", .loc (S.length + 2)), ("at", .int 0), ("held", .loc (S.length + 3)), ("cells", .loc (S.length + 4)), ("places", .loc (S.length + 5))] :: B)) = some (.nx (some (.loc S.length) :: ρ2) (S ++ (.ins "Plain" [("rows", R), ("leads", .loc (S.length + 1)), ("coming", .loc (S.length + 2)), ("at", .int 0), ("held", .loc (S.length + 3)), ("cells", .loc (S.length + 4)), ("places", .loc (S.length + 5)), ("gone", .loc (S.length + 6 + shelves.length))] :: (B ++ [.lst []])))) := ini rfl (by
    simp [Bl]
    omega) (show (7 : Nat) < 1000 by decide)
  have eb : dSetF AT "hears" (dC (.int 0)) (dVar 0) (some (.loc S.length) :: ρ2) (S ++ (.ins "Plain" [("rows", R), ("leads", .loc (S.length + 1)), ("coming", .loc (S.length + 2)), ("at", .int 0), ("held", .loc (S.length + 3)), ("cells", .loc (S.length + 4)), ("places", .loc (S.length + 5)), ("gone", .loc (S.length + 6 + shelves.length))] :: (B ++ [.lst []]))) = some (.nx (some (.loc S.length) :: ρ2) (S ++ (.ins "Plain" [("rows", R), ("leads", .loc (S.length + 1)), ("coming", .loc (S.length + 2)), ("at", .int 0), ("held", .loc (S.length + 3)), ("cells", .loc (S.length + 4)), ("places", .loc (S.length + 5)), ("gone", .loc (S.length + 6 + shelves.length)), ("hears", .int 0)] :: (B ++ [.lst []])))) := ini rfl rfl (show (8 : Nat) < 1000 by decide)
  have ec : dSetF AT "done" (dC (.int 0)) (dVar 0) (some (.loc S.length) :: ρ2) (S ++ (.ins "Plain" [("rows", R), ("leads", .loc (S.length + 1)), ("coming", .loc (S.length + 2)), ("at", .int 0), ("held", .loc (S.length + 3)), ("cells", .loc (S.length + 4)), ("places", .loc (S.length + 5)), ("gone", .loc (S.length + 6 + shelves.length)), ("hears", .int 0)] :: (B ++ [.lst []]))) = some (.nx (some (.loc S.length) :: ρ2) (S ++ (.ins "Plain" [("rows", R), ("leads", .loc (S.length + 1)), ("coming", .loc (S.length + 2)), ("at", .int 0), ("held", .loc (S.length + 3)), ("cells", .loc (S.length + 4)), ("places", .loc (S.length + 5)), ("gone", .loc (S.length + 6 + shelves.length)), ("hears", .int 0), ("done", .int 0)] :: (B ++ [.lst []])))) := ini rfl rfl (show (9 : Nat) < 1000 by decide)
  have ed : dSetF AT "result" (dC .non) (dVar 0) (some (.loc S.length) :: ρ2) (S ++ (.ins "Plain" [("rows", R), ("leads", .loc (S.length + 1)), ("coming", .loc (S.length + 2)), ("at", .int 0), ("held", .loc (S.length + 3)), ("cells", .loc (S.length + 4)), ("places", .loc (S.length + 5)), ("gone", .loc (S.length + 6 + shelves.length)), ("hears", .int 0), ("done", .int 0)] :: (B ++ [.lst []]))) = some (.nx (some (.loc S.length) :: ρ2) (S ++ (.ins "Plain" (plF rows (L0 S.length shelves.length) (st0 cells shelves)) :: (B ++ [.lst []])))) := ini rfl rfl (show (10 : Nat) < 1000 by decide)
  refine ⟨.ins "Plain" (plF rows (L0 S.length shelves.length) (st0 cells shelves)) :: (B ++ [.lst []]), ?_, by simp [Bl]; omega, ?_⟩
  · unfold F_Plain_init b_Plain_init runF
    show (match (dSeq _ _ (some (.loc S.length) :: ρ) (S ++ [.ins "Plain" []]) : Option Out) with | some (.rt d S') => some (d, S') | some (.nx _ S') => some (.non, S') | _ => none) = _
    rw [v_seq, e1]
    simp only
    rw [v_seq, e2]
    simp only
    rw [v_seq, e3]
    simp only
    rw [v_seq, e4]
    simp only
    rw [v_seq, e5]
    simp only
    rw [v_seq, e6]
    simp only
    rw [v_seq, v_for, show iSeq (dBin pIx (dVar 1) (dC (.int 0))) (some (.loc S.length) :: ρ) (S ++ [.ins "Plain" [("rows", R), ("leads", .loc (S.length + 1)), ("coming", .loc (S.length + 2)), ("at", .int 0), ("held", .loc (S.length + 3)), ("cells", .loc (S.length + 4))], .lst (leadsD rows), .lst (coming.map .int), .dik [] [], .dik [] []]) = some (cells.map cellD, S ++ [.ins "Plain" [("rows", R), ("leads", .loc (S.length + 1)), ("coming", .loc (S.length + 2)), ("at", .int 0), ("held", .loc (S.length + 3)), ("cells", .loc (S.length + 4))], .lst (leadsD rows), .lst (coming.map .int), .dik [] [], .dik [] []]) from rfl]
    simp only
    rw [e7]
    simp only
    rw [v_seq, e8]
    simp only
    rw [v_seq, v_for, show iSeq (dBin pIx (dVar 1) (dC (.int 1))) (some (.loc S.length) :: ρ1) (S ++ [.ins "Plain" [("rows", R), ("leads", .loc (S.length + 1)), ("coming", .loc (S.length + 2)), ("at", .int 0), ("held", .loc (S.length + 3)), ("cells", .loc (S.length + 4)), ("places", .loc (S.length + 5))], .lst (leadsD rows), .lst (coming.map .int), .dik [] [], .dik (st0 cells shelves).ck ((st0 cells shelves).cv.map .int), .dik [] []]) = some (shelves.map shelfD, S ++ [.ins "Plain" [("rows", R), ("leads", .loc (S.length + 1)), ("coming", .loc (S.length + 2)), ("at", .int 0), ("held", .loc (S.length + 3)), ("cells", .loc (S.length + 4)), ("places", .loc (S.length + 5))], .lst (leadsD rows), .lst (coming.map .int), .dik [] [], .dik (st0 cells shelves).ck ((st0 cells shelves).cv.map .int), .dik [] []]) from rfl]
    simp only
    rw [e9]
    simp only
    rw [v_seq, ea]
    simp only
    rw [v_seq, eb]
    simp only
    rw [v_seq, ec]
    simp only
    rw [ed]
  · refine ⟨get_off (k := 0), get_off (k := 1), get_off (k := 2), get_off (k := 3), get_off (k := 4), get_off (k := 5), ?_, fun i l hl => ?_, by simp [L0, st0], ?_, by simp [st0], L0_nd _ _⟩
    · show (S ++ _)[S.length + 6 + shelves.length]? = _
      rw [Nat.add_assoc, get_off, show 6 + shelves.length = (5 + shelves.length) + 1 by omega, List.getElem?_cons_succ, List.getElem?_append_right (by rw [Bl]; exact Nat.le_refl _), Bl, Nat.sub_self] <;> rfl
    · have hl' : (shelves.map fun c => noughts c.2.1)[i]? = some l := hl
      rw [List.getElem?_map] at hl'
      cases hc' : shelves[i]? with
      | none =>
        rw [hc'] at hl'
        cases hl'
      | some c =>
        rw [hc'] at hl'
        cases hl'
        have hlt := (List.getElem?_eq_some_iff.mp hc').1
        refine ⟨S.length + 6 + i, ?_, ?_⟩
        · show (List.range' (S.length + 6) shelves.length)[i]? = _
          rw [List.getElem?_range' hlt, Nat.one_mul]
        · rw [Nat.add_assoc, get_off, show 6 + i = (5 + i) + 1 by omega, List.getElem?_cons_succ, List.getElem?_append_left (by rw [Bl]; omega)]
          show ([_, _, _, _, _] ++ _)[5 + i]? = _
          rw [List.getElem?_append_right (by simp), show 5 + i - [Cell.lst (leadsD rows), .lst (coming.map .int), .dik [] [], .dik (st0 cells shelves).ck ((st0 cells shelves).cv.map .int), .dik (st0 cells shelves).sk ((List.range' (S.length + 6) shelves.length).map .loc)].length = i by simp, List.getElem?_map, hc'] <;> rfl
    · show (shelves.map fun c => (Sum.inr c.1 : Key)).Nodup
      have : (shelves.map fun c => (Sum.inr c.1 : Key)) = (shelves.map (·.1)).map Sum.inr := by simp
      rw [this]
      exact List.Pairwise.map _ (fun a b h q => h (Sum.inr.inj q)) hs
end Lk24

namespace Lk24
open PySem PySem.Spec PyProof.Rows L2 Dn
theorem at_cell {ns : List Int} {k : Nat} : pureOf F_law_cell_at [.lst .ext (ns.map DV.int), .int k] = some (.int (ns.getD k 0)) := by
  refine pureOf_of (S' := []) ?_ rfl
  by_cases h : k < ns.length
  · have h2 : (k : Int) < ns.length := by omega
    have e : (ns.map DV.int)[k]? = some (.int (ns.getD k 0)) := by
      rw [List.getElem?_map, List.getElem?_eq_getElem h, List.getD_eq_getElem?_getD, List.getElem?_eq_getElem h] <;> rfl
    simp [F_law_cell_at, b_law_cell_at, runF, pLen, asL, h2, Dn.ix_seq (atD_nat e)]
  · have h2 : ¬ (k : Int) < ns.length := by omega
    simp [F_law_cell_at, b_law_cell_at, runF, pLen, asL, h2, h]
/-! ### values -/
def vb (n : Int) : Int := if n % 3 = 0 then n / 3 % 4 else if n % 3 = 1 then 2 ^ 40 - 1 - n / 3 % 4 else n / 3 * 1664525 % 2 ^ 40
theorem vb_ok (n : Int) : 0 ≤ vb n ∧ vb n < 2 ^ 40 := by
  unfold vb
  split
  · omega
  · split <;> omega
theorem p40 {S : Sto} : pPow (.int 2) (.int 40) S = some (.int (2 ^ 40), S) := v_powI (b := 40) (by decide) (by decide)
theorem vb_eq (n : Int) : pureOf F_law_value_by [.int n] = some (.int (vb n)) := by
  refine pureOf_of (S' := []) ?_ rfl
  unfold vb
  have m : ∀ {S : Sto}, pMul (.int (n / 3)) (.int 1664525) S = some (.int (n / 3 * 1664525), S) := v_mulI (by decide)
  by_cases q : n % 3 = 0
  · simp [F_law_value_by, b_law_value_by, runF, v_modI, v_divI, q]
  · by_cases q1 : n % 3 = 1
    · simp [F_law_value_by, b_law_value_by, runF, v_modI, v_divI, q1, p40]
    · simp [F_law_value_by, b_law_value_by, runF, v_modI, v_divI, q, q1, p40, m]
/-! ### names -/
def commonL (c : Int) : List Nat := (List.range (c % 6).toNat).map fun (k : Nat) => 97 + ((c / 37 + 11 * (k : Int) * (c % 2)) % 26).toNat
def nmK (c : Int) (k : Nat) : Str := cutS (txt (commonL c)) none (some (c / 6 % (c % 6 + 1))) ++ one1 (97 + ((c / 42 + 5 * (k : Int)) % 26).toNat) ++ cutS (txt (commonL c)) (some (c / 6 % (c % 6 + 1))) none
theorem names_eq (c : Int) (n : Nat) (hn : n ≤ 1000) : pureOf F_law_names [.int c, .int n] = some (.lst .own ((List.range n).map fun k => .str (nmK c k))) := by
  have hp : plain (.lst .own ((List.range n).map fun k => DV.str (nmK c k))) = true := by
    rw [plain_own]
    exact plainL_iff.mpr fun d h => by
      obtain ⟨k, _, rfl⟩ := List.mem_map.mp h
      rfl
  refine pureOf_of (S' := []) ?_ hp
  have cl : (commonL c).length < 6 := by
    unfold commonL
    rw [List.length_map, List.length_range]
    omega
  have h1 : dLc (iRange1 (aCons (dVar 3) aNil)) (gSet 6) (dC (.bl true)) (dBin pIx (dVar 2) (dBin pMod (dBin pAdd (dBin pDiv (dVar 0) (dC (.int 37))) (dBin pMul (dBin pMul (dC (.int 11)) (dVar 6)) (dBin pMod (dVar 0) (dC (.int 2))))) (dC (.int 26)))) [6]
      [some (.int c), some (.int n), some (.str "abcdefghijklmnopqrstuvwxyz"), some (.int (c % 6)), some (.int (c / 6 % (c % 6 + 1))), none, none] [] = some (.lst .own ((commonL c).map fun c => .str (one1 c)), []) := by
    have hr : iRange1 (aCons (dVar 3) aNil) [some (.int c), some (.int n), some (.str "abcdefghijklmnopqrstuvwxyz"), some (.int (c % 6)), some (.int (c / 6 % (c % 6 + 1))), none, none] [] = some (rgD 0 (c % 6).toNat, []) := by
      unfold iRange1
      simp
      omega
    refine (dLc_of hr (lcL_range (h := fun k => .str (one1 (97 + ((c / 37 + 11 * (k : Int) * (c % 2)) % 26).toNat))) fun k hk => ?_) (size_ok ?_)).trans ?_
    · refine ⟨_, rfl, rfl, ?_⟩
      have m1 : ∀ {S : Sto}, pMul (.int 11) (.int (k : Int)) S = some (.int (11 * (k : Int)), S) := v_mulIl (by omega)
      have m2 : ∀ {S : Sto}, pMul (.int (11 * (k : Int))) (.int (c % 2)) S = some (.int (11 * (k : Int) * (c % 2)), S) := v_mulI (by omega)
      simp [m1, m2, v_modI, v_divI]
      rw [abc_ix (by omega) (by omega)] <;> rfl
    · rw [List.length_map, List.length_range]
      omega
    · unfold commonL
      rw [List.map_map] <;> rfl
  have h2 := join_signs h1 (by omega)
  have h3 : dLc (iRange1 (aCons (dVar 1) aNil)) (gSet 6) (dC (.bl true)) (dBin pAdd (dBin pAdd (dSl pSl (dVar 5) oNone (oSome (dVar 4))) (dBin pIx (dVar 2) (dBin pMod (dBin pAdd (dBin pDiv (dVar 0) (dC (.int 42))) (dBin pMul (dC (.int 5)) (dVar 6))) (dC (.int 26))))) (dSl pSl (dVar 5) (oSome (dVar 4)) oNone)) [6]
      [some (.int c), some (.int n), some (.str "abcdefghijklmnopqrstuvwxyz"), some (.int (c % 6)), some (.int (c / 6 % (c % 6 + 1))), some (.str (txt (commonL c))), none] [] = some (.lst .own ((List.range n).map fun k => .str (nmK c k)), []) := by
    have hr : iRange1 (aCons (dVar 1) aNil) [some (.int c), some (.int n), some (.str "abcdefghijklmnopqrstuvwxyz"), some (.int (c % 6)), some (.int (c / 6 % (c % 6 + 1))), some (.str (txt (commonL c))), none] [] = some (rgD 0 n, []) := by
      unfold iRange1
      simp
      omega
    refine dLc_of hr (lcL_range fun k hk => ?_) (size_ok ?_)
    · refine ⟨_, rfl, rfl, ?_⟩
      have m1 : ∀ {S : Sto}, pMul (.int 5) (.int (k : Int)) S = some (.int (5 * (k : Int)), S) := v_mulIl (by omega)
      have l0 := txt_len (commonL c)
      have l1 := cutS_len (txt (commonL c)) none (some (c / 6 % (c % 6 + 1)))
      have l2 := cutS_len (txt (commonL c)) (some (c / 6 % (c % 6 + 1))) none
      have lo : ∀ z, (one1 z).length = 1 := fun z => rfl
      have e1 : ∀ {S : Sto}, pIx (.str "abcdefghijklmnopqrstuvwxyz") (.int ((c / 42 + 5 * (k : Int)) % 26)) S = some (.str (one1 (97 + ((c / 42 + 5 * (k : Int)) % 26).toNat)), S) := fun {S} => abc_ix (by omega) (by omega)
      have z0 : (txt (commonL c)).length ≤ 16777216 := by omega
      simp [m1, v_modI, v_divI, e1, z0]
      rw [if_pos (by rw [lo]; omega)]
      simp
      exact ⟨by rw [app_len, lo]; omega, rfl⟩
    · rw [List.length_map, List.length_range]
      omega
  have pm : ∀ {S : Sto}, pMod (.int (c / 6)) (.int (c % 6 + 1)) S = some (.int (c / 6 % (c % 6 + 1)), S) := v_modI (by omega)
  unfold F_law_names b_law_names runF
  simp [v_modI, v_divI, pm]
  rw [h2]
  simp [h3]
end Lk24

namespace Lk24
open PySem PySem.Spec PyProof.Rows L2 Dn
/-! ### what a plain run tells -/
section
variable {S S0 S1 S2 : Sto} {L : PLoc} {rows : List PRow} {coming : List Int} {st : PSt} {ρ : List (Option DV)} {o : DE}
theorem tell0 (A : PlAt S L rows coming st) {m : Str} {F : PL} (hm : (plF rows L st).lookup m = none) (ho : o ρ S0 = some (.loc L.o, S)) : dMeth "Plain" m F [] o aNil ρ S0 = F [.loc L.o] S :=
  meth_at (S := S) (n := L.o) (xs := []) (S2 := S) ho A.o hm rfl
theorem tell1 (A : PlAt S L rows coming st) {m : Str} {F : PL} {e : DE} {x : DV} (hm : (plF rows L st).lookup m = none) (ho : o ρ S0 = some (.loc L.o, S)) (he : e ρ S = some (x, S)) : dMeth "Plain" m F [] o (aCons e aNil) ρ S0 = F [.loc L.o, x] S :=
  meth_at (S := S) (n := L.o) (xs := [x]) (S2 := S) ho A.o hm (by simp [he])
theorem t_stands (A : PlAt S L rows coming st) (ho : o ρ S0 = some (.loc L.o, S)) : dMeth "Plain" "stands" F_Plain_stands [] o aNil ρ S0 = some (.int st.at_, S) := by
  rw [tell0 A rfl ho]
  have h := f_at (ρ := []) A
  unfold F_Plain_stands b_Plain_stands runF
  simp [h]
theorem t_count (A : PlAt S L rows coming st) (ho : o ρ S0 = some (.loc L.o, S)) : dMeth "Plain" "count" F_Plain_count [] o aNil ρ S0 = some (.int st.done, S) := by
  rw [tell0 A rfl ho]
  have h := f_done (ρ := []) A
  unfold F_Plain_count b_Plain_count runF
  simp [h]
theorem t_heard (A : PlAt S L rows coming st) (ho : o ρ S0 = some (.loc L.o, S)) : dMeth "Plain" "heard" F_Plain_heard [] o aNil ρ S0 = some (.int st.hears, S) := by
  rw [tell0 A rfl ho]
  have h := f_hears (ρ := []) A
  unfold F_Plain_heard b_Plain_heard runF
  simp [h]
theorem t_answer (A : PlAt S L rows coming st) (ho : o ρ S0 = some (.loc L.o, S)) : dMeth "Plain" "answer" F_Plain_answer [] o aNil ρ S0 = some (optI st.res, S) := by
  rw [tell0 A rfl ho]
  have h := f_result (ρ := []) A
  unfold F_Plain_answer b_Plain_answer runF
  simp [h]
theorem t_ended (A : PlAt S L rows coming st) (ho : o ρ S0 = some (.loc L.o, S)) : dMeth "Plain" "ended" F_Plain_ended [] o aNil ρ S0 = some (.bl st.res.isSome, S) := by
  rw [tell0 A rfl ho]
  exact ended_ok A
theorem t_box (A : PlAt S L rows coming st) (ho : o ρ S0 = some (.loc L.o, S)) {e : DE} {x : Str} (he : e ρ S = some (.str x, S)) : dMeth "Plain" "box" F_Plain_box [] o (aCons e aNil) ρ S0 = some (.int (st.worth (.x x)), S) := by
  rw [tell1 A rfl ho he]
  have h := held_get A (e := dVar 1) (ρ := [some (.str x)]) (x := x) rfl
  unfold F_Plain_box b_Plain_box runF
  simp [h]
theorem t_sent (A : PlAt S L rows coming st) (ho : o ρ S0 = some (.loc L.o, S)) : dMeth "Plain" "sent" F_Plain_sent [] o aNil ρ S0 = some (.loc S.length, S ++ [.lst (st.gone.map .int)]) := by
  rw [tell0 A rfl ho]
  have h := f_gone (ρ := []) A
  have h2 := asL_loc A.g
  unfold F_Plain_sent b_Plain_sent runF
  simp [h, pListM, itemsD, h2]
theorem t_cell (A : PlAt S L rows coming st) (O : st.Ok) (ho : o ρ S0 = some (.loc L.o, S)) {e : DE} {x : Str} (he : e ρ S = some (.str x, S)) (hx : hasK st.ck (.inr x) = true) : dMeth "Plain" "cell" F_Plain_cell [] o (aCons e aNil) ρ S0 = some (.int (st.cell x), S) := by
  rw [tell1 A rfl ho he]
  have h := f_cells (ρ := [some (.str x)]) A
  have h2 : pIx (.loc L.ce) (.str x) S = some (.int (st.cell x), S) := ix_dik A.ce (by rw [lkD_map, (O.cell hx).1] <;> rfl)
  unfold F_Plain_cell b_Plain_cell runF
  simp [h, h2]
theorem t_shelf (A : PlAt S L rows coming st) (O : st.Ok) (ho : o ρ S0 = some (.loc L.o, S)) {e : DE} {x : Str} (he : e ρ S = some (.str x, S)) (hx : hasK st.sk (.inr x) = true) : dMeth "Plain" "shelf" F_Plain_shelf [] o (aCons e aNil) ρ S0 = some (.loc S.length, S ++ [.lst ((st.shelf x).map .int)]) := by
  rw [tell1 A rfl ho he]
  obtain ⟨e1, _, _, _⟩ := O.shelf hx
  obtain ⟨n, _, n1, n2, _⟩ := A.shelf e1
  have h := f_places (ρ := [some (.str x)]) A
  have h2 : pIx (.loc L.p) (.str x) S = some (.loc n, S) := ix_dik A.p n1
  have h3 := asL_loc n2
  unfold F_Plain_shelf b_Plain_shelf runF
  simp [h, h2, pListM, itemsD, h3]
theorem t_step (A : PlAt S L rows coming st) (O : st.Ok) (hrows : ∀ r ∈ rows, r.Ok st.ck st.sk) (hd : st.done < 100000) (hck : st.ck.length < 1000) (hat : st.res = none → st.at_ < rows.length) (ho : o ρ S0 = some (.loc L.o, S)) :
    ∃ S2, dMeth "Plain" "step" F_Plain_step [] o aNil ρ S0 = some (.non, S2) ∧ PlAt S2 L rows coming (st.step rows coming) ∧ Fr L S S2 := by
  obtain ⟨S2, e, A2, f⟩ := step_ok A O hrows hd hck hat
  exact ⟨S2, (tell0 A rfl ho).trans e, A2, f⟩
end
end Lk24

namespace Lk24
open PySem PySem.Spec PyProof.Rows L2 Dn
theorem vb_40 (n : Int) : In40 (vb n) := by
  have := vb_ok n
  exact ⟨this.1, by omega⟩
theorem pick {α : Type} (D : α → DV) (x : Int) (l : List α) (hl : 0 < l.length) : ∃ a, a ∈ l ∧ (∀ {S : Sto}, pMod (.int x) (.int (l.length : Int)) S = some (.int (x % (l.length : Int)), S)) ∧ ∀ {S : Sto}, pIx (.lst .own (l.map D)) (.int (x % (l.length : Int))) S = some (D a, S) := by
  have hi : 0 ≤ x % (l.length : Int) := Int.emod_nonneg _ (by omega)
  have hi2 : x % (l.length : Int) < l.length := Int.emod_lt_of_pos _ (by omega)
  have e : (l.map D)[(x % (l.length : Int)).toNat]? = some (D (l[(x % (l.length : Int)).toNat]'(by omega))) := by
    rw [List.getElem?_map, List.getElem?_eq_getElem (by omega)] <;> rfl
  exact ⟨_, List.getElem_mem _, fun {S} => v_modI (by omega), fun {S} => Dn.ix_seq (atD_int hi e)⟩
theorem atom_ok (x : Int) (nl : List Str) (hl : 0 < nl.length) : ∃ a : Atm, pureOf F_law_atom [.int x, .lst .own (nl.map .str)] = some a.d ∧ a.Ok := by
  by_cases q : x % 3 = 0
  · refine ⟨.n (vb (x / 3)), pureOf_of (S' := []) ?_ rfl, vb_40 _⟩
    simp [F_law_atom, b_law_atom, runF, v_modI, v_divI, q, cpL_plain, vb_eq, Atm.d]
  · obtain ⟨s, _, pm, px⟩ := pick .str (x / 3) nl hl
    refine ⟨.x s, pureOf_of (S' := []) ?_ rfl, trivial⟩
    simp [F_law_atom, b_law_atom, runF, v_modI, v_divI, q, pm, px, Atm.d]
theorem hasK_mem {ks : List Key} {k : Key} (h : k ∈ ks) : hasK ks k = true := by
  unfold hasK
  exact List.any_eq_true.mpr ⟨k, h, by simp⟩
theorem cells_plain {cells : List (Str × Int × Bool)} : plainL (cells.map cellD) = true := plainL_iff.mpr fun d h => by
  obtain ⟨c, _, rfl⟩ := List.mem_map.mp h
  rfl
theorem shelves_plain {cells : List (Str × Nat × Bool)} : plainL (cells.map shelfD) = true := plainL_iff.mpr fun d h => by
  obtain ⟨c, _, rfl⟩ := List.mem_map.mp h
  rfl
theorem rows_of {P : PRow → Prop} : ∀ {as ys : List DV}, All2 (fun _ y => ∃ r : PRow, y = r.d ∧ P r) as ys → ∃ rs : List PRow, ys = rs.map PRow.d ∧ ∀ r ∈ rs, P r
  | _, _, .nil => ⟨[], rfl, fun _ h => by cases h⟩
  | _, _, .cons h t => by
    obtain ⟨r, rfl, hr⟩ := h
    obtain ⟨rs, rfl, hrs⟩ := rows_of t
    exact ⟨r :: rs, rfl, fun x hx => by
      rcases List.mem_cons.mp hx with e | e
      · rw [e]
        exact hr
      · exact hrs x e⟩
theorem name_at {c : Int} {n k : Nat} (h : k < n) {S : Sto} : pIx (.lst .own (((List.range n).map fun k => nmK c k).map .str)) (.int k) S = some (.str (nmK c k), S) :=
  Dn.ix_seq (atD_nat (by rw [List.getElem?_map, List.getElem?_map, List.getElem?_range h] <;> rfl))
theorem xs_at {xs : List Int} {k : Nat} (h : k < xs.length) {S : Sto} : pIx (.lst .own (xs.map .int)) (.int k) S = some (.int (xs.getD k 0), S) :=
  Dn.ix_seq (atD_nat (by rw [List.getElem?_map, List.getD_eq_getElem?_getD, List.getElem?_eq_getElem h] <;> rfl))
/-! ### the names are unlike -/
theorem one1_list (c : Nat) : (one1 c).cps.toList = [c] := rfl
theorem app_list (a b : Str) : (a ++ b).cps.toList = a.cps.toList ++ b.cps.toList := by
  show (a.cps ++ b.cps).toList = _
  simp
theorem nm_inj {c : Int} {i j : Nat} (hi : i < 26) (hj : j < 26) (h : nmK c i = nmK c j) : i = j := by
  have h1 := congrArg (fun s : Str => s.cps.toList) h
  simp only [nmK, app_list, one1_list, List.append_assoc] at h1
  have h2 := List.append_cancel_left h1
  have h3 : 97 + ((c / 42 + 5 * (i : Int)) % 26).toNat = 97 + ((c / 42 + 5 * (j : Int)) % 26).toNat := by
    have := List.head_eq_of_cons_eq h2
    exact this
  omega
theorem nm_nodup (c : Int) (a n : Nat) (h : a + n ≤ 26) : ((List.range n).map fun k => nmK c (a + k)).Nodup := by
  rw [List.nodup_iff_pairwise_ne] 
  refine List.pairwise_map.mpr ?_
  have hr : (List.range n).Pairwise (· ≠ ·) := List.nodup_range
  refine List.Pairwise.imp_of_mem ?_ hr
  intro i j hi hj hne q
  have h1 := List.mem_range.mp hi
  have h2 := List.mem_range.mp hj
  have := nm_inj (by omega) (by omega) q
  omega
/-! ### numbers by a cell -/
theorem v_shrI {a : Int} {b : Nat} {S : Sto} : pShr (.int a) (.int b) S = some (.int (a / 2 ^ b), S) := by
  show (match gShr a b with | some k => some (DV.int k, S) | none => none) = _
  unfold gShr
  rw [if_pos (by omega)]
  rfl
theorem p44 {S : Sto} : pPow (.int 2) (.int 44) S = some (.int (2 ^ 44), S) := v_powI (b := 44) (by decide) (by decide)
theorem drawn_digits (c : Int) (n : Nat) (hn : n ≤ 1000) : ∃ xs : List Int, xs.length = n ∧ (∀ x ∈ xs, 0 ≤ x) ∧ pureOf F_law_drawn [.int c, .int n, .bl true] = some (.lst .own (xs.map .int)) := by
  let f : Nat → Int := fun k => c / 2 ^ (44 * k) % 2 ^ 44
  refine ⟨(List.range n).map f, by simp, fun x h => ?_, pureOf_of (S' := []) ?_ (by rw [plain_own]; exact plainL_ints)⟩
  · obtain ⟨k, _, rfl⟩ := List.mem_map.mp h
    exact Int.emod_nonneg _ (by decide)
  · have hr : iRange1 (aCons (dVar 1) aNil) [some (.int c), some (.int n), some (.bl true), none, none, none] [] = some (rgD 0 n, []) := by
      unfold iRange1
      simp
      omega
    have e := dLc_of (g := gSet 5) (c := dC (.bl true)) (fe := dBin pMod (dBin pShr (dVar 0) (dBin pMul (dC (.int 44)) (dVar 5))) (dBin pPow (dC (.int 2)) (dC (.int 44)))) (vs := [5]) hr (lcL_range (h := fun k => .int (f k)) fun k hk => by
      refine ⟨_, rfl, rfl, ?_⟩
      have m1 : ∀ {S : Sto}, pMul (.int 44) (.int (k : Int)) S = some (.int (44 * (k : Int)), S) := v_mulIl (by omega)
      have m2 : ∀ {S : Sto}, pShr (.int c) (.int (44 * (k : Int))) S = some (.int (c / 2 ^ (44 * k)), S) := fun {S} => v_shrI (b := 44 * k)
      have m3 : ∀ {S : Sto}, pMod (.int (c / 2 ^ (44 * k))) (.int 17592186044416) S = some (.int (f k), S) := v_modI (by decide)
      simp [m1, m2, p44, m3]) (size_ok (by rw [List.length_map, List.length_range]; omega))
    unfold F_law_drawn b_law_drawn runF
    rw [List.map_map]
    simp [e]
theorem drawn_stream (c : Int) (n : Nat) (hn : n ≤ 100000) : ∃ xs : List Int, xs.length = n ∧ (∀ x ∈ xs, 0 ≤ x) ∧ pureOf F_law_drawn [.int c, .int n, .bl false] = some (.lst .own (xs.map .int)) := by
  have hr : iRange1 (aCons (dBin pAdd (dVar 1) (dC (.int 1))) aNil) [some (.int c), some (.int n), some (.bl false), some (.loc 0), some (.int (c % 2147483629 + 69621)), none] [.lst []] = some (rgD 0 (n + 1), [.lst []]) := by
    unfold iRange1
    simp
    omega
  obtain ⟨ρ', S', e, xs, y, l, hx, h0, hy, rfl, rfl⟩ := forL_inv (g := gSet 5) (body := (dSeq (dSet 4 (dBin pMod (dBin pAdd (dBin pAdd (dBin pMul (dVar 4) (dVar 4)) (dBin pMul (dC (.int 16807)) (dVar 4))) (dVar 5)) (dC (.int 2147483629)))) (dExpr (dMt pAppend (dVar 3) (aCons (dVar 4) aNil)))))
    (I := fun k ρ S => ∃ (xs : List Int) (y : Int) (l : Option DV), xs.length = k ∧ (∀ x ∈ xs, 0 ≤ x) ∧ (0 ≤ y ∧ y < 2147560000) ∧ ρ = [some (.int c), some (.int n), some (.bl false), some (.loc 0), some (.int y), l] ∧ S = [.lst (xs.map .int)]) (ds := rgD 0 (n + 1)) (k := 0)
    (ρ := [some (.int c), some (.int n), some (.bl false), some (.loc 0), some (.int (c % 2147483629 + 69621)), none]) (S := [.lst []]) ⟨[], _, none, rfl, by simp, by omega, rfl, rfl⟩ (fun i d ρ S hd hi => by
      obtain ⟨xs, y, l, hx, h0, hy, rfl, rfl⟩ := hi
      obtain ⟨k, hk, rfl⟩ := mem_rgD (List.mem_of_getElem? hd)
      have hlen : i < n + 1 := by
        have := (List.getElem?_eq_some_iff.mp hd).1
        rwa [len_rgD] at this
      have m1 : ∀ {S : Sto}, pMul (.int y) (.int y) S = some (.int (y * y), S) := v_mulI (by omega)
      have m2 : ∀ {S : Sto}, pMul (.int 16807) (.int y) S = some (.int (16807 * y), S) := v_mulI (by omega)
      have hz : (xs.map DV.int).length < 16777216 := by
        rw [List.length_map]
        omega
      have ap : ∀ z : DV, pAppend (.loc 0) [z] [.lst (xs.map DV.int)] = some (.non, [.lst (xs.map DV.int ++ [z])]) := fun z => app_loc rfl hz
      refine ⟨_, _, _, _, rfl, .inl ?_, xs ++ [(y * y + 16807 * y + (0 + (k : Int))) % 2147483629], (y * y + 16807 * y + (0 + (k : Int))) % 2147483629, some (.int (0 + (k : Nat))), by simp [hx], ?_, by omega, rfl, by rw [List.map_append] <;> rfl⟩
      · simp [m1, m2, v_modI, asL, ap]
      · intro x hx
        rcases List.mem_append.mp hx with h | h
        · exact h0 x h
        · rw [List.mem_singleton.mp h]
          omega)
  rw [Nat.zero_add, len_rgD] at hx
  have hd : Dn.cutD (xs.map DV.int) (some 1) none = (xs.drop 1).map DV.int := by
    unfold Dn.cutD
    rw [show HT.sIx (xs.map DV.int).length 0 (some 1) = 1 by
      show min (1 : Int).toNat (xs.map DV.int).length = 1
      rw [List.length_map, hx]
      simp]
    rw [show HT.sIx (xs.map DV.int).length (xs.map DV.int).length none = (xs.map DV.int).length from rfl]
    rw [← List.map_drop, List.take_of_length_le (by simp)]
  refine ⟨xs.drop 1, by simp [hx], fun x h => h0 x (List.mem_of_mem_drop h), pureOf_of (S' := [.lst (xs.map .int)]) ?_ (by rw [plain_own]; exact plainL_ints)⟩
  have ps : pSl (.loc 0) (some 1) none [.lst (xs.map DV.int)] = some (.lst .own ((xs.drop 1).map DV.int), [.lst (xs.map DV.int)]) := by
    rw [← hd]
    rfl
  unfold F_law_drawn b_law_drawn runF
  simp [v_modI, hr, e, ps]
theorem drawn_eq (c : Int) (n : Nat) (hn : n ≤ 1000) (dg : Bool) : ∃ xs : List Int, xs.length = n ∧ (∀ x ∈ xs, 0 ≤ x) ∧ pureOf F_law_drawn [.int c, .int n, .bl dg] = some (.lst .own (xs.map .int)) := by
  cases dg with
  | true => exact drawn_digits c n hn
  | false => exact drawn_stream c n (by omega)
end Lk24

namespace Lk24
open PySem PySem.Spec PyProof.Rows L2 Dn
theorem sign_at {i : Int} : ∃ s, isSign s ∧ ∀ {S : Sto}, pIx (.str "+-*<=&|^") (.int (i % 8)) S = some (.str s, S) := by
  rcases (show i % 8 = 0 ∨ i % 8 = 1 ∨ i % 8 = 2 ∨ i % 8 = 3 ∨ i % 8 = 4 ∨ i % 8 = 5 ∨ i % 8 = 6 ∨ i % 8 = 7 by omega) with q | q | q | q | q | q | q | q
  · exact ⟨"+", .inl rfl, fun {S} => by rw [q] <;> rfl⟩
  · exact ⟨"-", .inr (.inl rfl), fun {S} => by rw [q] <;> rfl⟩
  · exact ⟨"*", .inr (.inr (.inl rfl)), fun {S} => by rw [q] <;> rfl⟩
  · exact ⟨"<", .inr (.inr (.inr (.inl rfl))), fun {S} => by rw [q] <;> rfl⟩
  · exact ⟨"=", .inr (.inr (.inr (.inr (.inl rfl)))), fun {S} => by rw [q] <;> rfl⟩
  · exact ⟨"&", .inr (.inr (.inr (.inr (.inr (.inl rfl))))), fun {S} => by rw [q] <;> rfl⟩
  · exact ⟨"|", .inr (.inr (.inr (.inr (.inr (.inr (.inl rfl)))))), fun {S} => by rw [q] <;> rfl⟩
  · exact ⟨"^", .inr (.inr (.inr (.inr (.inr (.inr (.inr rfl)))))), fun {S} => by rw [q] <;> rfl⟩
theorem mod40 {z : Int} {S : Sto} : pMod (.int z) (.int (2 ^ 40)) S = some (.int (z % 1099511627776), S) := v_modI (by decide)
theorem lvalue_eq {s : Str} (hs : isSign s) {a b : Int} (ha : In40 a) (hb : In40 b) : pureOf F_law_value [.str s, .int a, .int b] = some (.int (valS s a b)) := by
  obtain ⟨⟨k1, k1'⟩, ⟨k2, k2'⟩, k3, k3'⟩ := bits40 ha hb
  obtain ⟨b0, b1⟩ := hb
  have pl : ∀ {S : Sto}, pMul (.int a) (.int b) S = some (.int (a * b), S) := v_mulI (by omega)
  have m1 : Builtin.bitAnd a b % 1099511627776 = Builtin.bitAnd a b := Int.emod_eq_of_lt k1 k1'
  have m2 : Builtin.bitOr a b % 1099511627776 = Builtin.bitOr a b := Int.emod_eq_of_lt k2 k2'
  have m3 : Builtin.bitXor a b % 1099511627776 = Builtin.bitXor a b := Int.emod_eq_of_lt k3 k3'
  let D : List DV := [.int (a + b), .int (a - b), .int (a * b), .int (Builtin.bitAnd a b), .int (Builtin.bitOr a b), .int (Builtin.bitXor a b)]
  let Ks : List Key := [.inr "+", .inr "-", .inr "*", .inr "&", .inr "|", .inr "^"]
  have hd : ∀ s : Str, dDisp (((dC (.str "+")), (dBin pAdd (dVar 1) (dVar 2))) :: ((dC (.str "-")), (dBin pSub (dVar 1) (dVar 2))) :: ((dC (.str "*")), (dBin pMul (dVar 1) (dVar 2))) :: ((dC (.str "&")), (dBin pAnd (dVar 1) (dVar 2))) :: ((dC (.str "|")), (dBin pOr (dVar 1) (dVar 2))) :: ((dC (.str "^")), (dBin pXor (dVar 1) (dVar 2))) :: []) [some (.str s), some (.int a), some (.int b), none] [] = some (.loc 0, [.dik Ks D]) := fun s => by
    unfold dDisp
    simp [dPairs, pl, keysD, keyD, D, Ks]
  have hi : ∀ (s : Str) (z : Int), lkD Ks D (.inr s) = some (.int z) → dBin pMod (dBin pIx (dVar 3) (dVar 0)) (dBin pPow (dC (.int 2)) (dC (.int 40))) [some (.str s), some (.int a), some (.int b), some (.loc 0)] [.dik Ks D] = some (.int (z % 1099511627776), [.dik Ks D]) := fun s z h => by
    have h1 : pIx (.loc 0) (.str s) [.dik Ks D] = some (.int z, [.dik Ks D]) := ix_dik rfl h
    have h2 := p40 (S := [.dik Ks D])
    have h3 := mod40 (z := z) (S := [.dik Ks D])
    simp only [v_bin, Dn.v_var, List.getElem?_cons_zero, List.getElem?_cons_succ, h1, v_c, h2, h3]
  have run : ∀ (s : Str) (z : Int), s ≠ "<" → s ≠ "=" → lkD Ks D (.inr s) = some (.int z) → pureOf F_law_value [.str s, .int a, .int b] = some (.int (z % 1099511627776)) := fun s z h1 h2 h => by
    refine pureOf_of (S' := [.dik Ks D]) ?_ rfl
    unfold F_law_value b_law_value runF
    have h3 := hd s
    have h4 := hi s z h
    simp only [List.map_cons, List.map_nil, List.length_cons, List.length_nil, if_true, List.replicate, List.cons_append, List.nil_append, v_seq, v_ifS, v_bin, Dn.v_var, List.getElem?_cons_zero, v_c, v_eqS, decide_eq_false h1, decide_eq_false h2, v_next, v_set, h3, List.set_cons_succ, List.set_cons_zero, v_ret]
    simp only [v_bin, Dn.v_var, List.getElem?_cons_zero, v_c] at h4
    rw [h4]
  rcases hs with rfl | rfl | rfl | rfl | rfl | rfl | rfl | rfl
  · exact run "+" _ (by decide) (by decide) rfl
  · exact run "-" _ (by decide) (by decide) rfl
  · exact run "*" _ (by decide) (by decide) rfl
  · refine pureOf_of (S' := []) ?_ rfl
    simp [F_law_value, b_law_value, runF, valS]
  · refine pureOf_of (S' := []) ?_ rfl
    simp [F_law_value, b_law_value, runF, valS]
  · rw [run "&" _ (by decide) (by decide) rfl, m1] <;> rfl
  · rw [run "|" _ (by decide) (by decide) rfl, m2] <;> rfl
  · rw [run "^" _ (by decide) (by decide) rfl, m3] <;> rfl

theorem eight {xs : List Int} (h : xs.length = 8) : ∃ a b c d e f g i, xs = [a, b, c, d, e, f, g, i] := by
  match xs, h with
  | [a, b, c, d, e, f, g, i], _ => exact ⟨a, b, c, d, e, f, g, i, rfl⟩
/-- where a row leads, within -/
def rLed (many : Nat) : PRow → Prop
  | .ifr _ n => n < many
  | .go n => n < many
  | _ => True
theorem led_ok {x0 x1 x2 x3 x4 x5 x6 x7 : Int} {at_ many : Nat} (h : at_ + 1 < many) : ∃ n : Nat, n < many ∧ pureOf F_law_led [.lst .own [.int x0, .int x1, .int x2, .int x3, .int x4, .int x5, .int x6, .int x7], .int at_, .int many] = some (.int n) := by
  have i4 : ∀ {S : Sto}, pIx (.lst .own [.int x0, .int x1, .int x2, .int x3, .int x4, .int x5, .int x6, .int x7]) (.int 4) S = some (.int x4, S) := fun {S} => rfl
  have i5 : ∀ {S : Sto}, pIx (.lst .own [.int x0, .int x1, .int x2, .int x3, .int x4, .int x5, .int x6, .int x7]) (.int 5) S = some (.int x5, S) := fun {S} => rfl
  by_cases q : x4 % 6 = 0
  · have h0 : 0 ≤ x5 % (many : Int) := Int.emod_nonneg _ (by omega)
    have h1 : x5 % (many : Int) < many := Int.emod_lt_of_pos _ (by omega)
    have pm : ∀ {S : Sto}, pMod (.int x5) (.int (many : Int)) S = some (.int (x5 % (many : Int)), S) := v_modI (by omega)
    refine ⟨(x5 % (many : Int)).toNat, by omega, pureOf_of (S' := []) ?_ rfl⟩
    rw [Int.toNat_of_nonneg h0]
    simp [F_law_led, b_law_led, runF, i4, i5, v_modI, q, pm]
  · have h0 : 0 ≤ x5 % ((many : Int) - 1 - at_) := Int.emod_nonneg _ (by omega)
    have h1 : x5 % ((many : Int) - 1 - at_) < (many : Int) - 1 - at_ := Int.emod_lt_of_pos _ (by omega)
    have pm : ∀ {S : Sto}, pMod (.int x5) (.int ((many : Int) - 1 - at_)) S = some (.int (x5 % ((many : Int) - 1 - at_)), S) := v_modI (by omega)
    refine ⟨((at_ : Int) + 1 + x5 % ((many : Int) - 1 - at_)).toNat, by omega, pureOf_of (S' := []) ?_ rfl⟩
    rw [Int.toNat_of_nonneg (by omega)]
    simp [F_law_led, b_law_led, runF, i4, i5, v_modI, q, pm]
theorem pickN (x : Int) (l : List DV) (n : Int) (hl : 0 < n) (hn : (l.length : Int) = n) : ∃ a, a ∈ l ∧ ∀ {S : Sto}, pIx (.lst .own l) (.int (x % n)) S = some (a, S) := by
  subst hn
  obtain ⟨a, h1, _, h2⟩ := pick id x l (by omega)
  simp only [List.map_id, id] at h2
  exact ⟨a, h1, h2⟩
abbrev worldD (bl : List Str) (cells : List (Str × Int × Bool)) (shelves : List (Str × Nat × Bool)) (lets : List Int) (dg : Bool) : DV := .tup [.lst .own (bl.map .str), .lst .own (cells.map cellD), .lst .own (shelves.map shelfD), .lst .own (lets.map .int), .bl dg]
theorem world_plain {bl : List Str} {cells : List (Str × Int × Bool)} {shelves : List (Str × Nat × Bool)} {lets : List Int} {dg : Bool} : plain (worldD bl cells shelves lets dg) = true := by
  have p : plainL (bl.map DV.str) = true := plainL_strs
  have pc := cells_plain (cells := cells)
  have ps := shelves_plain (cells := shelves)
  have pl : plainL (lets.map DV.int) = true := plainL_ints
  simp [p, pc, ps, pl]
def RowP (ck sk : List Key) (many : Nat) (d : DV) : Prop := ∃ r : PRow, d = r.d ∧ r.Ok ck sk ∧ rLed many r
theorem row_ok (c : Int) (at_ many : Nat) (hm : at_ + 1 < many) (nl : List Str) (hl : 0 < nl.length) (cells : List (Str × Int × Bool)) (hc : 0 < cells.length) (shelves : List (Str × Nat × Bool)) (hs : 0 < shelves.length) (lets : List Int) (dg : Bool) :
    ∃ r : PRow, pureOf F_law_row [.int c, .int at_, .int many, worldD nl cells shelves lets dg] = some r.d ∧ r.Ok (cells.map fun c => .inr c.1) (shelves.map fun c => .inr c.1) ∧ rLed many r := by
  obtain ⟨xs, hx, h0, hst⟩ := drawn_eq c 8 (by decide) dg
  obtain ⟨x0, x1, x2, x3, x4, x5, x6, x7, rfl⟩ := eight hx
  have hst : pureOf F_law_drawn [.int c, .int 8, .bl dg] = some (.lst .own [.int x0, .int x1, .int x2, .int x3, .int x4, .int x5, .int x6, .int x7]) := hst
  obtain ⟨s1, _, pm1, px1⟩ := pick .str x1 nl hl
  obtain ⟨ce, hce, pmc, pxc⟩ := pick cellD x6 cells hc
  obtain ⟨sh, hsh, pms, pxs⟩ := pick shelfD x6 shelves hs
  obtain ⟨a2, e2, A2⟩ := atom_ok x2 nl hl
  obtain ⟨a3, e3, A3⟩ := atom_ok x3 nl hl
  obtain ⟨n, hn, hled⟩ := led_ok (x0 := x0) (x1 := x1) (x2 := x2) (x3 := x3) (x4 := x4) (x5 := x5) (x6 := x6) (x7 := x7) hm
  obtain ⟨sg, hsg, pg⟩ := sign_at (i := x7)
  let X : DV := .lst .own [.int x0, .int x1, .int x2, .int x3, .int x4, .int x5, .int x6, .int x7]
  have pX : plain X = true := rfl
  have i0 : ∀ {S : Sto}, pIx X (.int 0) S = some (.int x0, S) := fun {S} => rfl
  have i1 : ∀ {S : Sto}, pIx X (.int 1) S = some (.int x1, S) := fun {S} => rfl
  have i2 : ∀ {S : Sto}, pIx X (.int 2) S = some (.int x2, S) := fun {S} => rfl
  have i3 : ∀ {S : Sto}, pIx X (.int 3) S = some (.int x3, S) := fun {S} => rfl
  have i6 : ∀ {S : Sto}, pIx X (.int 6) S = some (.int x6, S) := fun {S} => rfl
  have i7 : ∀ {S : Sto}, pIx X (.int 7) S = some (.int x7, S) := fun {S} => rfl
  have hst : pureOf F_law_drawn [.int c, .int 8, .bl dg] = some X := hst
  have hled : pureOf F_law_led [X, .int at_, .int many] = some (.int n) := hled
  clear_value X
  have c0 : ∀ {S : Sto}, pIx (cellD ce) (.int 0) S = some (.str ce.1, S) := fun {S} => rfl
  have s0 : ∀ {S : Sto}, pIx (shelfD sh) (.int 0) S = some (.str sh.1, S) := fun {S} => rfl
  have hck : hasK (cells.map fun c => (Sum.inr c.1 : Key)) (Sum.inr ce.1) = true := hasK_mem (List.mem_map_of_mem hce)
  have hsk : hasK (shelves.map fun c => (Sum.inr c.1 : Key)) (Sum.inr sh.1) = true := hasK_mem (List.mem_map_of_mem hsh)
  have p : plainL (nl.map DV.str) = true := plainL_strs
  have un : ∀ ρ : List (Option DV), dAsg (dVar 3) (gTupD 5 (gsCons (gSet 11) (gsCons (gSet 12) (gsCons (gSet 13) (gsCons (gSet 14) (gsCons (gSet 15) gsNil)))))) (some (.int c) :: some (.int at_) :: some (.int many) :: some (worldD nl cells shelves lets dg) :: ρ) [] = some (.nx (((((some (DV.int c) :: some (.int at_) :: some (.int many) :: some (worldD nl cells shelves lets dg) :: ρ).set 11 (some (.lst .own (nl.map .str)))).set 12 (some (.lst .own (cells.map cellD)))).set 13 (some (.lst .own (shelves.map shelfD)))).set 14 (some (.lst .own (lets.map .int))) |>.set 15 (some (.bl dg))) []) := fun ρ => rfl
  -- what is told, and where
  have key : ∃ d, RowP (cells.map fun c => .inr c.1) (shelves.map fun c => .inr c.1) many d ∧ F_law_row [.int c, .int at_, .int many, worldD nl cells shelves lets dg] [] = some (d, []) := by
    let B : List (Option DV) := [some (.int c), some (.int at_), some (.int many), some (worldD nl cells shelves lets dg), some X, some (.str s1), some (.str ce.1), some (.str sh.1), some a2.d, some a3.d, some (.int (x0 % 23)), some (.lst .own (nl.map .str)), some (.lst .own (cells.map cellD)), some (.lst .own (shelves.map shelfD)), some (.lst .own (lets.map .int)), some (.bl dg)]
    by_cases q0 : x0 % 23 < 5
    · refine ⟨(PRow.op s1 sg a2 a3).d, ⟨_, rfl, ⟨hsg, A2, A3⟩, trivial⟩, ?_⟩
      unfold F_law_row b_law_row runF
      simp only [List.length_cons, List.length_nil, List.map_cons, List.map_nil, List.replicate, List.cons_append, List.nil_append, if_true]
      rw [v_seq, un]
      simp [cpL_plain, hst, i0, i1, i2, i3, i6, i7, v_modI, q0, PRow.d, pm1, px1, pmc, pxc, pms, pxs, c0, s0, e2, e3, p, pg, pX]
    by_cases q1 : x0 % 23 < 17
    · obtain ⟨d, hd, pd⟩ := pickN (x0 % 23) [(PRow.load s1 ce.1).d, (PRow.store ce.1 a2).d, (PRow.take s1 sh.1 a2).d, (PRow.lay sh.1 a2 a3).d] 4 (by decide) rfl
      refine ⟨d, ?_, ?_⟩
      · simp only [List.mem_cons, List.not_mem_nil, or_false] at hd
        rcases hd with rfl | rfl | rfl | rfl
        · exact ⟨_, rfl, hck, trivial⟩
        · exact ⟨_, rfl, ⟨hck, A2⟩, trivial⟩
        · exact ⟨_, rfl, ⟨hsk, A2⟩, trivial⟩
        · exact ⟨_, rfl, ⟨hsk, A2, A3⟩, trivial⟩
      · simp only [PRow.d] at pd
        unfold F_law_row b_law_row runF
        simp only [List.length_cons, List.length_nil, List.map_cons, List.map_nil, List.replicate, List.cons_append, List.nil_append, if_true]
        rw [v_seq, un]
        simp [cpL_plain, hst, i0, i1, i2, i3, i6, i7, v_modI, q0, q1, pm1, px1, pmc, pxc, pms, pxs, c0, s0, e2, e3, p, pX, pd, -Int.emod_emod_of_dvd]
    by_cases q2 : x0 % 23 < 20
    · obtain ⟨d, hd, pd⟩ := pickN (x0 % 23) [(PRow.copy s1 a2).d, (PRow.hear s1).d, (PRow.say a2).d] 3 (by decide) rfl
      refine ⟨d, ?_, ?_⟩
      · simp only [List.mem_cons, List.not_mem_nil, or_false] at hd
        rcases hd with rfl | rfl | rfl
        · exact ⟨_, rfl, A2, trivial⟩
        · exact ⟨_, rfl, trivial, trivial⟩
        · exact ⟨_, rfl, A2, trivial⟩
      · simp only [PRow.d] at pd
        unfold F_law_row b_law_row runF
        simp only [List.length_cons, List.length_nil, List.map_cons, List.map_nil, List.replicate, List.cons_append, List.nil_append, if_true]
        rw [v_seq, un]
        simp [cpL_plain, hst, i0, i1, i2, i3, i6, i7, v_modI, q0, q1, q2, pm1, px1, pmc, pxc, pms, pxs, c0, s0, e2, e3, p, pX, pd, -Int.emod_emod_of_dvd]
    by_cases q3 : x0 % 23 < 22
    · obtain ⟨d, hd, pd⟩ := pickN x7 [.str s1, a2.d] 2 (by decide) rfl
      have : ∃ a : Atm, d = a.d ∧ a.Ok := by
        simp only [List.mem_cons, List.not_mem_nil, or_false] at hd
        rcases hd with rfl | rfl
        · exact ⟨.x s1, rfl, trivial⟩
        · exact ⟨a2, rfl, A2⟩
      obtain ⟨a, rfl, ha⟩ := this
      refine ⟨(PRow.ifr a n).d, ⟨_, rfl, ha, hn⟩, ?_⟩
      unfold F_law_row b_law_row runF
      simp only [List.length_cons, List.length_nil, List.map_cons, List.map_nil, List.replicate, List.cons_append, List.nil_append, if_true]
      rw [v_seq, un]
      simp [cpL_plain, hst, i0, i1, i2, i3, i6, i7, v_modI, q0, q1, q2, q3, pm1, px1, pmc, pxc, pms, pxs, c0, s0, e2, e3, p, pX, pd, hled, PRow.d]
    · obtain ⟨d, hd, pd⟩ := pickN x7 [(PRow.endr a2).d, (PRow.say a3).d, (PRow.go n).d] 3 (by decide) rfl
      refine ⟨d, ?_, ?_⟩
      · simp only [List.mem_cons, List.not_mem_nil, or_false] at hd
        rcases hd with rfl | rfl | rfl
        · exact ⟨_, rfl, A2, trivial⟩
        · exact ⟨_, rfl, A3, trivial⟩
        · exact ⟨_, rfl, trivial, hn⟩
      · simp only [PRow.d] at pd
        unfold F_law_row b_law_row runF
        simp only [List.length_cons, List.length_nil, List.map_cons, List.map_nil, List.replicate, List.cons_append, List.nil_append, if_true]
        rw [v_seq, un]
        simp [cpL_plain, hst, i0, i1, i2, i3, i6, i7, v_modI, q0, q1, q2, q3, pm1, px1, pmc, pxc, pms, pxs, c0, s0, e2, e3, p, pX, pd, hled]
  obtain ⟨d, ⟨r, rfl, h1, h2⟩, e⟩ := key
  exact ⟨r, pureOf_of e PRow.plain_d, h1, h2⟩
end Lk24

namespace Lk24
open PySem PySem.Spec PyProof.Rows L2 Dn
theorem sIx_int {n d : Nat} {i : Int} (h : 0 ≤ i) : HT.sIx n d (some i) = min i.toNat n := by
  obtain ⟨k, rfl⟩ := Int.eq_ofNat_of_zero_le h
  rw [HT.sIx_nat, Int.toNat_natCast]
theorem cut_from {l : List Str} {i : Int} (h : 0 ≤ i) : Dn.cutD (l.map .str) (some i) none = (l.drop i.toNat).map .str := by
  unfold Dn.cutD
  rw [sIx_int h, HT.sIx_none, List.length_map, ← List.map_drop, List.take_of_length_le (by simp)]
  by_cases q : i.toNat ≤ l.length
  · rw [Nat.min_eq_left q]
  · rw [Nat.min_eq_right (by omega), List.drop_eq_nil_of_le (Nat.le_refl _), List.drop_eq_nil_of_le (by omega)]
theorem cut_to {l : List Str} {i : Int} (h : 0 ≤ i) : Dn.cutD (l.map .str) none (some i) = (l.take i.toNat).map .str := by
  unfold Dn.cutD
  rw [sIx_int h, HT.sIx_none, List.length_map, List.drop_zero, Nat.sub_zero, ← List.map_take]
  by_cases q : i.toNat ≤ l.length
  · rw [Nat.min_eq_left q]
  · rw [Nat.min_eq_right (by omega), List.take_of_length_le (Nat.le_refl _), List.take_of_length_le (by omega)]
def cellsL (c : Int) (xs : List Int) (n : Nat) : List (Str × Int × Bool) := (List.range n).map fun k => (nmK c k, vb (xs.getD k 0 / 2), decide (xs.getD k 0 % 2 = 0))
def shelvesL (c : Int) (xs : List Int) (n : Nat) : List (Str × Nat × Bool) := (List.range n).map fun k => (nmK c (8 + k), (1 + xs.getD (8 + k) 0 % 8).toNat, decide (xs.getD (8 + k) 0 / 8 % 2 = 0))
section
variable {c : Int} {xs : List Int} {n : Nat} {x0 x2 x4 x5 : Option DV} {S : Sto}
theorem eval_cells (hx : xs.length = 16) (hn : n ≤ 8) : lcL (gSet 9) (dC (.bl true)) (dPrim pTup (aCons (dBin pIx (dVar 1) (dVar 9)) (aCons (dPrim (cP (pureOf F_law_value_by) []) (aCons (dBin pDiv (dBin pIx (dVar 3) (dVar 9)) (dC (.int 2))) aNil)) (aCons (dBin (pEq false) (dBin pMod (dBin pIx (dVar 3) (dVar 9)) (dC (.int 2))) (dC (.int 0))) aNil))))
    [x0, some (.lst .own (((List.range 24).map fun k => nmK c k).map .str)), x2, some (.lst .own (xs.map .int)), x4, none, none, none, none, none, none] (rgD 0 n) S = some ((cellsL c xs n).map cellD, S) := by
  rw [lcL_range (h := fun k => cellD (nmK c k, vb (xs.getD k 0 / 2), decide (xs.getD k 0 % 2 = 0))) fun k hk => ?_]
  · unfold cellsL
    rw [List.map_map] <;> rfl
  · have h1 := name_at (c := c) (n := 24) (k := k) (by omega) (S := S)
    have h2 := xs_at (xs := xs) (k := k) (by omega) (S := S)
    refine ⟨_, rfl, rfl, ?_⟩
    simp [h1, h2, v_divI, v_modI, cpL_plain, vb_eq, cellD, -List.getD_eq_getElem?_getD, -List.map_map]
theorem eval_shelves (hx : xs.length = 16) (hn : n ≤ 4) : lcL (gSet 9) (dC (.bl true)) (dPrim pTup (aCons (dBin pIx (dVar 1) (dBin pAdd (dC (.int 8)) (dVar 9))) (aCons (dBin pAdd (dC (.int 1)) (dBin pMod (dBin pIx (dVar 3) (dBin pAdd (dC (.int 8)) (dVar 9))) (dC (.int 8)))) (aCons (dBin (pEq false) (dBin pMod (dBin pDiv (dBin pIx (dVar 3) (dBin pAdd (dC (.int 8)) (dVar 9))) (dC (.int 8))) (dC (.int 2))) (dC (.int 0))) aNil))))
    [x0, some (.lst .own (((List.range 24).map fun k => nmK c k).map .str)), x2, some (.lst .own (xs.map .int)), x4, x5, none, none, none, none, none] (rgD 0 n) S = some ((shelvesL c xs n).map shelfD, S) := by
  rw [lcL_range (h := fun k => shelfD (nmK c (8 + k), (1 + xs.getD (8 + k) 0 % 8).toNat, decide (xs.getD (8 + k) 0 / 8 % 2 = 0))) fun k hk => ?_]
  · unfold shelvesL
    rw [List.map_map] <;> rfl
  · have h1 := name_at (c := c) (n := 24) (k := 8 + k) (by omega) (S := S)
    have h2 := xs_at (xs := xs) (k := 8 + k) (by omega) (S := S)
    have e : ((8 + k : Nat) : Int) = 8 + (k : Int) := by omega
    rw [e] at h1 h2
    have e2 : (((1 + xs.getD (8 + k) 0 % 8).toNat : Nat) : Int) = 1 + xs.getD (8 + k) 0 % 8 := by omega
    refine ⟨_, rfl, rfl, ?_⟩
    simp [h1, h2, v_divI, v_modI, cpL_plain, vb_eq, shelfD, e2, -List.getD_eq_getElem?_getD, -List.map_map]
end
theorem names_nd (c : Int) (xs : List Int) (n m : Nat) (hn : n ≤ 8) (hm : m ≤ 4) : ((cellsL c xs n).map (·.1) ++ (shelvesL c xs m).map (·.1)).Nodup := by
  have h1 := nm_nodup c 0 n (by omega)
  have h2 := nm_nodup c 8 m (by omega)
  simp only [Nat.zero_add] at h1
  unfold cellsL shelvesL
  rw [List.map_map, List.map_map]
  refine List.nodup_append.mpr ⟨h1, h2, fun a ha b hb q => ?_⟩
  obtain ⟨i, hi, rfl⟩ := List.mem_map.mp ha
  obtain ⟨j, hj, rfl⟩ := List.mem_map.mp hb
  have hi := List.mem_range.mp hi
  have hj := List.mem_range.mp hj
  have := nm_inj (c := c) (i := i) (j := 8 + j) (by omega) (by omega) q
  omega
theorem shelves_sz (c : Int) (xs : List Int) (n : Nat) : ∀ s ∈ shelvesL c xs n, 0 < s.2.1 ∧ s.2.1 ≤ 8 := fun s h => by
  obtain ⟨k, _, rfl⟩ := List.mem_map.mp h
  show 0 < (1 + xs.getD (8 + k) 0 % 8).toNat ∧ (1 + xs.getD (8 + k) 0 % 8).toNat ≤ 8
  generalize xs.getD (8 + k) 0 = y
  omega
theorem cells_in (c : Int) (xs : List Int) (n : Nat) : ∀ s ∈ cellsL c xs n, In40 s.2.1 := fun s h => by
  obtain ⟨k, _, rfl⟩ := List.mem_map.mp h
  exact vb_40 _
/-- a world is told -/
structure Wld (bl : List Str) (cells : List (Str × Int × Bool)) (shelves : List (Str × Nat × Bool)) (lets : List Int) : Prop where
  b0 : 0 < bl.length
  c0 : 0 < cells.length
  c8 : cells.length ≤ 8
  s0 : 0 < shelves.length
  s4 : shelves.length ≤ 4
  nd : (cells.map (·.1) ++ shelves.map (·.1)).Nodup
  sz : ∀ s ∈ shelves, 0 < s.2.1 ∧ s.2.1 ≤ 8
  ci : ∀ s ∈ cells, In40 s.2.1
  li : ∀ v ∈ lets, In40 v
  ll : lets.length ≤ 60
theorem most_ok (dg : Bool) : ∃ m0 m1 m2 m3 : Int, 0 < m0 ∧ m0 ≤ 8 ∧ 0 < m1 ∧ m1 ≤ 4 ∧ 0 < m2 ∧ m2 ≤ 12 ∧ 0 < m3 ∧ m3 ≤ 60 ∧ ∀ ρ : List (Option DV), ρ[2]? = some (some (.bl dg)) →
    dBin pIx (dPrim pLst (aCons (dPrim pLst (aCons (dC (.int 3)) (aCons (dC (.int 2)) (aCons (dC (.int 4)) (aCons (dC (.int 7)) aNil))))) (aCons (dPrim pLst (aCons (dC (.int 8)) (aCons (dC (.int 4)) (aCons (dC (.int 12)) (aCons (dC (.int 60)) aNil))))) aNil))) (dPrim pInt (aCons (dVar 2) aNil)) ρ [] = some (.lst .own [.int m0, .int m1, .int m2, .int m3], []) := by
  cases dg with
  | true =>
    refine ⟨8, 4, 12, 60, by decide, by decide, by decide, by decide, by decide, by decide, by decide, by decide, fun ρ h => ?_⟩
    simp [h]
    rfl
  | false =>
    refine ⟨3, 2, 4, 7, by decide, by decide, by decide, by decide, by decide, by decide, by decide, by decide, fun ρ h => ?_⟩
    simp [h]
    rfl
theorem world_ok (ns : List Int) : ∃ bl cells shelves lets dg, Wld bl cells shelves lets ∧ pureOf F_law_world [.lst .ext (ns.map DV.int)] = some (worldD bl cells shelves lets dg) := by
  have a0 : pureOf F_law_cell_at [.lst .ext (ns.map DV.int), .int 0] = some (.int (ns.getD 0 0)) := at_cell
  have a1 : pureOf F_law_cell_at [.lst .ext (ns.map DV.int), .int 1] = some (.int (ns.getD 1 0)) := at_cell (k := 1)
  have a2 : pureOf F_law_cell_at [.lst .ext (ns.map DV.int), .int 2] = some (.int (ns.getD 2 0)) := at_cell (k := 2)
  generalize ns.getD 0 0 = c0 at a0
  generalize ns.getD 1 0 = c1 at a1
  generalize ns.getD 2 0 = c2 at a2
  have nq := names_eq c0 24 (by decide)
  have nq : pureOf F_law_names [.int c0, .int 24] = some (.lst .own (((List.range 24).map fun k => nmK c0 k).map .str)) := by
    rw [List.map_map]
    exact nq
  generalize hdg : decide (c0 % 2 = 1) = dg
  obtain ⟨xs, hx, hx0, hxs⟩ := drawn_eq c1 16 (by decide) dg
  have hxs : pureOf F_law_drawn [.int c1, .int 16, .bl dg] = some (.lst .own (xs.map .int)) := hxs
  have g0 : ∀ k, 0 ≤ xs.getD k 0 := fun k => by
    rw [List.getD_eq_getElem?_getD]
    cases e : xs[k]? with
    | none => exact Int.le_refl _
    | some v => exact hx0 v (List.mem_of_getElem? e)
  have i12 : ∀ {S : Sto}, pIx (.lst .own (xs.map .int)) (.int 12) S = some (.int (xs.getD 12 0), S) := fun {S} => xs_at (k := 12) (by omega)
  have i13 : ∀ {S : Sto}, pIx (.lst .own (xs.map .int)) (.int 13) S = some (.int (xs.getD 13 0), S) := fun {S} => xs_at (k := 13) (by omega)
  have i14 : ∀ {S : Sto}, pIx (.lst .own (xs.map .int)) (.int 14) S = some (.int (xs.getD 14 0), S) := fun {S} => xs_at (k := 14) (by omega)
  have i15 : ∀ {S : Sto}, pIx (.lst .own (xs.map .int)) (.int 15) S = some (.int (xs.getD 15 0), S) := fun {S} => xs_at (k := 15) (by omega)
  have g14 := g0 14
  obtain ⟨m0, m1, m2, m3, p0, l0, p1, l1, p2, l2, p3, l3, hm⟩ := most_ok dg
  let M : DV := .lst .own [.int m0, .int m1, .int m2, .int m3]
  have j0 : ∀ {S : Sto}, pIx M (.int 0) S = some (.int m0, S) := fun {S} => rfl
  have j1 : ∀ {S : Sto}, pIx M (.int 1) S = some (.int m1, S) := fun {S} => rfl
  have j2 : ∀ {S : Sto}, pIx M (.int 2) S = some (.int m2, S) := fun {S} => rfl
  have j3 : ∀ {S : Sto}, pIx M (.int 3) S = some (.int m3, S) := fun {S} => rfl
  have hm : ∀ ρ : List (Option DV), ρ[2]? = some (some (.bl dg)) → _ = some (M, []) := hm
  clear_value M
  have z12 := Int.emod_nonneg (xs.getD 12 0) (show m0 ≠ 0 by omega)
  have z12' := Int.emod_lt_of_pos (xs.getD 12 0) p0
  have z13 := Int.emod_nonneg (xs.getD 13 0) (show m1 ≠ 0 by omega)
  have z13' := Int.emod_lt_of_pos (xs.getD 13 0) p1
  have zb := Int.emod_nonneg (3 + xs.getD 14 0) (show m2 ≠ 0 by omega)
  have zl := Int.emod_nonneg (xs.getD 14 0 / 16) (show m3 ≠ 0 by omega)
  have zl' := Int.emod_lt_of_pos (xs.getD 14 0 / 16) p3
  have q12 : ∀ {S : Sto}, pMod (.int (xs.getD 12 0)) (.int m0) S = some (.int (xs.getD 12 0 % m0), S) := v_modI p0
  have q13 : ∀ {S : Sto}, pMod (.int (xs.getD 13 0)) (.int m1) S = some (.int (xs.getD 13 0 % m1), S) := v_modI p1
  have qb : ∀ {S : Sto}, pMod (.int (3 + xs.getD 14 0)) (.int m2) S = some (.int ((3 + xs.getD 14 0) % m2), S) := v_modI p2
  have ql : ∀ {S : Sto}, pMod (.int (xs.getD 14 0 / 16)) (.int m3) S = some (.int (xs.getD 14 0 / 16 % m3), S) := v_modI p3
  obtain ⟨nc, hnc⟩ : ∃ n : Nat, (n : Int) = 1 + xs.getD 12 0 % m0 := ⟨(1 + xs.getD 12 0 % m0).toNat, by omega⟩
  obtain ⟨nsh, hns⟩ : ∃ n : Nat, (n : Int) = 1 + xs.getD 13 0 % m1 := ⟨(1 + xs.getD 13 0 % m1).toNat, by omega⟩
  obtain ⟨nl, hnl⟩ : ∃ n : Nat, (n : Int) = xs.getD 14 0 / 16 % m3 := ⟨(xs.getD 14 0 / 16 % m3).toNat, by omega⟩
  have nc8 : nc ≤ 8 := by omega
  have nc1 : 0 < nc := by omega
  have ns4 : nsh ≤ 4 := by omega
  have ns1 : 0 < nsh := by omega
  obtain ⟨zs, hz, hz0, hzs⟩ := drawn_eq c2 nl (by omega) dg
  let nm : List Str := (List.range 24).map fun k => nmK c0 k
  have nml : nm.length = 24 := by simp [nm]
  let b1 : List Str := nm.drop (12 - xs.getD 15 0 % 13).toNat
  have cb1 : Dn.cutD (nm.map .str) (some (12 - xs.getD 15 0 % 13)) none = b1.map .str := cut_from (by omega)
  let bl : List Str := b1.take (1 + (3 + xs.getD 14 0) % m2).toNat
  have cb2 : Dn.cutD (b1.map .str) none (some (1 + (3 + xs.getD 14 0) % m2)) = bl.map .str := cut_to (by omega)
  have bl0 : 0 < bl.length := by
    simp only [bl, b1, List.length_take, List.length_drop, nml]
    omega
  have ec := eval_cells (c := c0) (x0 := some (.lst .ext (ns.map DV.int))) (x2 := some (.bl dg)) (x4 := some M) (S := []) hx nc8
  have es := eval_shelves (c := c0) (x0 := some (.lst .ext (ns.map DV.int))) (x2 := some (.bl dg)) (x4 := some M) (x5 := some (.lst .own ((cellsL c0 xs nc).map cellD))) (S := []) hx ns4
  have W : Wld bl (cellsL c0 xs nc) (shelvesL c0 xs nsh) (zs.map vb) := ⟨bl0, by simp [cellsL]; omega, by simp [cellsL]; omega, by simp [shelvesL]; omega, by simp [shelvesL]; omega, names_nd c0 xs nc nsh nc8 ns4, shelves_sz _ _ _, cells_in _ _ _, fun v h => by
    obtain ⟨z, _, rfl⟩ := List.mem_map.mp h
    exact vb_40 z, by rw [List.length_map]; omega⟩
  refine ⟨bl, cellsL c0 xs nc, shelvesL c0 xs nsh, zs.map vb, dg, W, pureOf_of (S' := []) ?_ world_plain⟩
  have clen : (cellsL c0 xs nc).length ≤ 8 := W.c8
  have slen : (shelvesL c0 xs nsh).length ≤ 4 := W.s4
  generalize cellsL c0 xs nc = cells at ec es clen ⊢
  generalize shelvesL c0 xs nsh = shelves at es slen ⊢
  let E : Option DV → Option DV → Option DV → Option DV → List (Option DV) := fun y5 y6 y7 y8 => [some (.lst .ext (ns.map DV.int)), some (.lst .own (nm.map .str)), some (.bl dg), some (.lst .own (xs.map .int)), some M, y5, y6, y7, y8, none, none]
  have s1 : ∀ ρ : List (Option DV), dSet 1 (dPrim (cP (pureOf F_law_names) []) (aCons (dPrim (cP (pureOf F_law_cell_at) []) (aCons (dVar 0) (aCons (dC (.int 0)) aNil))) (aCons (dC (.int 24)) aNil))) (some (.lst .ext (ns.map DV.int)) :: ρ) [] = some (.nx ((some (.lst .ext (ns.map DV.int)) :: ρ).set 1 (some (.lst .own (nm.map .str)))) []) := fun ρ => by
    have nq' : pureOf F_law_names [.int c0, .int 24] = some (.lst .own (nm.map .str)) := nq
    clear_value nm
    simp [cpL_plain, a0, nq']
  have s2 : ∀ ρ : List (Option DV), dSet 2 (dBin (pEq false) (dBin pMod (dPrim (cP (pureOf F_law_cell_at) []) (aCons (dVar 0) (aCons (dC (.int 0)) aNil))) (dC (.int 2))) (dC (.int 1))) (some (.lst .ext (ns.map DV.int)) :: ρ) [] = some (.nx ((some (.lst .ext (ns.map DV.int)) :: ρ).set 2 (some (.bl dg))) []) := fun ρ => by
    simp [cpL_plain, a0, v_modI, hdg]
  have s3 : ∀ (y1 : Option DV) (ρ : List (Option DV)), dSet 3 (dPrim (cP (pureOf F_law_drawn) []) (aCons (dPrim (cP (pureOf F_law_cell_at) []) (aCons (dVar 0) (aCons (dC (.int 1)) aNil))) (aCons (dC (.int 16)) (aCons (dVar 2) aNil)))) (some (.lst .ext (ns.map DV.int)) :: y1 :: some (.bl dg) :: ρ) [] = some (.nx ((some (.lst .ext (ns.map DV.int)) :: y1 :: some (.bl dg) :: ρ).set 3 (some (.lst .own (xs.map .int)))) []) := fun y1 ρ => by
    simp [cpL_plain, a1, hxs]
  have r5 : iRange1 (aCons (dBin pAdd (dC (.int 1)) (dBin pMod (dBin pIx (dVar 3) (dC (.int 12))) (dBin pIx (dVar 4) (dC (.int 0))))) aNil) (E none none none none) [] = some (rgD 0 nc, []) := by
    unfold iRange1
    simp [E, i12, j0, q12, ← hnc, -List.getD_eq_getElem?_getD, -List.map_map]
    omega
  have s5 : dSet 5 (dLc (iRange1 (aCons (dBin pAdd (dC (.int 1)) (dBin pMod (dBin pIx (dVar 3) (dC (.int 12))) (dBin pIx (dVar 4) (dC (.int 0))))) aNil)) (gSet 9) (dC (.bl true)) (dPrim pTup (aCons (dBin pIx (dVar 1) (dVar 9)) (aCons (dPrim (cP (pureOf F_law_value_by) []) (aCons (dBin pDiv (dBin pIx (dVar 3) (dVar 9)) (dC (.int 2))) aNil)) (aCons (dBin (pEq false) (dBin pMod (dBin pIx (dVar 3) (dVar 9)) (dC (.int 2))) (dC (.int 0))) aNil)))) [9]) (E none none none none) [] = some (.nx (E (some (.lst .own (cells.map cellD))) none none none) []) := by
    rw [v_set, dLc_of r5 ec (size_ok (by rw [List.length_map]; omega))]
    rfl
  have r6 : iRange1 (aCons (dBin pAdd (dC (.int 1)) (dBin pMod (dBin pIx (dVar 3) (dC (.int 13))) (dBin pIx (dVar 4) (dC (.int 1))))) aNil) (E (some (.lst .own (cells.map cellD))) none none none) [] = some (rgD 0 nsh, []) := by
    unfold iRange1
    simp [E, i13, j1, q13, ← hns, -List.getD_eq_getElem?_getD, -List.map_map]
    omega
  have s6 : dSet 6 (dLc (iRange1 (aCons (dBin pAdd (dC (.int 1)) (dBin pMod (dBin pIx (dVar 3) (dC (.int 13))) (dBin pIx (dVar 4) (dC (.int 1))))) aNil)) (gSet 9) (dC (.bl true)) (dPrim pTup (aCons (dBin pIx (dVar 1) (dBin pAdd (dC (.int 8)) (dVar 9))) (aCons (dBin pAdd (dC (.int 1)) (dBin pMod (dBin pIx (dVar 3) (dBin pAdd (dC (.int 8)) (dVar 9))) (dC (.int 8)))) (aCons (dBin (pEq false) (dBin pMod (dBin pDiv (dBin pIx (dVar 3) (dBin pAdd (dC (.int 8)) (dVar 9))) (dC (.int 8))) (dC (.int 2))) (dC (.int 0))) aNil)))) [9]) (E (some (.lst .own (cells.map cellD))) none none none) [] = some (.nx (E (some (.lst .own (cells.map cellD))) (some (.lst .own (shelves.map shelfD))) none none) []) := by
    rw [v_set, dLc_of r6 es (size_ok (by rw [List.length_map]; omega))]
    rfl
  have s7 : dSet 7 (dSl pSl (dSl pSl (dVar 1) (oSome (dBin pSub (dC (.int 12)) (dBin pMod (dBin pIx (dVar 3) (dC (.int 15))) (dC (.int 13))))) oNone) oNone (oSome (dBin pAdd (dC (.int 1)) (dBin pMod (dBin pAdd (dC (.int 3)) (dBin pIx (dVar 3) (dC (.int 14)))) (dBin pIx (dVar 4) (dC (.int 2))))))) (E (some (.lst .own (cells.map cellD))) (some (.lst .own (shelves.map shelfD))) none none) [] = some (.nx (E (some (.lst .own (cells.map cellD))) (some (.lst .own (shelves.map shelfD))) (some (.lst .own (bl.map .str))) none) []) := by
    clear_value bl b1 nm
    simp [E, i14, i15, j2, qb, v_modI, cb1, cb2, -List.getD_eq_getElem?_getD, -List.map_map]
  have s8 : dSet 8 (dPrim (cP (pureOf F_law_drawn) []) (aCons (dPrim (cP (pureOf F_law_cell_at) []) (aCons (dVar 0) (aCons (dC (.int 2)) aNil))) (aCons (dBin pMod (dBin pDiv (dBin pIx (dVar 3) (dC (.int 14))) (dC (.int 16))) (dBin pIx (dVar 4) (dC (.int 3)))) (aCons (dVar 2) aNil)))) (E (some (.lst .own (cells.map cellD))) (some (.lst .own (shelves.map shelfD))) (some (.lst .own (bl.map .str))) none) [] = some (.nx (E (some (.lst .own (cells.map cellD))) (some (.lst .own (shelves.map shelfD))) (some (.lst .own (bl.map .str))) (some (.lst .own (zs.map .int)))) []) := by
    clear_value bl b1 nm
    simp [E, cpL_plain, a2, i14, j3, ql, v_divI, ← hnl, hzs, -List.getD_eq_getElem?_getD, -List.map_map]
  have hm9 := lcL_map (g := gSet 10) (c := dC (.bl true)) (fe := dPrim (cP (pureOf F_law_value_by) []) (aCons (dVar 10) aNil)) (ρ := dwipe (E (some (.lst .own (cells.map cellD))) (some (.lst .own (shelves.map shelfD))) (some (.lst .own (bl.map .str))) (some (.lst .own (zs.map .int)))) [10]) (S := []) (f := fun d => match d with | .int z => .int (vb z) | _ => .non) (ds := zs.map DV.int) fun d hd => by
    obtain ⟨z, _, rfl⟩ := List.mem_map.mp hd
    refine ⟨_, rfl, rfl, ?_⟩
    clear_value bl b1 nm
    simp [cpL_plain, vb_eq, E]
  have s9 : dLc (iSeq (dVar 8)) (gSet 10) (dC (.bl true)) (dPrim (cP (pureOf F_law_value_by) []) (aCons (dVar 10) aNil)) [10] (E (some (.lst .own (cells.map cellD))) (some (.lst .own (shelves.map shelfD))) (some (.lst .own (bl.map .str))) (some (.lst .own (zs.map .int)))) [] = some (.lst .own ((zs.map vb).map .int), []) := by
    rw [dLc_of (S1 := []) rfl hm9 (size_ok (by rw [List.length_map, List.length_map]; omega)), List.map_map, List.map_map]
    rfl
  unfold F_law_world b_law_world runF
  simp only [List.length_cons, List.length_nil, List.map_cons, List.map_nil, List.replicate, List.cons_append, List.nil_append, if_true]
  rw [v_seq, s1]
  simp only [List.set_cons_succ, List.set_cons_zero]
  rw [v_seq, s2]
  simp only [List.set_cons_succ, List.set_cons_zero]
  rw [v_seq, s3]
  simp only [List.set_cons_succ, List.set_cons_zero]
  rw [v_seq, v_set, hm _ rfl]
  simp only [List.set_cons_succ, List.set_cons_zero]
  rw [v_seq, show dSet 5 _ _ _ = _ from s5]
  simp only
  rw [v_seq, s6]
  simp only
  rw [v_seq, s7]
  simp only
  rw [v_seq, s8]
  simp only
  have s10 : ∀ y8, dPrim pTup (aCons (dVar 7) (aCons (dVar 5) (aCons (dVar 6) (aCons (dLc (iSeq (dVar 8)) (gSet 10) (dC (.bl true)) (dPrim (cP (pureOf F_law_value_by) []) (aCons (dVar 10) aNil)) [10]) (aCons (dVar 2) aNil))))) (E (some (.lst .own (cells.map cellD))) (some (.lst .own (shelves.map shelfD))) (some (.lst .own (bl.map .str))) (some (.lst .own (zs.map .int)))) [] = some (worldD bl cells shelves (zs.map vb) dg, y8) ↔ y8 = [] := fun y8 => by
    have v7 : dVar 7 (E (some (.lst .own (cells.map cellD))) (some (.lst .own (shelves.map shelfD))) (some (.lst .own (bl.map .str))) (some (.lst .own (zs.map .int)))) [] = some (.lst .own (bl.map .str), []) := rfl
    have v5 : dVar 5 (E (some (.lst .own (cells.map cellD))) (some (.lst .own (shelves.map shelfD))) (some (.lst .own (bl.map .str))) (some (.lst .own (zs.map .int)))) [] = some (.lst .own (cells.map cellD), []) := rfl
    have v6 : dVar 6 (E (some (.lst .own (cells.map cellD))) (some (.lst .own (shelves.map shelfD))) (some (.lst .own (bl.map .str))) (some (.lst .own (zs.map .int)))) [] = some (.lst .own (shelves.map shelfD), []) := rfl
    have v2 : dVar 2 (E (some (.lst .own (cells.map cellD))) (some (.lst .own (shelves.map shelfD))) (some (.lst .own (bl.map .str))) (some (.lst .own (zs.map .int)))) [] = some (.bl dg, []) := rfl
    simp only [v_prim, v_cons, v_nil, v7, v5, v6, v2, s9]
    show some (worldD bl cells shelves (zs.map vb) dg, []) = _ ↔ _
    simp [eq_comm]
  rw [v_ret, (s10 []).mpr rfl]
end Lk24

namespace Lk24
open PySem PySem.Spec PyProof.Rows L2 Dn
/-! ### dicts of two parts -/
section
variable {κ α : Type} [DecidableEq κ] {k : κ} {v : α}
theorem rp_app : ∀ {a : List κ} {c : List α} {b : List κ} {d : List α}, a.length = c.length → rpG k v (a ++ b) (c ++ d) = rpG k v a c ++ rpG k v b d
  | [], [], _, _, _ => rfl
  | x :: a, y :: c, b, d, h => by
    show (if x = k then v else y) :: rpG k v (a ++ b) (c ++ d) = ((if x = k then v else y) :: rpG k v a c) ++ _
    rw [rp_app (Nat.succ.inj h)]
    rfl
theorem rp_none : ∀ {a : List κ} {c : List α}, hasK a k = false → a.length = c.length → rpG k v a c = c
  | [], [], _, _ => rfl
  | x :: a, y :: c, h, hl => by
    unfold hasK at h
    rw [List.any_cons, Bool.or_eq_false_iff] at h
    show (if x = k then v else y) :: rpG k v a c = _
    rw [rp_none (by exact h.2) (Nat.succ.inj hl), if_neg (of_decide_eq_false h.1)]
theorem lk_app : ∀ {a : List κ} {c : List α} {b : List κ} {d : List α}, a.length = c.length → lkG (a ++ b) (c ++ d) k = (match lkG a c k with | some x => some x | none => lkG b d k)
  | [], [], b, d, _ => rfl
  | x :: a, y :: c, b, d, h => by
    show (if x = k then some y else lkG (a ++ b) (c ++ d) k) = _
    by_cases q : x = k
    · rw [if_pos q]
      unfold lkG
      rw [if_pos q]
    · rw [if_neg q, lk_app (Nat.succ.inj h)]
      rw [show lkG (x :: a) (y :: c) k = lkG a c k by
        conv => lhs; unfold lkG
        rw [if_neg q]]
theorem lk_none : ∀ {a : List κ} {c : List α}, hasK a k = false → lkG a c k = none
  | [], _, _ => by unfold lkG; rfl
  | x :: a, [], _ => by unfold lkG; rfl
  | x :: a, y :: c, h => by
    unfold hasK at h
    rw [List.any_cons, Bool.or_eq_false_iff] at h
    unfold lkG
    rw [if_neg (of_decide_eq_false h.1), lk_none (by exact h.2)]
theorem lk_map {β : Type} {f : α → β} : ∀ {a : List κ} {c : List α}, lkG a (c.map f) k = (lkG a c k).map f
  | [], _ => by unfold lkG; rfl
  | x :: a, [] => by unfold lkG; rfl
  | x :: a, y :: c => by
    rw [List.map_cons]
    unfold lkG
    by_cases q : x = k
    · rw [if_pos q, if_pos q] <;> rfl
    · rw [if_neg q, if_neg q, lk_map]
theorem rp_map {β : Type} {f : α → β} : ∀ {a : List κ} {c : List α}, rpG k (f v) a (c.map f) = (rpG k v a c).map f
  | [], _ => by unfold rpG; rfl
  | x :: a, [] => by unfold rpG; rfl
  | x :: a, y :: c => by
    rw [List.map_cons]
    unfold rpG
    rw [List.map_cons, rp_map]
    by_cases q : x = k
    · rw [if_pos q, if_pos q]
    · rw [if_neg q, if_neg q]
theorem hasK_iff {a : List κ} : hasK a k = true ↔ k ∈ a := by
  unfold hasK
  rw [List.any_eq_true]
  exact ⟨fun ⟨x, h1, h2⟩ => by rw [← of_decide_eq_true h2]; exact h1, fun h => ⟨k, h, decide_eq_true rfl⟩⟩
theorem hasK_app {a b : List κ} : hasK (a ++ b) k = (hasK a k || hasK b k) := List.any_append
end
/-! ### places -/
def PV (S : Sto) (ls : List Nat) (vs : List (List Int)) : Prop := ∀ (i : Nat) (l : List Int), vs[i]? = some l → ∃ n : Nat, ls[i]? = some n ∧ S[n]? = some (Cell.lst (l.map DV.int))
theorem PV.ext {S S' : Sto} {ls : List Nat} {vs : List (List Int)} (h : PV S ls vs) (e : ∀ n ∈ ls, S'[n]? = S[n]?) : PV S' ls vs := fun i l hl => by
  obtain ⟨n, h1, h2⟩ := h i l hl
  exact ⟨n, h1, by rw [e n (List.mem_of_getElem? h1)]; exact h2⟩
theorem PV.at {S : Sto} {ks : List Key} {ls : List Nat} {vs : List (List Int)} (h : PV S ls vs) (hk : ks.Nodup) (hn : ls.Nodup) {k : Key} {l : List Int} (hl : lkG ks vs k = some l) :
    ∃ n : Nat, n ∈ ls ∧ lkG ks ls k = some n ∧ S[n]? = some (Cell.lst (l.map DV.int)) ∧ ∀ l', PV (S.set n (.lst (l'.map .int))) ls (rpG k l' ks vs) := by
  obtain ⟨i, h1, h2, h3⟩ := lkG_ix hl
  obtain ⟨n, h4, h5⟩ := h i l h2
  refine ⟨n, List.mem_of_getElem? h4, h3 h4, h5, fun l' i' u hu => ?_⟩
  rw [rpG_get] at hu
  cases e1 : ks[i']? with
  | none =>
    rw [e1] at hu
    cases hu
  | some k' =>
    cases e2 : vs[i']? with
    | none =>
      rw [e1, e2] at hu
      cases hu
    | some w =>
      rw [e1, e2] at hu
      cases hu
      obtain ⟨m, m1, m2⟩ := h i' w e2
      by_cases q : k' = k
      · have ii : i' = i := nodup_ix hk (by rw [e1, q]) h1
        subst ii
        rw [if_pos q]
        exact ⟨n, h4, List.getElem?_set_self (get_lt h5)⟩
      · rw [if_neg q]
        refine ⟨m, m1, ?_⟩
        rw [List.getElem?_set_ne]
        · exact m2
        · intro qq
          subst qq
          have : i' = i := nodup_ix hn m1 h4
          subst this
          rw [e1] at h1
          exact q (Option.some.inj h1)
theorem PV.new {S S' : Sto} {ks : List Key} {ls : List Nat} {vs : List (List Int)} (h : PV S ls vs) (hk : ks.length = ls.length) {k : Key} {m : Nat} {l' : List Int} (hm : S'[m]? = some (Cell.lst (l'.map DV.int))) (e : ∀ n ∈ ls, S'[n]? = S[n]?) : PV S' (rpG k m ks ls) (rpG k l' ks vs) := fun i u hu => by
  rw [rpG_get] at hu
  cases e1 : ks[i]? with
  | none =>
    rw [e1] at hu
    cases hu
  | some k' =>
    cases e2 : vs[i]? with
    | none =>
      rw [e1, e2] at hu
      cases hu
    | some w =>
      rw [e1, e2] at hu
      cases hu
      obtain ⟨n, n1, n2⟩ := h i w e2
      by_cases q : k' = k
      · rw [if_pos q]
        exact ⟨m, by rw [rpG_get, e1, n1]; show some (if k' = k then m else n) = _; rw [if_pos q], hm⟩
      · rw [if_neg q]
        exact ⟨n, by rw [rpG_get, e1, n1]; show some (if k' = k then m else n) = _; rw [if_neg q], by rw [e n (List.mem_of_getElem? n1)]; exact n2⟩
theorem rp_nodup {ks : List Key} {ls : List Nat} (hk : ks.Nodup) (hl : ls.Nodup) {k : Key} {m : Nat} (hm : m ∉ ls) : (rpG k m ks ls).Nodup := by
  rw [List.nodup_iff_pairwise_ne, List.pairwise_iff_getElem]
  intro i j hi hj hij q
  have g1 : (rpG k m ks ls)[i]? = some ((rpG k m ks ls)[i]) := List.getElem?_eq_getElem hi
  have g2 : (rpG k m ks ls)[j]? = some ((rpG k m ks ls)[j]) := List.getElem?_eq_getElem hj
  rw [← q] at g2
  generalize (rpG k m ks ls)[i] = x at g1 g2
  rw [rpG_get] at g1 g2
  cases a1 : ks[i]? with
  | none => rw [a1] at g1; cases g1
  | some k1 =>
    cases a2 : ls[i]? with
    | none => rw [a1, a2] at g1; cases g1
    | some n1 =>
      cases b1 : ks[j]? with
      | none => rw [b1] at g2; cases g2
      | some k2 =>
        cases b2 : ls[j]? with
        | none => rw [b1, b2] at g2; cases g2
        | some n2 =>
          rw [a1, a2] at g1
          rw [b1, b2] at g2
          have g1 : (if k1 = k then m else n1) = x := Option.some.inj g1
          have g2 : (if k2 = k then m else n2) = x := Option.some.inj g2
          have m1 := List.mem_of_getElem? a2
          have m2 := List.mem_of_getElem? b2
          by_cases q1 : k1 = k
          · by_cases q2 : k2 = k
            · have := nodup_ix hk (by rw [a1, q1]) (show ks[j]? = some k by rw [b1, q2])
              omega
            · rw [if_pos q1] at g1
              rw [if_neg q2] at g2
              exact hm (by rw [g1, ← g2]; exact m2)
          · by_cases q2 : k2 = k
            · rw [if_neg q1] at g1
              rw [if_pos q2] at g2
              exact hm (by rw [g2, ← g1]; exact m1)
            · rw [if_neg q1] at g1
              rw [if_neg q2] at g2
              have := nodup_ix hl a2 (show ls[j]? = some n1 by rw [b2, g2, g1])
              omega
theorem rp_sub {ks : List Key} {ls : List Nat} {k : Key} {m : Nat} : ∀ n ∈ rpG k m ks ls, n = m ∨ n ∈ ls := fun n h => by
  obtain ⟨i, e⟩ := List.getElem?_of_mem h
  rw [rpG_get] at e
  cases a1 : ks[i]? with
  | none => rw [a1] at e; cases e
  | some k1 =>
    cases a2 : ls[i]? with
    | none => rw [a1, a2] at e; cases e
    | some n1 =>
      rw [a1, a2] at e
      have e : (if k1 = k then m else n1) = n := Option.some.inj e
      by_cases q : k1 = k
      · rw [if_pos q] at e
        exact .inl e.symm
      · rw [if_neg q] at e
        exact .inr (by rw [← e]; exact List.mem_of_getElem? a2)
/-! ### what the law knows -/
structure NLoc where
  w : Nat
  g : Nat
  b : Nat
  p : Nat
  ls : List Nat
def NLoc.fp (N : NLoc) : List Nat := N.w :: N.g :: N.b :: N.p :: N.ls
abbrev NK : List Key := [.inr "at", .inr "count", .inr "heard", .inr "answer", .inr "sent", .inr "letters", .inr "boxes", .inr "places"]
abbrev nowV (N : NLoc) (coming : List Int) (a c h : Nat) (r : Option Int) : List DV := [.int a, .int c, .int h, optI r, .loc N.g, .lst .own (coming.map .int), .loc N.b, .loc N.p]
def pks (st : PSt) : List Key := st.ck ++ st.sk
def pvs (st : PSt) : List (List Int) := st.cv.map (fun v => [v]) ++ st.sv
structure Now (S : Sto) (N : NLoc) (coming : List Int) (st : PSt) : Prop where
  w : S[N.w]? = some (.dik NK (nowV N coming st.at_ st.done st.hears st.res))
  g : S[N.g]? = some (.lst (st.gone.map .int))
  b : S[N.b]? = some (.dik st.hk (st.hv.map .int))
  p : S[N.p]? = some (.dik (pks st) (N.ls.map .loc))
  v : PV S N.ls (pvs st)
  sl : (pks st).length = N.ls.length
  ck : st.ck.length = st.cv.length
  sk : st.sk.length = st.sv.length
  kn : (pks st).Nodup
  nd : N.fp.Nodup
section
variable {S S' S0 : Sto} {N : NLoc} {coming : List Int} {st : PSt} {ρ : List (Option DV)}
theorem Now.ext (A : Now S N coming st) (e : ∀ i, i ∈ N.fp → S'[i]? = S[i]?) : Now S' N coming st := by
  refine ⟨?_, ?_, ?_, ?_, A.v.ext fun n h => e n (by simp [NLoc.fp, h]), A.sl, A.ck, A.sk, A.kn, A.nd⟩
  · rw [e _ (by simp [NLoc.fp])]; exact A.w
  · rw [e _ (by simp [NLoc.fp])]; exact A.g
  · rw [e _ (by simp [NLoc.fp])]; exact A.b
  · rw [e _ (by simp [NLoc.fp])]; exact A.p
theorem Now.lt (A : Now S N coming st) : ∀ i ∈ N.fp, i < S.length := fun i h => by
  simp only [NLoc.fp, List.mem_cons] at h
  rcases h with rfl | rfl | rfl | rfl | h
  · exact get_lt A.w
  · exact get_lt A.g
  · exact get_lt A.b
  · exact get_lt A.p
  · obtain ⟨j, hj⟩ := List.getElem?_of_mem h
    have hlt := (List.getElem?_eq_some_iff.mp hj).1
    have hl : (pvs st).length = N.ls.length := by
      rw [← A.sl]
      simp [pvs, pks, A.ck, A.sk]
    obtain ⟨n, h1, h2⟩ := A.v j _ (List.getElem?_eq_getElem (by omega))
    rw [hj] at h1
    cases h1
    exact get_lt h2
theorem Now.app {T : Sto} (A : Now S N coming st) : Now (S ++ T) N coming st := A.ext fun i h => List.getElem?_append_left (A.lt i h)
theorem Now.setW (A : Now S N coming st) (a c h : Nat) (r : Option Int) : Now (S.set N.w (.dik NK (nowV N coming a c h r))) N coming { st with at_ := a, done := c, hears := h, res := r } := by
  have nd := A.nd
  simp only [NLoc.fp, List.nodup_cons, List.mem_cons, not_or] at nd
  obtain ⟨⟨n1, n2, n3, n4⟩, _⟩ := nd
  refine ⟨List.getElem?_set_self (get_lt A.w), ?_, ?_, ?_, PV.ext (show PV S N.ls (pvs st) from A.v) fun n hn => List.getElem?_set_ne fun q => n4 (by rw [q]; exact hn), A.sl, A.ck, A.sk, A.kn, A.nd⟩
  · rw [List.getElem?_set_ne n1]; exact A.g
  · rw [List.getElem?_set_ne n2]; exact A.b
  · rw [List.getElem?_set_ne n3]; exact A.p
theorem Now.setB (A : Now S N coming st) (ks : List Key) (vs : List Int) : Now (S.set N.b (.dik ks (vs.map .int))) N coming { st with hk := ks, hv := vs } := by
  have nd := A.nd
  simp only [NLoc.fp, List.nodup_cons, List.mem_cons, not_or] at nd
  obtain ⟨⟨n1, n2, n3, n4⟩, ⟨g1, g2, g3⟩, ⟨b1, b2⟩, _⟩ := nd
  refine ⟨?_, ?_, List.getElem?_set_self (get_lt A.b), ?_, PV.ext (show PV S N.ls (pvs st) from A.v) fun n hn => List.getElem?_set_ne fun q => b2 (by rw [q]; exact hn), A.sl, A.ck, A.sk, A.kn, A.nd⟩
  · rw [List.getElem?_set_ne (Ne.symm n2)]; exact A.w
  · rw [List.getElem?_set_ne (Ne.symm g1)]; exact A.g
  · rw [List.getElem?_set_ne b1]; exact A.p
theorem Now.setG (A : Now S N coming st) (vs : List Int) : Now (S.set N.g (.lst (vs.map .int))) N coming { st with gone := vs } := by
  have nd := A.nd
  simp only [NLoc.fp, List.nodup_cons, List.mem_cons, not_or] at nd
  obtain ⟨⟨n1, n2, n3, n4⟩, ⟨g1, g2, g3⟩, ⟨b1, b2⟩, _⟩ := nd
  refine ⟨?_, List.getElem?_set_self (get_lt A.g), ?_, ?_, PV.ext (show PV S N.ls (pvs st) from A.v) fun n hn => List.getElem?_set_ne fun q => g3 (by rw [q]; exact hn), A.sl, A.ck, A.sk, A.kn, A.nd⟩
  · rw [List.getElem?_set_ne (Ne.symm n1)]; exact A.w
  · rw [List.getElem?_set_ne g1]; exact A.b
  · rw [List.getElem?_set_ne g2]; exact A.p
theorem Now.ne (A : Now S N coming st) : N.ls.Nodup ∧ ∀ n ∈ N.ls, n ∈ N.fp ∧ n ≠ N.w ∧ n ≠ N.g ∧ n ≠ N.b ∧ n ≠ N.p := by
  have nd := A.nd
  simp only [NLoc.fp, List.nodup_cons, List.mem_cons, not_or] at nd
  obtain ⟨⟨n1, n2, n3, n4⟩, ⟨g1, g2, g3⟩, ⟨b1, b2⟩, p1, ns⟩ := nd
  exact ⟨ns, fun n h => ⟨by simp [NLoc.fp, h], fun q => n4 (q ▸ h), fun q => g3 (q ▸ h), fun q => b2 (q ▸ h), fun q => p1 (q ▸ h)⟩⟩
/-- the keys of cells are none of shelves -/
theorem Now.cs (A : Now S N coming st) {k : Key} (h : hasK st.ck k = true) : hasK st.sk k = false := by
  have := List.nodup_append.mp A.kn
  cases q : hasK st.sk k with
  | false => rfl
  | true => exact absurd rfl (this.2.2 k (hasK_iff.mp h) k (hasK_iff.mp q))
theorem Now.sc (A : Now S N coming st) {k : Key} (h : hasK st.sk k = true) : hasK st.ck k = false := by
  cases q : hasK st.ck k with
  | false => rfl
  | true => rw [A.cs q] at h; cases h
theorem Now.cellV (A : Now S N coming st) (O : st.Ok) {c : Str} (h : hasK st.ck (.inr c) = true) : lkG (pks st) (pvs st) (.inr c) = some [st.cell c] := by
  unfold pks pvs
  rw [lk_app (by rw [List.length_map]; exact A.ck), lk_map, (O.cell h).1]
  rfl
theorem Now.shelfV (A : Now S N coming st) (O : st.Ok) {s : Str} (h : hasK st.sk (.inr s) = true) : lkG (pks st) (pvs st) (.inr s) = some (st.shelf s) := by
  unfold pks pvs
  rw [lk_app (by rw [List.length_map]; exact A.ck), lk_none (A.sc h)]
  exact (O.shelf h).1
/-- a place's list -/
theorem Now.place (A : Now S N coming st) {x : Str} {l : List Int} (h : lkG (pks st) (pvs st) (.inr x) = some l) : ∃ n : Nat, n ∈ N.ls ∧ pIx (.loc N.p) (.str x) S = some (.loc n, S) ∧ S[n]? = some (.lst (l.map .int)) := by
  obtain ⟨n, h1, h2, h3, _⟩ := A.v.at A.kn A.ne.1 h
  exact ⟨n, h1, ix_dik A.p (by rw [lkD_map, h2] <;> rfl), h3⟩
/-- laid -/
theorem Now.lay (A : Now S N coming st) (O : st.Ok) {s : Str} (h : hasK st.sk (.inr s) = true) : ∃ n : Nat, n ∈ N.ls ∧ pIx (.loc N.p) (.str s) S = some (.loc n, S) ∧ S[n]? = some (.lst ((st.shelf s).map .int)) ∧ ∀ l', Now (S.set n (.lst (l'.map .int))) N coming { st with sv := rpG (.inr s) l' st.sk st.sv } := by
  obtain ⟨n, h1, h2, h3, h4⟩ := A.v.at A.kn A.ne.1 (A.shelfV O h)
  obtain ⟨m1, m2, m3, m4, m5⟩ := A.ne.2 n h1
  refine ⟨n, h1, ix_dik A.p (by rw [lkD_map, h2] <;> rfl), h3, fun l' => ⟨?_, ?_, ?_, ?_, ?_, A.sl, A.ck, ?_, A.kn, A.nd⟩⟩
  · rw [List.getElem?_set_ne m2]; exact A.w
  · rw [List.getElem?_set_ne m3]; exact A.g
  · rw [List.getElem?_set_ne m4]; exact A.b
  · rw [List.getElem?_set_ne m5]; exact A.p
  · have h5 := h4 l'
    unfold pks pvs at h5
    rw [rp_app (by rw [List.length_map]; exact A.ck), rp_none (A.sc h) (by rw [List.length_map]; exact A.ck)] at h5
    exact h5
  · show st.sk.length = (rpG (Sum.inr s : Key) l' st.sk st.sv).length
    rw [rp_len A.sk]
/-- stored -/
theorem Now.store (A : Now S N coming st) {c : Str} (h : hasK st.ck (.inr c) = true) (v : Int) :
    Now ((S ++ [Cell.lst [DV.int v]]).set N.p (Cell.dik (pks st) ((rpG (Sum.inr c : Key) S.length (pks st) N.ls).map .loc))) { N with ls := rpG (Sum.inr c : Key) S.length (pks st) N.ls } coming { st with cv := rpG (Sum.inr c : Key) v st.ck st.cv } := by
  have nd := A.nd
  simp only [NLoc.fp, List.nodup_cons, List.mem_cons, not_or] at nd
  obtain ⟨⟨n1, n2, n3, n4⟩, ⟨g1, g2, g3⟩, ⟨b1, b2⟩, p1, ns⟩ := nd
  have lw := get_lt A.w
  have lg := get_lt A.g
  have lb := get_lt A.b
  have lp := get_lt A.p
  have ll : ∀ n ∈ N.ls, n < S.length := fun n h => A.lt n (A.ne.2 n h).1
  have nm : S.length ∉ N.ls := fun h => by have := ll _ h; omega
  have rs : ∀ n ∈ rpG (Sum.inr c : Key) S.length (pks st) N.ls, n = S.length ∨ n ∈ N.ls := rp_sub
  refine ⟨?_, ?_, ?_, ?_, ?_, ?_, ?_, A.sk, A.kn, ?_⟩
  · show ((S ++ _).set N.p _)[N.w]? = _
    rw [List.getElem?_set_ne (Ne.symm n3), List.getElem?_append_left lw]; exact A.w
  · show ((S ++ _).set N.p _)[N.g]? = _
    rw [List.getElem?_set_ne (Ne.symm g2), List.getElem?_append_left lg]; exact A.g
  · show ((S ++ _).set N.p _)[N.b]? = _
    rw [List.getElem?_set_ne (Ne.symm b1), List.getElem?_append_left lb]; exact A.b
  · show ((S ++ _).set N.p _)[N.p]? = _
    exact List.getElem?_set_self (by rw [List.length_append]; omega)
  · have h5 := A.v.new (S' := (S ++ [Cell.lst [DV.int v]]).set N.p (Cell.dik (pks st) ((rpG (Sum.inr c : Key) S.length (pks st) N.ls).map .loc))) A.sl (k := (Sum.inr c : Key)) (m := S.length) (l' := [v]) (by
      rw [List.getElem?_set_ne (by intro q; omega)]
      exact get_len _ _) fun n hn => by
        rw [List.getElem?_set_ne fun q => p1 (by rw [q]; exact hn), List.getElem?_append_left (ll n hn)]
    have e : rpG (Sum.inr c : Key) [v] (pks st) (pvs st) = (rpG (Sum.inr c : Key) v st.ck st.cv).map (fun v => [v]) ++ st.sv := by
      unfold pks pvs
      rw [rp_app (by rw [List.length_map]; exact A.ck), rp_none (A.cs h) A.sk, show rpG (Sum.inr c : Key) [v] st.ck (st.cv.map fun v => [v]) = _ from rp_map (f := fun v : Int => [v])]
    rw [e] at h5
    exact h5
  · show (pks st).length = (rpG (Sum.inr c : Key) S.length (pks st) N.ls).length
    rw [rp_len A.sl]
  · show st.ck.length = (rpG (Sum.inr c : Key) v st.ck st.cv).length
    rw [rp_len A.ck]
  · show (N.w :: N.g :: N.b :: N.p :: rpG (Sum.inr c : Key) S.length (pks st) N.ls).Nodup
    simp only [List.nodup_cons, List.mem_cons, not_or]
    refine ⟨⟨n1, n2, n3, fun q => ?_⟩, ⟨g1, g2, fun q => ?_⟩, ⟨b1, fun q => ?_⟩, fun q => ?_, rp_nodup A.kn ns nm⟩
    · rcases rs _ q with e | e
      · omega
      · exact n4 e
    · rcases rs _ q with e | e
      · omega
      · exact g3 e
    · rcases rs _ q with e | e
      · omega
      · exact b2 e
    · rcases rs _ q with e | e
      · omega
      · exact p1 e
end
end Lk24

namespace Lk24
open PySem PySem.Spec PyProof.Rows L2 Dn
section
variable {S S' S0 : Sto} {N : NLoc} {coming : List Int} {st : PSt} {ρ : List (Option DV)}
theorem n_at (A : Now S N coming st) : pIx (.loc N.w) (.str "at") S = some (.int st.at_, S) := ix_dik A.w rfl
theorem n_cnt (A : Now S N coming st) : pIx (.loc N.w) (.str "count") S = some (.int st.done, S) := ix_dik A.w rfl
theorem n_h (A : Now S N coming st) : pIx (.loc N.w) (.str "heard") S = some (.int st.hears, S) := ix_dik A.w rfl
theorem n_ans (A : Now S N coming st) : pIx (.loc N.w) (.str "answer") S = some (optI st.res, S) := ix_dik A.w rfl
theorem n_s (A : Now S N coming st) : pIx (.loc N.w) (.str "sent") S = some (.loc N.g, S) := ix_dik A.w rfl
theorem n_l (A : Now S N coming st) : pIx (.loc N.w) (.str "letters") S = some (.lst .own (coming.map .int), S) := ix_dik A.w rfl
theorem n_b (A : Now S N coming st) : pIx (.loc N.w) (.str "boxes") S = some (.loc N.b, S) := ix_dik A.w rfl
theorem n_p (A : Now S N coming st) : pIx (.loc N.w) (.str "places") S = some (.loc N.p, S) := ix_dik A.w rfl
theorem now_get (A : Now S N coming st) {e o : DE} {x : Str} (ho : o ρ S = some (.loc N.b, S)) (he : e ρ S = some (.str x, S)) : dGet2 o e (dC (.int 0)) ρ S = some (.int (st.worth (.x x)), S) := by
  rw [get2_at ho (isD_dik A.b) he rfl (getD_dik A.b), lkD_map]
  show _ = some (DV.int ((lkG st.hk st.hv (Sum.inr x : Key)).getD 0), S)
  cases lkG st.hk st.hv (Sum.inr x : Key) <;> rfl
theorem lworth_eq (A : Now S N coming st) (a : Atm) : F_law_worth [a.d, .loc N.w] S = some (.int (st.worth a), S) := by
  cases a with
  | n i => simp [F_law_worth, b_law_worth, runF, Atm.d, isT, PSt.worth]
  | x s =>
    have h1 := n_b A
    have h := now_get A (o := dBin pIx (dVar 1) (dC (.str "boxes"))) (e := dVar 0) (x := s) (ρ := [some (.str s), some (.loc N.w)]) (by simp [h1]) rfl
    simp [F_law_worth, b_law_worth, runF, Atm.d, isT, h]
theorem lworth_c (A : Now S N coming st) {a : Atm} {e o : DE} (he : e ρ S = some (a.d, S)) (ho : o ρ S = some (.loc N.w, S)) : dPrim (cS F_law_worth []) (aCons e (aCons o aNil)) ρ S = some (.int (st.worth a), S) := by
  have h := lworth_eq A a
  simp [cS, he, ho, h]
/-- the rows that bring something into a box -/
def brings : PRow → Option Str
  | .copy x _ => some x
  | .op x _ _ _ => some x
  | .load x _ => some x
  | .take x _ _ => some x
  | .hear x => some x
  | _ => none
def broughtV (coming : List Int) (st : PSt) : PRow → Int
  | .copy x a => st.worth a
  | .op x s a b => valS s (st.worth a) (st.worth b)
  | .load x c => st.cell c
  | .take x s a => (st.shelf s).getD (placeN (st.shelf s) (st.worth a)) 0
  | .hear x => coming.getD st.hears 0
  | _ => 0
def heardN (st : PSt) : PRow → Nat
  | .hear _ => st.hears + 1
  | _ => st.hears
def FrN (N : NLoc) (S S1 : Sto) : Prop := S.length ≤ S1.length ∧ ∀ i, i < S.length → i ∉ N.fp → S1[i]? = S[i]?
theorem FrN.set {N : NLoc} {S : Sto} {n : Nat} {c : Cell} (h : n ∈ N.fp) : FrN N S (S.set n c) := ⟨Nat.le_of_eq List.length_set.symm, fun i _ hi => List.getElem?_set_ne fun q => hi (by rw [← q]; exact h)⟩
theorem FrN.refl {N : NLoc} {S : Sto} : FrN N S S := ⟨Nat.le_refl _, fun _ _ _ => rfl⟩
theorem FrN.trans {N : NLoc} {S S1 S2 : Sto} (a : FrN N S S1) (b : FrN N S1 S2) : FrN N S S2 := ⟨Nat.le_trans a.1 b.1, fun i h h2 => (b.2 i (Nat.lt_of_lt_of_le h a.1) h2).trans (a.2 i h h2)⟩
theorem brought_ok (A : Now S N coming st) (O : st.Ok) {r : PRow} {x : Str} (hb : brings r = some x) (hr : r.Ok st.ck st.sk) (hh : st.hears < coming.length + 90) (hcl : coming.length < 1000) :
    ∃ S2, F_law_brought [r.d, .loc N.w] S = some (.int (broughtV coming st r), S2) ∧ Now S2 N coming { st with hears := heardN st r } ∧ FrN N S S2 := by
  have np := n_p A
  have wq : ∀ a : Atm, cS F_law_worth [] [a.d, .loc N.w] S = some (.int (st.worth a), S) := fun a => lworth_eq A a
  cases r with
  | op x s a b =>
    refine ⟨S, ?_, A, FrN.refl⟩
    have h1 := wq a
    have h2 := wq b
    have h3 := lvalue_eq hr.1 (O.worth hr.2.1) (O.worth hr.2.2)
    unfold F_law_brought b_law_brought runF
    simp [PRow.d, h1, h2, h3, cpL_plain, broughtV]
  | load x c =>
    obtain ⟨n, n1, n2, n3⟩ := A.place (A.cellV O hr)
    have h1 : pIx (.loc n) (.int 0) S = some (.int (st.cell c), S) := ix_loc n3 rfl
    refine ⟨S, ?_, A, FrN.refl⟩
    unfold F_law_brought b_law_brought runF
    simp [PRow.d, np, n2, h1, broughtV]
  | take x s a =>
    have hl := wq a
    obtain ⟨_, ne, _, _⟩ := O.shelf hr.1
    obtain ⟨n, n1, n2, n3⟩ := A.place (A.shelfV O hr.1)
    have h4 := len_loc n3
    rw [List.length_map] at h4
    have h5 : ∀ {S : Sto}, pMod (.int (st.worth a)) (.int ((st.shelf s).length : Int)) S = some (.int (st.worth a % ((st.shelf s).length : Int)), S) := v_modI (by have := List.length_pos_iff.mpr ne; omega)
    have h6 := place_ix n3 ne (st.worth a)
    refine ⟨S, ?_, A, FrN.refl⟩
    unfold F_law_brought b_law_brought runF
    simp [PRow.d, np, n2, hl, h4, h5, h6, broughtV, -List.getD_eq_getElem?_getD]
  | hear x =>
    have nh := n_h A
    have A1 := A.setW st.at_ st.done (st.hears + 1) st.res
    have hput : setI (.loc N.w) (.str "heard") (.int ((st.hears : Int) + 1)) S = some (S.set N.w (.dik NK (nowV N coming st.at_ st.done (st.hears + 1) st.res))) := setI_dik A.w (by decide)
    have hs2 := sub_at (v := dBin pAdd (dBin pIx (dVar 1) (dC (.str "heard"))) (dC (.int 1))) (o := dVar 1) (g := dC (.str "heard")) (ρ := [some (PRow.hear x).d, some (.loc N.w), none]) (y := .int ((st.hears : Int) + 1)) (S := S) (S1 := S) (S2 := S) (S3 := S) (by simp [nh]) rfl rfl hput
    have nh1 := n_h A1
    have nl1 := n_l A1
    refine ⟨_, ?_, A1, FrN.set (by simp [NLoc.fp])⟩
    generalize S.set N.w (.dik NK (nowV N coming st.at_ st.done (st.hears + 1) st.res)) = S1 at hs2 nh1 nl1
    have nh1 : pIx (.loc N.w) (.str "heard") S1 = some (.int ((st.hears + 1 : Nat) : Int), S1) := nh1
    have m0 : pMul (.lst .own [.int 0]) (.int 90) S1 = some (.lst .own ((noughts 90).map .int), S1) := rfl
    have hz : coming.length + 90 ≤ 16777216 := by omega
    have ml : (noughts 90).length = 90 := rfl
    have hx : pIx (.lst .own (coming.map DV.int ++ (noughts 90).map .int)) (.int (st.hears : Int)) S1 = some (.int (coming.getD st.hears 0), S1) := by
      refine Dn.ix_seq (atD_nat ?_)
      by_cases q : st.hears < coming.length
      · rw [List.getElem?_append_left (by rw [List.length_map]; exact q), List.getElem?_map, List.getElem?_eq_getElem q, List.getD_eq_getElem?_getD, List.getElem?_eq_getElem q] <;> rfl
      · have q2 : coming[st.hears]? = none := List.getElem?_eq_none (by omega)
        rw [List.getElem?_append_right (by rw [List.length_map]; omega), List.length_map, List.getElem?_map, List.getD_eq_getElem?_getD, q2]
        unfold noughts
        rw [List.getElem?_replicate, if_pos (by omega)] <;> rfl
    simp only [PRow.d] at hs2
    have sb : ∀ z : Int, z + 1 - 1 = z := fun z => by omega
    unfold F_law_brought b_law_brought runF
    generalize noughts 90 = nq at m0 hx ml
    simp [PRow.d, hs2, nh1, nl1, m0, hz, hx, ml, sb, broughtV, -List.getD_eq_getElem?_getD]
  | copy x a =>
    have hl := wq a
    refine ⟨S, ?_, A, FrN.refl⟩
    unfold F_law_brought b_law_brought runF
    simp [PRow.d, hl, broughtV]
  | store => cases hb
  | lay => cases hb
  | say => cases hb
  | ifr => cases hb
  | go => cases hb
  | endr => cases hb
end
end Lk24

namespace Lk24
open PySem PySem.Spec PyProof.Rows L2 Dn
section
variable {S S' S0 : Sto} {N : NLoc} {coming : List Int} {st : PSt} {ρ : List (Option DV)}
/-- a row done by the law -/
def stepOf (coming : List Int) (st : PSt) (r : PRow) : PSt := { st.does coming r with done := st.done + 1, at_ := st.next r }
theorem putB (A : Now S N coming st) (x : Str) {v : Int} {ρ : List (Option DV)} {S0 : Sto} {i e : DE} (he : e ρ S0 = some (.int v, S)) (h1 : dVar 1 ρ S = some (.loc N.w, S)) (hi : i ρ S = some (.str x, S)) (hz : st.hk.length < 1000000) :
    dSub e (dBin pIx (dVar 1) (dC (.str "boxes"))) i ρ S0 = some (.nx ρ (S.set N.b (.dik (putKs st.hk (.inr x)) ((putG st.hk st.hv (.inr x) v).map .int)))) := by
  have h2 := n_b A
  have h5 : setI (.loc N.b) (.str x) (.int v) S = _ := setI_dik A.b (by omega)
  rw [putVs_map] at h5
  exact sub_at he (by simp only [v_bin, h1, v_c, h2] <;> rfl) hi h5
theorem done_ok (A : Now S N coming st) (O : st.Ok) {r : PRow} (hr : r.Ok st.ck st.sk) (hd : st.done < 100000) (hck : (pks st).length < 1000) (hh : st.hears < coming.length + 90) (hcl : coming.length < 1000) (hg : st.gone.length < 100000) :
    ∃ S2 N2, F_law_done [r.d, .loc N.w] S = some (.non, S2) ∧ Now S2 N2 coming (stepOf coming st r) ∧ FrN N S S2 ∧ N2.w = N.w ∧ ∀ i ∈ N2.fp, i ∈ N.fp ∨ S.length ≤ i := by
  have hk := O.hd
  have nc := n_cnt A
  -- the count
  have A1 := A.setW st.at_ (st.done + 1) st.hears st.res
  have f1 : FrN N S (S.set N.w (.dik NK (nowV N coming st.at_ (st.done + 1) st.hears st.res))) := FrN.set (by simp [NLoc.fp])
  have p1 : setI (.loc N.w) (.str "count") (.int ((st.done : Int) + 1)) S = some (S.set N.w (.dik NK (nowV N coming st.at_ (st.done + 1) st.hears st.res))) := setI_dik A.w (by decide)
  have s1 := sub_at (v := dBin pAdd (dBin pIx (dVar 1) (dC (.str "count"))) (dC (.int 1))) (o := dVar 1) (g := dC (.str "count")) (ρ := [some r.d, some (.loc N.w), none]) (y := .int ((st.done : Int) + 1)) (S := S) (S1 := S) (S2 := S) (S3 := S) (by simp [nc]) rfl rfl p1
  generalize S.set N.w (.dik NK (nowV N coming st.at_ (st.done + 1) st.hears st.res)) = S1 at A1 f1 s1
  have O1 : ({ st with done := st.done + 1 } : PSt).Ok := ⟨O.hl, O.hr, O.cl, O.cr, O.sl, O.sr, Nat.le_succ_of_le O.hd, Nat.le_succ_of_le O.gd⟩
  have wq1 : ∀ a : Atm, cS F_law_worth [] [a.d, .loc N.w] S1 = some (.int (st.worth a), S1) := fun a => lworth_eq A1 a
  -- the row
  have na := n_at A1
  have A2 := A1.setW (st.at_ + 1) (st.done + 1) st.hears st.res
  have f2 : FrN N S1 (S1.set N.w (.dik NK (nowV N coming (st.at_ + 1) (st.done + 1) st.hears st.res))) := FrN.set (by simp [NLoc.fp])
  have p2 : setI (.loc N.w) (.str "at") (.int ((st.at_ : Int) + 1)) S1 = some (S1.set N.w (.dik NK (nowV N coming (st.at_ + 1) (st.done + 1) st.hears st.res))) := setI_dik A1.w (by decide)
  have s2 := sub_at (v := dBin pAdd (dBin pIx (dVar 1) (dC (.str "at"))) (dC (.int 1))) (o := dVar 1) (g := dC (.str "at")) (ρ := [some r.d, some (.loc N.w), none]) (y := .int ((st.at_ : Int) + 1)) (S := S1) (S1 := S1) (S2 := S1) (S3 := S1) (by simp [na]) rfl rfl p2
  have fe : ∀ v : Int, ∃ S3, setI (.loc N.w) (.str "answer") (.int v) S1 = some S3 ∧ Now S3 N coming { st with done := st.done + 1, res := some v } ∧ FrN N S1 S3 := fun v =>
    ⟨_, setI_dik A1.w (by decide), A1.setW st.at_ (st.done + 1) st.hears (some v), FrN.set (by simp [NLoc.fp])⟩
  generalize S1.set N.w (.dik NK (nowV N coming (st.at_ + 1) (st.done + 1) st.hears st.res)) = S2 at A2 f2 s2
  have O2 : ({ st with done := st.done + 1, at_ := st.at_ + 1 } : PSt).Ok := ⟨O.hl, O.hr, O.cl, O.cr, O.sl, O.sr, Nat.le_succ_of_le O.hd, Nat.le_succ_of_le O.gd⟩
  have wq2 : ∀ a : Atm, cS F_law_worth [] [a.d, .loc N.w] S2 = some (.int (st.worth a), S2) := fun a => lworth_eq A2 a
  have wc2 : ∀ (a : Atm) {ρ : List (Option DV)} {e o : DE}, e ρ S2 = some (a.d, S2) → o ρ S2 = some (.loc N.w, S2) → dPrim (cS F_law_worth []) (aCons e (aCons o aNil)) ρ S2 = some (.int (st.worth a), S2) := fun a {ρ e o} h1 h2 => lworth_c A2 h1 h2
  have f02 := f1.trans f2
  -- where it goes
  have fa : ∀ n : Nat, ∃ S3, setI (.loc N.w) (.str "at") (.int (n : Int)) S2 = some S3 ∧ Now S3 N coming { st with done := st.done + 1, at_ := n } ∧ FrN N S2 S3 := fun n =>
    ⟨_, setI_dik A2.w (by decide), A2.setW n (st.done + 1) st.hears st.res, FrN.set (by simp [NLoc.fp])⟩
  have keep : ∀ i ∈ N.fp, i ∈ N.fp ∨ S.length ≤ i := fun i h => .inl h
  have neg2 : ∀ {a b : DV} {S : Sto}, pIx (.tup [a, b]) (.int (-1)) S = some (b, S) := fun {a b S} => rfl
  have neg3 : ∀ {a b c : DV} {S : Sto}, pIx (.tup [a, b, c]) (.int (-1)) S = some (c, S) := fun {a b c S} => rfl
  -- what is brought
  have bring : ∀ x, brings r = some x → pIx r.d (.int 1) = (fun S => some (.str x, S)) → ∃ S3, dSub (dPrim (cS F_law_brought []) (aCons (dVar 0) (aCons (dVar 1) aNil))) (dBin pIx (dVar 1) (dC (.str "boxes"))) (dBin pIx (dVar 0) (dC (.int 1))) [some r.d, some (.loc N.w), none] S2 = some (.nx [some r.d, some (.loc N.w), none] S3) ∧
      Now S3 N coming ({ st with done := st.done + 1, at_ := st.at_ + 1, hears := heardN st r, hk := putKs st.hk (.inr x), hv := putG st.hk st.hv (.inr x) (broughtV coming st r) }) ∧ FrN N S2 S3 := fun x hx hi => by
    obtain ⟨S3, e3, A3, f3⟩ := brought_ok A2 O2 hx hr hh hcl
    have hv : dPrim (cS F_law_brought []) (aCons (dVar 0) (aCons (dVar 1) aNil)) [some r.d, some (.loc N.w), none] S2 = some (.int (broughtV coming st r), S3) := by
      have e3 : F_law_brought [r.d, .loc N.w] S2 = some (.int (broughtV coming st r), S3) := by
        rw [e3]
        cases r <;> rfl
      simp [cS, e3]
    refine ⟨_, putB A3 x hv rfl (by simp [hi]) (by show st.hk.length < _; omega), ?_, f3.trans (FrN.set (by simp [NLoc.fp]))⟩
    have A4 := A3.setB (putKs st.hk (.inr x)) (putG st.hk st.hv (.inr x) (broughtV coming st r))
    cases r <;> first | exact A4 | cases hx
  cases r with
  | endr a =>
    have h1 := wq1 a
    obtain ⟨S3, e3, A3, f3⟩ := fe (st.worth a)
    have s3 := sub_at (v := dPrim (cS F_law_worth []) (aCons (dBin pIx (dVar 0) (dC (.int 1))) (aCons (dVar 1) aNil))) (o := dVar 1) (g := dC (.str "answer")) (ρ := [some (PRow.endr a).d, some (.loc N.w), none]) (S := S1) (S1 := S1) (S2 := S1) (S3 := S1) (y := .int (st.worth a)) (by simp [PRow.d, h1]) rfl rfl e3
    refine ⟨S3, N, ?_, A3, f1.trans f3, rfl, keep⟩
    simp only [PRow.d] at s1 s3
    unfold F_law_done b_law_done runF
    simp [PRow.d, s1, s3]
  | go n =>
    obtain ⟨S3, e3, A3, f3⟩ := fa n
    have s3 := sub_at (v := dBin pIx (dVar 0) (dUn pNeg (dC (.int 1)))) (o := dVar 1) (g := dC (.str "at")) (ρ := [some (PRow.go n).d, some (.loc N.w), none]) (S := S2) (S1 := S2) (S2 := S2) (S3 := S2) (y := .int (n : Int)) (by simp [PRow.d, neg2]) rfl rfl e3
    refine ⟨S3, N, ?_, A3, f02.trans f3, rfl, keep⟩
    simp only [PRow.d] at s1 s2 s3
    unfold F_law_done b_law_done runF
    simp [PRow.d, s1, s2, s3]
  | ifr a n =>
    have h1 := wq2 a
    simp only [PRow.d] at s1 s2
    by_cases q : st.worth a = 0
    · refine ⟨S2, N, ?_, ?_, f02, rfl, keep⟩
      · unfold F_law_done b_law_done runF
        simp [PRow.d, s1, s2, h1, q]
      · have e : st.next (.ifr a n) = st.at_ + 1 := if_pos q
        unfold stepOf
        rw [e]
        exact A2
    · obtain ⟨S3, e3, A3, f3⟩ := fa n
      have s3 := sub_at (v := dBin pIx (dVar 0) (dUn pNeg (dC (.int 1)))) (o := dVar 1) (g := dC (.str "at")) (ρ := [some (PRow.ifr a n).d, some (.loc N.w), none]) (S := S2) (S1 := S2) (S2 := S2) (S3 := S2) (y := .int (n : Int)) (by simp [PRow.d, neg3]) rfl rfl e3
      simp only [PRow.d] at s3
      refine ⟨S3, N, ?_, ?_, f02.trans f3, rfl, keep⟩
      · unfold F_law_done b_law_done runF
        simp [PRow.d, s1, s2, s3, h1, q]
      · have e : st.next (.ifr a n) = n := if_neg q
        unfold stepOf
        rw [e]
        exact A3
  | store c a =>
    have h1 := wc2 a (ρ := [some (PRow.store c a).d, some (.loc N.w), none]) (e := dBin pIx (dVar 0) (dC (.int 2))) (o := dVar 1) (by simp [PRow.d]) rfl
    have A3 := A2.store hr.1 (st.worth a)
    have A2' := A2.app (T := [.lst [.int (st.worth a)]])
    have np := n_p A2'
    have hkk : hasK (pks st) (Sum.inr c : Key) = true := by
      unfold pks
      rw [hasK_app, hr.1] <;> rfl
    have e3 : setI (.loc N.p) (.str c) (.loc S2.length) (S2 ++ [.lst [.int (st.worth a)]]) = _ := setI_dik A2'.p (by show (pks st).length < _; omega)
    rw [putKs_has (by exact hkk), putVs_map, putG_has (by exact hkk)] at e3
    have hv : dPrim pLstM (aCons (dPrim (cS F_law_worth []) (aCons (dBin pIx (dVar 0) (dC (.int 2))) (aCons (dVar 1) aNil))) aNil) [some (PRow.store c a).d, some (.loc N.w), none] S2 = some (.loc S2.length, S2 ++ [.lst [.int (st.worth a)]]) := by
      rw [v_prim, v_cons, h1]
      rfl
    have s3 := sub_at (o := dBin pIx (dVar 1) (dC (.str "places"))) (g := dBin pIx (dVar 0) (dC (.int 1))) hv (by simp [np] <;> rfl) (by simp [PRow.d] <;> rfl) e3
    refine ⟨_, _, ?_, A3, f02.trans ⟨?_, fun i hi hf => ?_⟩, rfl, fun i hi => ?_⟩
    · simp only [PRow.d] at s1 s2 s3
      unfold F_law_done b_law_done runF
      simp [PRow.d, s1, s2, s3]
    · rw [List.length_set, List.length_append]
      omega
    · rw [List.getElem?_set_ne fun q => hf (by rw [← q]; simp [NLoc.fp]), List.getElem?_append_left hi]
    · have hi : i ∈ N.w :: N.g :: N.b :: N.p :: rpG (Sum.inr c : Key) S2.length (pks st) N.ls := hi
      simp only [List.mem_cons] at hi
      rcases hi with rfl | rfl | rfl | rfl | hi
      · exact .inl (by simp [NLoc.fp])
      · exact .inl (by simp [NLoc.fp])
      · exact .inl (by simp [NLoc.fp])
      · exact .inl (by simp [NLoc.fp])
      · rcases rp_sub i hi with e | e
        · exact .inr (by rw [e]; exact f02.1)
        · exact .inl (by simp [NLoc.fp, e])
  | lay s a b =>
    obtain ⟨_, ne, _, _⟩ := O.shelf hr.1
    obtain ⟨n, n1, n2, n3, n4⟩ := A2.lay O2 hr.1
    have n2 : pIx (.loc N.p) (.str s) S2 = some (.loc n, S2) := n2
    have n3 : S2[n]? = some (.lst ((st.shelf s).map .int)) := n3
    have np := n_p A2
    have h3 := wc2 a (ρ := [some (PRow.lay s a b).d, some (.loc N.w), some (.loc n)]) (e := dBin pIx (dVar 0) (dC (.int 2))) (o := dVar 1) (by simp [PRow.d]) rfl
    have h3b := wc2 b (ρ := [some (PRow.lay s a b).d, some (.loc N.w), some (.loc n)]) (e := dBin pIx (dVar 0) (dC (.int 3))) (o := dVar 1) (by simp [PRow.d]) rfl
    have h4 := len_loc n3
    rw [List.length_map] at h4
    have h5 : ∀ {S : Sto}, pMod (.int (st.worth a)) (.int ((st.shelf s).length : Int)) S = some (.int (st.worth a % ((st.shelf s).length : Int)), S) := v_modI (by have := List.length_pos_iff.mpr ne; omega)
    have h6 : setI (.loc n) (.int (st.worth a % ((st.shelf s).length : Int))) (.int (st.worth b)) S2 = _ := setI_lst n3 (place_n ne _)
    rw [← List.map_set] at h6
    have h7 := sub_at (o := dVar 2) (g := dBin pMod (dPrim (cS F_law_worth []) (aCons (dBin pIx (dVar 0) (dC (.int 2))) (aCons (dVar 1) aNil))) (dPrim pLen (aCons (dVar 2) aNil))) h3b rfl (by rw [v_bin, h3]; simp [h4, h5] <;> rfl) h6
    refine ⟨_, N, ?_, n4 ((st.shelf s).set (placeN (st.shelf s) (st.worth a)) (st.worth b)), f02.trans (FrN.set (A2.ne.2 n n1).1), rfl, keep⟩
    simp only [PRow.d] at s1 s2 h7
    unfold F_law_done b_law_done runF
    simp [PRow.d, s1, s2, np, n2, h7]
  | say a =>
    have h1 := wq2 a
    have ns := n_s A2
    have ap := app_loc (y := .int (st.worth a)) A2.g (by rw [List.length_map]; show st.gone.length < _; omega)
    rw [show (List.map DV.int ({ st with done := st.done + 1, at_ := st.at_ + 1 } : PSt).gone ++ [DV.int (st.worth a)]) = (st.gone ++ [st.worth a]).map DV.int by simp] at ap
    have as := asL_loc A2.g
    refine ⟨_, N, ?_, A2.setG (st.gone ++ [st.worth a]), f02.trans (FrN.set (by simp [NLoc.fp])), rfl, keep⟩
    simp only [PRow.d] at s1 s2
    unfold F_law_done b_law_done runF
    simp only [List.map_append, List.map_cons, List.map_nil] at ap ⊢
    simp [PRow.d, s1, s2, h1, ns, as, ap]
  | copy x a =>
    obtain ⟨S3, e3, A3, f3⟩ := bring x rfl rfl
    refine ⟨S3, N, ?_, A3, f02.trans f3, rfl, keep⟩
    simp only [PRow.d] at s1 s2 e3
    unfold F_law_done b_law_done runF
    simp [PRow.d, s1, s2, e3, -v_prim]
  | op x s a b =>
    obtain ⟨S3, e3, A3, f3⟩ := bring x rfl rfl
    refine ⟨S3, N, ?_, A3, f02.trans f3, rfl, keep⟩
    simp only [PRow.d] at s1 s2 e3
    unfold F_law_done b_law_done runF
    simp [PRow.d, s1, s2, e3, -v_prim]
  | load x c =>
    obtain ⟨S3, e3, A3, f3⟩ := bring x rfl rfl
    refine ⟨S3, N, ?_, A3, f02.trans f3, rfl, keep⟩
    simp only [PRow.d] at s1 s2 e3
    unfold F_law_done b_law_done runF
    simp [PRow.d, s1, s2, e3, -v_prim]
  | take x s a =>
    obtain ⟨S3, e3, A3, f3⟩ := bring x rfl rfl
    refine ⟨S3, N, ?_, A3, f02.trans f3, rfl, keep⟩
    simp only [PRow.d] at s1 s2 e3
    unfold F_law_done b_law_done runF
    simp [PRow.d, s1, s2, e3, -v_prim]
  | hear x =>
    obtain ⟨S3, e3, A3, f3⟩ := bring x rfl rfl
    refine ⟨S3, N, ?_, A3, f02.trans f3, rfl, keep⟩
    simp only [PRow.d] at s1 s2 e3
    unfold F_law_done b_law_done runF
    simp [PRow.d, s1, s2, e3, -v_prim]
end
end Lk24

namespace Lk24
open PySem PySem.Spec PyProof.Rows L2 Dn
/-! ### begun -/
abbrev bG : DG := gTupD 3 (gsCons (gSet 3) (gsCons (gSet 4) (gsCons (gSet 5) gsNil)))
abbrev bB : DS := dSub (dPrim pLstM (aCons (dVar 4) aNil)) (dBin pIx (dVar 2) (dC (.str "places"))) (dVar 3)
theorem loop_bc {w n : Nat} {p l x6 : Option DV} {ds : List DV} (hl : lkD NK ds (.inr "places") = some (.loc n)) (hon : w ≠ n) : ∀ (cs : List (Str × Int × Bool)) (S : Sto) (ks : List Key) (ss : List Nat) (x3 x4 x5 : Option DV), (∀ c ∈ cs, hasK ks (.inr c.1) = false) → (cs.map (·.1)).Nodup → ks.length + cs.length < 1000 →
    S[w]? = some (.dik NK ds) → S[n]? = some (.dik ks (ss.map .loc)) →
    ∃ y3 y4 y5, forL bG bB (cs.map cellD) [p, l, some (.loc w), x3, x4, x5, x6] S = some (.nx [p, l, some (.loc w), y3, y4, y5, x6] (S.set n (.dik (ks ++ cs.map fun c => .inr c.1) ((ss ++ List.range' S.length cs.length).map .loc)) ++ cs.map fun c => .lst [.int c.2.1]))
  | [], S, ks, ss, x3, x4, x5, _, _, _, _, hn => ⟨x3, x4, x5, by
    have e : S.set n (.dik ks (ss.map .loc)) = S := by
      obtain ⟨h1, h2⟩ := List.getElem?_eq_some_iff.mp hn
      rw [← h2, List.set_getElem_self]
    simp [e, forL]⟩
  | (nm, v, t) :: cs, S, ks, ss, x3, x4, x5, hk, hnd, hz, hw, hn => by
    have hk0 : hasK ks (Sum.inr nm : Key) = false := hk _ List.mem_cons_self
    rw [List.map_cons, List.nodup_cons] at hnd
    rw [List.length_cons] at hz
    have hg : bG (cellD (nm, v, t)) [p, l, some (.loc w), x3, x4, x5, x6] S = some ([p, l, some (.loc w), some (.str nm), some (.int v), some (.bl t), x6], S) := rfl
    have lt := get_lt hn
    have lt2 := get_lt hw
    have hn1 : (S ++ [Cell.lst [.int v]])[n]? = some (.dik ks (ss.map .loc)) := by
      rw [List.getElem?_append_left lt]
      exact hn
    have hw1 : (S ++ [Cell.lst [.int v]])[w]? = some (.dik NK ds) := by
      rw [List.getElem?_append_left lt2]
      exact hw
    have hs : setI (.loc n) (.str nm) (.loc S.length) (S ++ [Cell.lst [.int v]]) = _ := setI_dik hn1 (by omega)
    unfold putKs putVs at hs
    rw [hk0] at hs
    have hm : dPrim pLstM (aCons (dVar 4) aNil) [p, l, some (.loc w), some (.str nm), some (.int v), some (.bl t), x6] S = some (.loc S.length, S ++ [Cell.lst [.int v]]) := rfl
    have hi : pIx (.loc w) (.str "places") (S ++ [Cell.lst [.int v]]) = some (.loc n, S ++ [Cell.lst [.int v]]) := ix_dik hw1 hl
    have hb : bB [p, l, some (.loc w), some (.str nm), some (.int v), some (.bl t), x6] S = _ := sub_at hm (by simp [hi] <;> rfl) rfl hs
    have e1 : (S ++ [Cell.lst [.int v]]).set n (.dik (ks ++ [.inr nm]) ((ss ++ [S.length]).map .loc)) = S.set n (.dik (ks ++ [.inr nm]) ((ss ++ [S.length]).map .loc)) ++ [Cell.lst [.int v]] := List.set_append_left _ _ lt
    have hn2 : (S.set n (.dik (ks ++ [.inr nm]) ((ss ++ [S.length]).map .loc)) ++ [Cell.lst [.int v]])[n]? = some (.dik (ks ++ [.inr nm]) ((ss ++ [S.length]).map .loc)) := by
      rw [List.getElem?_append_left (by rw [List.length_set]; exact lt)]
      exact List.getElem?_set_self lt
    obtain ⟨y3, y4, y5, e⟩ := loop_bc (x6 := x6) (p := p) (l := l) hl hon cs _ (ks ++ [.inr nm]) (ss ++ [S.length]) (some (.str nm)) (some (.int v)) (some (.bl t)) (fun c hc => by
      rw [hasK_snoc, hk c (List.mem_cons_of_mem _ hc), decide_eq_false fun q => hnd.1 (List.mem_map.mpr ⟨c, hc, (Sum.inr.inj q).symm⟩)] <;> rfl) hnd.2 (by simp; omega) (by rw [← e1, List.getElem?_set_ne (Ne.symm hon)]; exact hw1) hn2
    refine ⟨y3, y4, y5, ?_⟩
    rw [List.map_cons]
    unfold forL
    simp only [hg, hb]
    show forL bG bB (cs.map cellD) _ _ = _
    rw [show (if false = true then ks else ks ++ [Sum.inr nm]) = ks ++ [Sum.inr nm] from rfl, show (if false = true then rpG (Sum.inr nm) (DV.loc S.length) ks (ss.map .loc) else ss.map .loc ++ [DV.loc S.length]) = (ss ++ [S.length]).map .loc by rw [List.map_append] <;> rfl, e1, e]
    rw [List.set_append_left _ _ (by rw [List.length_set]; exact lt), List.set_set, List.append_assoc]
    simp [List.range'_succ]
abbrev bG2 : DG := gTupD 3 (gsCons (gSet 3) (gsCons (gSet 6) (gsCons (gSet 5) gsNil)))
abbrev bB2 : DS := dSub (dBin pMulM (dPrim pLst (aCons (dC (.int 0)) aNil)) (dVar 6)) (dBin pIx (dVar 2) (dC (.str "places"))) (dVar 3)
theorem loop_bs {w n : Nat} {p l x4 : Option DV} {ds : List DV} (hl : lkD NK ds (.inr "places") = some (.loc n)) (hon : w ≠ n) : ∀ (cs : List (Str × Nat × Bool)) (S : Sto) (ks : List Key) (ss : List Nat) (x3 x5 x6 : Option DV), (∀ c ∈ cs, hasK ks (.inr c.1) = false) → (cs.map (·.1)).Nodup → ks.length + cs.length < 1000 → (∀ c ∈ cs, c.2.1 ≤ 1000) →
    S[w]? = some (.dik NK ds) → S[n]? = some (.dik ks (ss.map .loc)) →
    ∃ y3 y5 y6, forL bG2 bB2 (cs.map shelfD) [p, l, some (.loc w), x3, x4, x5, x6] S = some (.nx [p, l, some (.loc w), y3, x4, y5, y6] (S.set n (.dik (ks ++ cs.map fun c => .inr c.1) ((ss ++ List.range' S.length cs.length).map .loc)) ++ cs.map fun c => .lst ((noughts c.2.1).map .int)))
  | [], S, ks, ss, x3, x5, x6, _, _, _, _, _, hn => ⟨x3, x5, x6, by
    have e : S.set n (.dik ks (ss.map .loc)) = S := by
      obtain ⟨h1, h2⟩ := List.getElem?_eq_some_iff.mp hn
      rw [← h2, List.set_getElem_self]
    simp [e, forL]⟩
  | (nm, v, t) :: cs, S, ks, ss, x3, x5, x6, hk, hnd, hz, hv, hw, hn => by
    have hk0 : hasK ks (Sum.inr nm : Key) = false := hk _ List.mem_cons_self
    rw [List.map_cons, List.nodup_cons] at hnd
    rw [List.length_cons] at hz
    have hg : bG2 (shelfD (nm, v, t)) [p, l, some (.loc w), x3, x4, x5, x6] S = some ([p, l, some (.loc w), some (.str nm), x4, some (.bl t), some (.int v)], S) := rfl
    have lt := get_lt hn
    have lt2 := get_lt hw
    have hn1 : (S ++ [Cell.lst ((noughts v).map .int)])[n]? = some (.dik ks (ss.map .loc)) := by
      rw [List.getElem?_append_left lt]
      exact hn
    have hw1 : (S ++ [Cell.lst ((noughts v).map .int)])[w]? = some (.dik NK ds) := by
      rw [List.getElem?_append_left lt2]
      exact hw
    have hs : setI (.loc n) (.str nm) (.loc S.length) (S ++ [Cell.lst ((noughts v).map .int)]) = _ := setI_dik hn1 (by omega)
    unfold putKs putVs at hs
    rw [hk0] at hs
    have hm : dBin pMulM (dPrim pLst (aCons (dC (.int 0)) aNil)) (dVar 6) [p, l, some (.loc w), some (.str nm), x4, some (.bl t), some (.int v)] S = some (.loc S.length, S ++ [Cell.lst ((noughts v).map .int)]) := by
      have := mulM0 (S := S) (hv _ List.mem_cons_self)
      simp [this]
    have hi : pIx (.loc w) (.str "places") (S ++ [Cell.lst ((noughts v).map .int)]) = some (.loc n, S ++ [Cell.lst ((noughts v).map .int)]) := ix_dik hw1 hl
    have hb : bB2 [p, l, some (.loc w), some (.str nm), x4, some (.bl t), some (.int v)] S = _ := sub_at hm (by simp [hi] <;> rfl) rfl hs
    have e1 : (S ++ [Cell.lst ((noughts v).map .int)]).set n (.dik (ks ++ [.inr nm]) ((ss ++ [S.length]).map .loc)) = S.set n (.dik (ks ++ [.inr nm]) ((ss ++ [S.length]).map .loc)) ++ [Cell.lst ((noughts v).map .int)] := List.set_append_left _ _ lt
    have hn2 : (S.set n (.dik (ks ++ [.inr nm]) ((ss ++ [S.length]).map .loc)) ++ [Cell.lst ((noughts v).map .int)])[n]? = some (.dik (ks ++ [.inr nm]) ((ss ++ [S.length]).map .loc)) := by
      rw [List.getElem?_append_left (by rw [List.length_set]; exact lt)]
      exact List.getElem?_set_self lt
    obtain ⟨y3, y5, y6, e⟩ := loop_bs (x4 := x4) (p := p) (l := l) hl hon cs _ (ks ++ [.inr nm]) (ss ++ [S.length]) (some (.str nm)) (some (.bl t)) (some (.int v)) (fun c hc => by
      rw [hasK_snoc, hk c (List.mem_cons_of_mem _ hc), decide_eq_false fun q => hnd.1 (List.mem_map.mpr ⟨c, hc, (Sum.inr.inj q).symm⟩)] <;> rfl) hnd.2 (by simp; omega) (fun c hc => hv c (List.mem_cons_of_mem _ hc)) (by rw [← e1, List.getElem?_set_ne (Ne.symm hon)]; exact hw1) hn2
    refine ⟨y3, y5, y6, ?_⟩
    rw [List.map_cons]
    unfold forL
    simp only [hg, hb]
    show forL bG2 bB2 (cs.map shelfD) _ _ = _
    rw [show (if false = true then ks else ks ++ [Sum.inr nm]) = ks ++ [Sum.inr nm] from rfl, show (if false = true then rpG (Sum.inr nm) (DV.loc S.length) ks (ss.map .loc) else ss.map .loc ++ [DV.loc S.length]) = (ss ++ [S.length]).map .loc by rw [List.map_append] <;> rfl, e1, e]
    rw [List.set_append_left _ _ (by rw [List.length_set]; exact lt), List.set_set, List.append_assoc]
    simp [List.range'_succ]
def N0 (b k : Nat) : NLoc where
  w := b
  g := b + 1
  b := b + 2
  p := b + 3
  ls := List.range' (b + 4) k
theorem N0_fp (b k i : Nat) (h : i ∈ (N0 b k).fp) : b ≤ i ∧ i ≤ b + 4 + k := by
  simp only [NLoc.fp, N0, List.mem_cons, List.mem_range'_1] at h
  omega
theorem N0_nd (b k : Nat) : (N0 b k).fp.Nodup := by
  have h := List.nodup_range' (s := b + 4) (n := k) (step := 1)
  simp only [NLoc.fp, N0, List.nodup_cons, List.mem_cons, List.mem_range'_1, not_or, h, and_true]
  omega
theorem keys_nd {a b : List Str} (h : (a ++ b).Nodup) : ((a.map fun s => (Sum.inr s : Key)) ++ b.map fun s => Sum.inr s).Nodup := by
  rw [← List.map_append]
  exact List.Pairwise.map _ (fun a b h q => h (Sum.inr.inj q)) h
theorem begun_ok (S : Sto) (cells : List (Str × Int × Bool)) (shelves : List (Str × Nat × Bool)) (rows : List PRow) (coming : List Int) (hnd : (cells.map (·.1) ++ shelves.map (·.1)).Nodup) (hcl : cells.length < 400) (hsl : shelves.length < 400) (hsz : ∀ c ∈ shelves, c.2.1 ≤ 1000) :
    ∃ T, F_law_begun [progD cells shelves rows, .lst .own (coming.map .int)] S = some (.loc S.length, S ++ T) ∧ T.length = 4 + (cells.length + shelves.length) ∧ Now (S ++ T) (N0 S.length (cells.length + shelves.length)) coming (st0 cells shelves) := by
  obtain ⟨hc, hs, hcs⟩ := List.nodup_append.mp hnd
  let p : Option DV := some (progD cells shelves rows)
  let l : Option DV := some (.lst .own (coming.map .int))
  let V : List DV := nowV (N0 S.length (cells.length + shelves.length)) coming 0 0 0 none
  have e1 : dDisp (((dC (.str "at")), (dC (.int 0))) :: ((dC (.str "count")), (dC (.int 0))) :: ((dC (.str "heard")), (dC (.int 0))) :: ((dC (.str "answer")), (dC .non)) :: ((dC (.str "sent")), (dPrim pLstM aNil)) :: ((dC (.str "letters")), (dVar 1)) :: ((dC (.str "boxes")), (fun _ S => some (.loc S.length, S ++ [.dik [] []]))) :: ((dC (.str "places")), (fun _ S => some (.loc S.length, S ++ [.dik [] []]))) :: []) [p, l, none, none, none, none, none] S = some (.loc S.length, S ++ [.dik NK V, .lst [], .dik [] [], .dik [] []]) := by
    have g : (S ++ [Cell.dik [] [], .lst [], .dik [] [], .dik [] []])[S.length]? = some (.dik [] []) := get_off (k := 0)
    have s : (S ++ [Cell.dik [] [], .lst [], .dik [] [], .dik [] []]).set S.length (.dik NK V) = S ++ [.dik NK V, .lst [], .dik [] [], .dik [] []] := by
      rw [show S.length = S.length + 0 from rfl, set_off] <;> rfl
    unfold dDisp
    simp only [NK, V, N0, optI] at s
    simp [dPairs, keysD, keyD, NK, V, N0, p, l, g, s, optI]
  obtain ⟨y3, y4, y5, e2⟩ := loop_bc (w := S.length) (n := S.length + 3) (p := p) (l := l) (x6 := none) (ds := V) rfl (by omega) cells (S ++ [.dik NK V, .lst [], .dik [] [], .dik [] []]) [] [] none none none (fun _ _ => rfl) hc (by simp; omega) (get_off (k := 0)) get_off
  rw [set_off, show (S ++ [Cell.dik NK V, .lst [], .dik [] [], .dik [] []]).length = S.length + 4 by simp, List.append_assoc] at e2
  let C : Sto := cells.map fun c => .lst [.int c.2.1]
  let K1 : List Key := cells.map fun c => .inr c.1
  have Cl : C.length = cells.length := by simp [C]
  have e2 : forL bG bB (cells.map cellD) [p, l, some (.loc S.length), none, none, none, none] (S ++ [.dik NK V, .lst [], .dik [] [], .dik [] []]) = some (.nx [p, l, some (.loc S.length), y3, y4, y5, none] (S ++ ([.dik NK V, .lst [], .dik [] [], .dik K1 ((List.range' (S.length + 4) cells.length).map .loc)] ++ C))) := e2
  have hk2 : ∀ c ∈ shelves, hasK K1 (.inr c.1) = false := fun c hc' => by
    cases q : hasK K1 (.inr c.1) with
    | false => rfl
    | true =>
      obtain ⟨d, hd, e⟩ := List.mem_map.mp (hasK_iff.mp q)
      exact absurd (Sum.inr.inj e) (hcs d.1 (List.mem_map_of_mem hd) c.1 (List.mem_map_of_mem hc'))
  obtain ⟨z3, z5, z6, e3⟩ := loop_bs (w := S.length) (n := S.length + 3) (p := p) (l := l) (x4 := y4) (ds := V) rfl (by omega) shelves (S ++ ([.dik NK V, .lst [], .dik [] [], .dik K1 ((List.range' (S.length + 4) cells.length).map .loc)] ++ C)) K1 (List.range' (S.length + 4) cells.length) y3 y5 none hk2 hs (by simp [K1]; omega) hsz (get_off (k := 0)) get_off
  rw [set_off, show (S ++ ([Cell.dik NK V, .lst [], .dik [] [], .dik K1 ((List.range' (S.length + 4) cells.length).map .loc)] ++ C)).length = S.length + 4 + cells.length by simp [Cl]; omega, List.append_assoc, List.range'_append_1] at e3
  let D : Sto := shelves.map fun c => .lst ((noughts c.2.1).map .int)
  let T : Sto := [.dik NK V, .lst [], .dik [] [], .dik (K1 ++ shelves.map fun c => .inr c.1) ((List.range' (S.length + 4) (cells.length + shelves.length)).map .loc)] ++ (C ++ D)
  have e3 : forL bG2 bB2 (shelves.map shelfD) [p, l, some (.loc S.length), y3, y4, y5, none] (S ++ ([.dik NK V, .lst [], .dik [] [], .dik K1 ((List.range' (S.length + 4) cells.length).map .loc)] ++ C)) = some (.nx [p, l, some (.loc S.length), z3, y4, z5, z6] (S ++ T)) := by
    rw [e3]
    simp [T, D]
  refine ⟨T, ?_, by simp [T, Cl, D]; omega, ⟨get_off (k := 0), get_off (k := 1), get_off (k := 2), get_off (k := 3), fun i u hu => ?_, by simp [N0, st0, pks], by simp [st0], by simp [st0], ?_, N0_nd _ _⟩⟩
  · unfold F_law_begun b_law_begun runF
    show (match (dSeq _ _ [p, l, none, none, none, none, none] S : Option Out) with | some (.rt d S') => some (d, S') | some (.nx _ S') => some (.non, S') | _ => none) = _
    rw [v_seq, v_set, e1]
    simp only [List.set_cons_succ, List.set_cons_zero]
    rw [v_seq, v_for, show iSeq (dBin pIx (dVar 0) (dC (.int 0))) [p, l, some (.loc S.length), none, none, none, none] (S ++ [.dik NK V, .lst [], .dik [] [], .dik [] []]) = some (cells.map cellD, S ++ [.dik NK V, .lst [], .dik [] [], .dik [] []]) from rfl]
    simp only
    rw [e2]
    simp only
    rw [v_seq, v_for, show iSeq (dBin pIx (dVar 0) (dC (.int 1))) [p, l, some (.loc S.length), y3, y4, y5, none] (S ++ ([.dik NK V, .lst [], .dik [] [], .dik K1 ((List.range' (S.length + 4) cells.length).map .loc)] ++ C)) = some (shelves.map shelfD, S ++ ([.dik NK V, .lst [], .dik [] [], .dik K1 ((List.range' (S.length + 4) cells.length).map .loc)] ++ C)) from rfl]
    simp only
    rw [e3]
    rfl
  · have pv : C ++ D = (pvs (st0 cells shelves)).map fun l => Cell.lst (l.map .int) := by
      simp [C, D, pvs, st0]
      rfl
    have hlt := (List.getElem?_eq_some_iff.mp hu).1
    have hl2 : (pvs (st0 cells shelves)).length = cells.length + shelves.length := by simp [pvs, st0]
    refine ⟨S.length + 4 + i, ?_, ?_⟩
    · show (List.range' (S.length + 4) (cells.length + shelves.length))[i]? = _
      rw [List.getElem?_range' (by omega), Nat.one_mul]
    · rw [Nat.add_assoc, get_off]
      show ([_, _, _, _] ++ (C ++ D))[4 + i]? = _
      rw [List.getElem?_append_right (by simp), pv, show 4 + i - [Cell.dik NK V, .lst [], .dik [] [], .dik (K1 ++ shelves.map fun c => .inr c.1) ((List.range' (S.length + 4) (cells.length + shelves.length)).map .loc)].length = i by simp, List.getElem?_map, hu] <;> rfl
  · have := keys_nd hnd
    rw [List.map_map, List.map_map] at this
    exact this
end Lk24

namespace Lk24
open PySem PySem.Spec PyProof.Rows L2 Dn
theorem goodL_ints : ∀ ws : List Int, goodL (ws.map .int) = true ∧ deepL (ws.map DV.int) = 0
  | [] => ⟨rfl, rfl⟩
  | w :: ws => by
    obtain ⟨h1, h2⟩ := goodL_ints ws
    refine ⟨?_, ?_⟩
    · show (true && goodL (ws.map .int)) = true
      rw [h1] <;> rfl
    · show max 0 (deepL (ws.map .int)) = 0
      rw [h2] <;> rfl
theorem ne_cells {S : Sto} {n m : Nat} {ws : List Int} (hn : S[n]? = some (.lst (ws.map .int))) (hm : S[m]? = some (.lst (ws.map .int))) (neg : Bool) : pEq neg (.loc n) (.loc m) S = some (.bl (if neg then false else true), S) :=
  eq_lists (cpD_loc hn plainL_ints) (cpD_loc hm plainL_ints) (goodL_ints ws).1 (by rw [(goodL_ints ws).2]; decide) rfl neg
theorem eq_own {S : Sto} {m : Nat} {ws : List Int} (hm : S[m]? = some (.lst (ws.map .int))) (neg : Bool) : pEq neg (.lst .own (ws.map .int)) (.loc m) S = some (.bl (if neg then false else true), S) :=
  eq_lists (cpD_plain (by rw [plain_own]; exact plainL_ints)) (cpD_loc hm plainL_ints) (goodL_ints ws).1 (by rw [(goodL_ints ws).2]; decide) rfl neg
theorem ne_opt {S : Sto} (o : Option Int) : pEq true (optI o) (optI o) S = some (.bl false, S) := by
  cases o with
  | none => rfl
  | some v =>
    show some (DV.bl (!decide (v = v)), S) = _
    rw [decide_eq_true rfl] <;> rfl
theorem add_loc {n : Nat} {xs ys : List DV} {S : Sto} (h : S[n]? = some (.lst ys)) : pAdd (.lst .own xs) (.loc n) S = (if xs.length + ys.length ≤ sizeLine then some (.lst .own (xs ++ ys), S) else none) := by
  unfold pAdd asT
  simp only [h]
theorem all_true {S : Sto} : ∀ n : Nat, pAll [.lst .own (List.replicate n (.bl true))] S = some (.bl true, S) := fun n => by
  have h : ∀ n, blsD (List.replicate n (DV.bl true)) = some (List.replicate n true) := fun n => by
    induction n with
    | zero => rfl
    | succ n ih =>
      rw [List.replicate_succ, List.replicate_succ]
      unfold blsD
      rw [ih]
  show (match blsD (List.replicate n (DV.bl true)) with | some is => some (DV.bl (is.all id), S) | none => none) = _
  rw [h]
  show some (DV.bl ((List.replicate n true).all id), S) = _
  congr 2
  congr 1
  rw [List.all_eq_true]
  intro x hx
  rw [List.eq_of_mem_replicate hx]
  rfl
section
variable {S S1 : Sto} {L : PLoc} {rows : List PRow} {coming : List Int} {N : NLoc} {st : PSt}
theorem wholes_ok (A : PlAt S L rows coming st) (nl : List Str) (hz : st.gone.length < 100000) (hn : nl.length < 1000) :
    F_law_wholes [.loc L.o, .lst .own (nl.map .str)] S = some (.bl true, S ++ [.lst (st.gone.map .int)]) := by
  have t1 := t_stands (o := dVar 0) (ρ := [some (.loc L.o), some (.lst .own (nl.map .str)), none, none, none]) A rfl
  have t2 := t_count (o := dVar 0) (ρ := [some (.loc L.o), some (.lst .own (nl.map .str)), none, none, none]) A rfl
  have t3 := t_heard (o := dVar 0) (ρ := [some (.loc L.o), some (.lst .own (nl.map .str)), none, none, none]) A rfl
  have t4 := t_sent (o := dVar 0) (ρ := [some (.loc L.o), some (.lst .own (nl.map .str)), none, none, none]) A rfl
  have A1 : PlAt (S ++ [.lst (st.gone.map .int)]) L rows coming st := A.app
  have g1 : (S ++ [Cell.lst (st.gone.map .int)])[S.length]? = some (.lst (st.gone.map .int)) := get_len _ _
  have q1 : dLc (iSeq (dVar 1)) (gSet 3) (dC (.bl true)) (dMeth "Plain" "box" F_Plain_box [] (dVar 0) (aCons (dVar 3) aNil)) [3] [some (.loc L.o), some (.lst .own (nl.map .str)), none, none, none] (S ++ [.lst (st.gone.map .int)]) = some (.lst .own ((nl.map fun x => st.worth (.x x)).map .int), S ++ [.lst (st.gone.map .int)]) := by
    refine dLc_of (ds := nl.map .str) (S1 := S ++ [.lst (st.gone.map .int)]) rfl ?_ (size_ok (by simp; omega))
    rw [lcL_map (f := fun d => match d with | .str x => .int (st.worth (.x x)) | _ => .non) fun d hd => by
      obtain ⟨x, _, rfl⟩ := List.mem_map.mp hd
      exact ⟨_, rfl, rfl, t_box A1 rfl rfl⟩]
    rw [List.map_map, List.map_map] <;> rfl
  let X : List Int := [(st.at_ : Int), st.done, st.hears] ++ st.gone ++ nl.map fun x => st.worth (.x x)
  generalize hS1 : S ++ [Cell.lst (st.gone.map .int)] = S1 at t4 A1 g1 q1 ⊢
  have q2 : dLc (iSeq (dVar 2)) (gSet 4) (dC (.bl true)) (dAnd (dIsi .int (dVar 4)) (dNot (dIsi .bool (dVar 4)))) [4] [some (.loc L.o), some (.lst .own (nl.map .str)), some (.lst .own (X.map .int)), none, none] S1 = some (.lst .own (List.replicate X.length (.bl true)), S1) := by
    refine dLc_of (ds := X.map .int) (S1 := S1) rfl ?_ (size_ok (by simp [X]; omega))
    rw [lcL_map (f := fun _ => .bl true) fun d hd => by
      obtain ⟨x, _, rfl⟩ := List.mem_map.mp hd
      exact ⟨_, rfl, rfl, by simp [isT]⟩]
    rw [List.map_map]
    congr 3
    rw [List.eq_replicate_iff]
    refine ⟨by simp, fun b hb => ?_⟩
    obtain ⟨x, _, rfl⟩ := List.mem_map.mp hb
    rfl
  have q3 := all_true (S := S1) X.length
  have a1 : pAdd (.lst .own [.int (st.at_ : Int), .int (st.done : Int), .int (st.hears : Int)]) (.loc S.length) S1 = some (.lst .own ([.int (st.at_ : Int), .int (st.done : Int), .int (st.hears : Int)] ++ st.gone.map .int), S1) := by
    rw [add_loc g1, if_pos (size_ok (by simp; omega))]
  have a2 : pAdd (.lst .own ([.int (st.at_ : Int), .int (st.done : Int), .int (st.hears : Int)] ++ st.gone.map .int)) (.lst .own ((nl.map fun x => st.worth (.x x)).map .int)) S1 = some (.lst .own (X.map .int), S1) := by
    rw [v_addL, if_pos (size_ok (by simp; omega))]
    simp [X]
  clear_value X
  unfold F_law_wholes b_law_wholes runF
  simp only [List.length_cons, List.length_nil, List.map_cons, List.map_nil, List.replicate, List.cons_append, List.nil_append, if_true]
  have s1 : dSet 2 (dBin pAdd (dBin pAdd (dPrim pLst (aCons (dMeth "Plain" "stands" F_Plain_stands [] (dVar 0) aNil) (aCons (dMeth "Plain" "count" F_Plain_count [] (dVar 0) aNil) (aCons (dMeth "Plain" "heard" F_Plain_heard [] (dVar 0) aNil) aNil)))) (dMeth "Plain" "sent" F_Plain_sent [] (dVar 0) aNil)) (dLc (iSeq (dVar 1)) (gSet 3) (dC (.bl true)) (dMeth "Plain" "box" F_Plain_box [] (dVar 0) (aCons (dVar 3) aNil)) [3])) [some (.loc L.o), some (.lst .own (nl.map .str)), none, none, none] S = some (.nx [some (.loc L.o), some (.lst .own (nl.map .str)), some (.lst .own (X.map .int)), none, none] S1) := by
    simp only [v_set, v_bin, v_prim, v_cons, v_nil, t1, t2, t3, t4, q1, v_pLst]
    rw [if_pos (size_ok (by simp))]
    simp only [t4, a1, q1, a2]
    rfl
  rw [v_seq, s1]
  simp only
  simp only [v_ret, v_prim, v_cons, v_nil, q2, q3]
/-- the run, and what the law knows -/
structure Two (S : Sto) (L : PLoc) (rows : List PRow) (coming : List Int) (N : NLoc) (st : PSt) : Prop where
  a : PlAt S L rows coming st
  n : Now S N coming st
  ok : st.Ok
theorem Two.app {T : Sto} (A : Two S L rows coming N st) : Two (S ++ T) L rows coming N st := ⟨A.a.app, A.n.app, A.ok⟩
abbrev cG : DG := gTupD 3 (gsCons (gSet 4) (gsCons (gSet 6) (gsCons (gSet 7) gsNil)))
abbrev cB : DS := dIfS (dBin (pEq true) (dPrim pLst (aCons (dMeth "Plain" "cell" F_Plain_cell [] (dVar 0) (aCons (dVar 4) aNil)) aNil)) (dBin pIx (dBin pIx (dVar 1) (dC (.str "places"))) (dVar 4))) (dRet (dC (.bl false))) dNext
theorem cells_loop (A : Two S L rows coming N st) {p b x5 x8 : Option DV} : ∀ (cs : List (Str × Int × Bool)) (x4 x6 x7 : Option DV), (∀ c ∈ cs, hasK st.ck (.inr c.1) = true) → ∃ y4 y6 y7, forL cG cB (cs.map cellD) [some (.loc L.o), some (.loc N.w), p, b, x4, x5, x6, x7, x8] S = some (.nx [some (.loc L.o), some (.loc N.w), p, b, y4, x5, y6, y7, x8] S)
  | [], x4, x6, x7, _ => ⟨x4, x6, x7, rfl⟩
  | (s, v, t) :: cs, x4, x6, x7, h => by
    obtain ⟨y4, y6, y7, ih⟩ := cells_loop A (p := p) (b := b) (x5 := x5) (x8 := x8) cs (some (.str s)) (some (.int v)) (some (.bl t)) fun s hs => h s (List.mem_cons_of_mem _ hs)
    refine ⟨y4, y6, y7, ?_⟩
    have hs : hasK st.ck (.inr s) = true := h _ List.mem_cons_self
    have h1 := t_cell (o := dVar 0) (e := dVar 4) (x := s) (ρ := [some (.loc L.o), some (.loc N.w), p, b, some (.str s), x5, some (.int v), some (.bl t), x8]) A.a A.ok rfl rfl hs
    obtain ⟨n, n1, n2, n3⟩ := A.n.place (A.n.cellV A.ok hs)
    have np := n_p A.n
    have q := eq_own n3 true
    have hg : cG (cellD (s, v, t)) [some (.loc L.o), some (.loc N.w), p, b, x4, x5, x6, x7, x8] S = some ([some (.loc L.o), some (.loc N.w), p, b, some (.str s), x5, some (.int v), some (.bl t), x8], S) := rfl
    have hb : cB [some (.loc L.o), some (.loc N.w), p, b, some (.str s), x5, some (.int v), some (.bl t), x8] S = some (.nx [some (.loc L.o), some (.loc N.w), p, b, some (.str s), x5, some (.int v), some (.bl t), x8] S) := by
      simp only [List.map_cons, List.map_nil] at q
      simp [h1, np, n2, q]
    rw [List.map_cons]
    unfold forL
    simp only [hg, hb]
    exact ih
abbrev sG : DG := gTupD 3 (gsCons (gSet 4) (gsCons (gSet 8) (gsCons (gSet 7) gsNil)))
abbrev sB : DS := dIfS (dBin (pEq true) (dMeth "Plain" "shelf" F_Plain_shelf [] (dVar 0) (aCons (dVar 4) aNil)) (dBin pIx (dBin pIx (dVar 1) (dC (.str "places"))) (dVar 4))) (dRet (dC (.bl false))) dNext
theorem shelves_loop {p b x5 x6 : Option DV} : ∀ (cs : List (Str × Nat × Bool)) (S : Sto) (x4 x7 x8 : Option DV), Two S L rows coming N st → (∀ c ∈ cs, hasK st.sk (.inr c.1) = true) → ∃ y4 y7 y8 T, forL sG sB (cs.map shelfD) [some (.loc L.o), some (.loc N.w), p, b, x4, x5, x6, x7, x8] S = some (.nx [some (.loc L.o), some (.loc N.w), p, b, y4, x5, x6, y7, y8] (S ++ T))
  | [], S, x4, x7, x8, _, _ => ⟨x4, x7, x8, [], by rw [List.append_nil] <;> rfl⟩
  | (s, v, t) :: cs, S, x4, x7, x8, A, h => by
    have hs : hasK st.sk (.inr s) = true := h _ List.mem_cons_self
    have A1 : Two (S ++ [.lst ((st.shelf s).map .int)]) L rows coming N st := A.app
    obtain ⟨y4, y7, y8, T, ih⟩ := shelves_loop (p := p) (b := b) (x5 := x5) (x6 := x6) cs (S ++ [.lst ((st.shelf s).map .int)]) (some (.str s)) (some (.bl t)) (some (.int v)) A1 fun s hs => h s (List.mem_cons_of_mem _ hs)
    refine ⟨y4, y7, y8, [.lst ((st.shelf s).map .int)] ++ T, ?_⟩
    have h1 := t_shelf (o := dVar 0) (e := dVar 4) (x := s) (ρ := [some (.loc L.o), some (.loc N.w), p, b, some (.str s), x5, x6, some (.bl t), some (.int v)]) A.a A.ok rfl rfl hs
    have g1 : (S ++ [Cell.lst ((st.shelf s).map .int)])[S.length]? = some (.lst ((st.shelf s).map .int)) := get_len _ _
    obtain ⟨n, n1, n2, n3⟩ := A1.n.place (A1.n.shelfV A1.ok hs)
    have np := n_p A1.n
    have q := ne_cells g1 n3 true
    have hg : sG (shelfD (s, v, t)) [some (.loc L.o), some (.loc N.w), p, b, x4, x5, x6, x7, x8] S = some ([some (.loc L.o), some (.loc N.w), p, b, some (.str s), x5, x6, some (.bl t), some (.int v)], S) := rfl
    have hb : sB [some (.loc L.o), some (.loc N.w), p, b, some (.str s), x5, x6, some (.bl t), some (.int v)] S = some (.nx [some (.loc L.o), some (.loc N.w), p, b, some (.str s), x5, x6, some (.bl t), some (.int v)] (S ++ [.lst ((st.shelf s).map .int)])) := by
      simp [h1, np, n2, q]
    rw [List.map_cons]
    unfold forL
    simp only [hg, hb]
    rw [← List.append_assoc]
    exact ih
abbrev boxB : DS := dIfS (dBin (pEq true) (dMeth "Plain" "box" F_Plain_box [] (dVar 0) (aCons (dVar 4) aNil)) (dGet2 (dBin pIx (dVar 1) (dC (.str "boxes"))) (dVar 4) (dC (.int 0)))) (dRet (dC (.bl false))) dNext
theorem boxes_ok (A : Two S L rows coming N st) {p b x5 x6 x7 x8 : Option DV} : ∀ (nl : List Str) (x : Option DV), ∃ x', forL (gSet 4) boxB (nl.map .str) [some (.loc L.o), some (.loc N.w), p, b, x, x5, x6, x7, x8] S = some (.nx [some (.loc L.o), some (.loc N.w), p, b, x', x5, x6, x7, x8] S)
  | [], x => ⟨x, rfl⟩
  | s :: nl, x => by
    obtain ⟨x', ih⟩ := boxes_ok A (p := p) (b := b) (x5 := x5) (x6 := x6) (x7 := x7) (x8 := x8) nl (some (.str s))
    refine ⟨x', ?_⟩
    have nb := n_b A.n
    have h1 := t_box (o := dVar 0) (e := dVar 4) (x := s) (ρ := [some (.loc L.o), some (.loc N.w), p, b, some (.str s), x5, x6, x7, x8]) A.a rfl rfl
    have h2 := now_get (o := dBin pIx (dVar 1) (dC (.str "boxes"))) (e := dVar 4) (x := s) (ρ := [some (.loc L.o), some (.loc N.w), p, b, some (.str s), x5, x6, x7, x8]) A.n (by simp [nb]) rfl
    have hb : boxB [some (.loc L.o), some (.loc N.w), p, b, some (.str s), x5, x6, x7, x8] S = some (.nx [some (.loc L.o), some (.loc N.w), p, b, some (.str s), x5, x6, x7, x8] S) := by
      simp [h1, h2]
    rw [List.map_cons]
    unfold forL
    simp only [v_gset, List.set_cons_succ, List.set_cons_zero, hb]
    exact ih
theorem same_ok (A : Two S L rows coming N st) (nl : List Str) (cells : List (Str × Int × Bool)) (shelves : List (Str × Nat × Bool)) (prow : List PRow) (hck : st.ck = cells.map fun c => .inr c.1) (hsk : st.sk = shelves.map fun c => .inr c.1) (hz : st.gone.length < 100000) (hn : nl.length < 1000) :
    ∃ T, F_law_same [.loc L.o, .loc N.w, progD cells shelves prow, .lst .own (nl.map .str)] S = some (.bl true, S ++ T) := by
  let p : Option DV := some (progD cells shelves prow)
  let b : Option DV := some (.lst .own (nl.map .str))
  have w0 := wholes_ok A.a nl hz hn
  have A1 : Two (S ++ [.lst (st.gone.map .int)]) L rows coming N st := A.app
  let ρ0 : List (Option DV) := [some (.loc L.o), some (.loc N.w), p, b, none, none, none, none, none]
  have s1 : dIfS (dNot (dPrim (cS F_law_wholes []) (aCons (dVar 0) (aCons (dVar 3) aNil)))) (dRet (dC (.bl false))) dNext ρ0 S = some (.nx ρ0 (S ++ [.lst (st.gone.map .int)])) := by
    simp [ρ0, p, b, cS, w0]
  generalize hS1 : S ++ [Cell.lst (st.gone.map .int)] = S1 at A1 s1
  have t1 := t_stands (o := dVar 0) (ρ := ρ0) A1.a rfl
  have t2 := t_count (o := dVar 0) (ρ := ρ0) A1.a rfl
  have t3 := t_heard (o := dVar 0) (ρ := ρ0) A1.a rfl
  have t4 := t_sent (o := dVar 0) (ρ := ρ0) A1.a rfl
  have na := n_at A1.n
  have nc := n_cnt A1.n
  have nh := n_h A1.n
  have v1 : dVar 1 ρ0 S1 = some (.loc N.w, S1) := rfl
  have s2 : dIfS (dOr (dBin (pEq true) (dMeth "Plain" "stands" F_Plain_stands [] (dVar 0) aNil) (dBin pIx (dVar 1) (dC (.str "at")))) (dOr (dBin (pEq true) (dMeth "Plain" "count" F_Plain_count [] (dVar 0) aNil) (dBin pIx (dVar 1) (dC (.str "count")))) (dBin (pEq true) (dMeth "Plain" "heard" F_Plain_heard [] (dVar 0) aNil) (dBin pIx (dVar 1) (dC (.str "heard")))))) (dRet (dC (.bl false))) dNext ρ0 S1 = some (.nx ρ0 S1) := by
    simp only [v_ifS, Dn.v_or, v_bin, t1, t2, t3, v1, v_c, na, nc, nh, v_neI, decide_true, Bool.not_true, v_next]
  have A2 : Two (S1 ++ [.lst (st.gone.map .int)]) L rows coming N st := A1.app
  have g2 : (S1 ++ [Cell.lst (st.gone.map .int)])[S1.length]? = some (.lst (st.gone.map .int)) := get_len _ _
  have ns := n_s A2.n
  have q4 := ne_cells g2 A2.n.g true
  have t5 := t_answer (o := dVar 0) (ρ := ρ0) A2.a rfl
  have nans := n_ans A2.n
  have v2 : dVar 1 ρ0 (S1 ++ [Cell.lst (st.gone.map .int)]) = some (.loc N.w, S1 ++ [Cell.lst (st.gone.map .int)]) := rfl
  have qo := ne_opt (S := S1 ++ [Cell.lst (st.gone.map .int)]) st.res
  have s3 : dIfS (dOr (dBin (pEq true) (dMeth "Plain" "sent" F_Plain_sent [] (dVar 0) aNil) (dBin pIx (dVar 1) (dC (.str "sent")))) (dBin (pEq true) (dMeth "Plain" "answer" F_Plain_answer [] (dVar 0) aNil) (dBin pIx (dVar 1) (dC (.str "answer"))))) (dRet (dC (.bl false))) dNext ρ0 S1 = some (.nx ρ0 (S1 ++ [.lst (st.gone.map .int)])) := by
    simp only [v_ifS, Dn.v_or, v_bin, t4, v2, v_c, ns, q4, if_true, t5, nans, qo, v_next]
  generalize hS2 : S1 ++ [Cell.lst (st.gone.map .int)] = S2 at A2 s3
  obtain ⟨y4, y6, y7, e4⟩ := cells_loop A2 (p := p) (b := b) (x5 := none) (x8 := none) cells none none none fun c hc => by
    rw [hck]
    exact hasK_mem (List.mem_map_of_mem hc)
  obtain ⟨z4, z7, z8, T3, e5⟩ := shelves_loop (p := p) (b := b) (x5 := none) (x6 := y6) shelves S2 y4 y7 none A2 fun c hc => by
    rw [hsk]
    exact hasK_mem (List.mem_map_of_mem hc)
  have A3 : Two (S2 ++ T3) L rows coming N st := A2.app
  obtain ⟨u4, e6⟩ := boxes_ok A3 (p := p) (b := b) (x5 := none) (x6 := y6) (x7 := z7) (x8 := z8) nl z4
  have t6 := t_ended (o := dVar 0) (ρ := [some (.loc L.o), some (.loc N.w), p, b, u4, none, y6, z7, z8]) A3.a rfl
  have n6 := n_ans A3.n
  refine ⟨[.lst (st.gone.map .int)] ++ [.lst (st.gone.map .int)] ++ T3, ?_⟩
  rw [show S ++ ([Cell.lst (st.gone.map .int)] ++ [.lst (st.gone.map .int)] ++ T3) = S2 ++ T3 by rw [← hS2, ← hS1]; simp]
  unfold F_law_same b_law_same runF
  simp only [List.length_cons, List.length_nil, List.map_cons, List.map_nil, List.replicate, List.cons_append, List.nil_append, if_true]
  rw [v_seq, show dIfS _ _ _ _ S = _ from s1]
  simp only
  rw [v_seq, s2]
  simp only
  rw [v_seq, s3]
  simp only
  rw [v_seq, v_for, show iSeq (dBin pIx (dVar 2) (dC (.int 0))) ρ0 S2 = some (cells.map cellD, S2) from rfl]
  simp only
  rw [show forL cG _ (cells.map cellD) ρ0 S2 = _ from e4]
  simp only
  rw [v_seq, v_for, show iSeq (dBin pIx (dVar 2) (dC (.int 1))) [some (.loc L.o), some (.loc N.w), p, b, y4, none, y6, y7, none] S2 = some (shelves.map shelfD, S2) from rfl]
  simp only
  rw [show forL sG _ (shelves.map shelfD) _ S2 = _ from e5]
  simp only
  rw [v_seq, v_for, show iSeq (dVar 3) [some (.loc L.o), some (.loc N.w), p, b, z4, none, y6, z7, z8] (S2 ++ T3) = some (nl.map .str, S2 ++ T3) from rfl]
  simp only
  rw [show forL (gSet 4) _ (nl.map .str) _ (S2 ++ T3) = _ from e6]
  simp only
  generalize S2 ++ T3 = S3 at t6 n6 ⊢
  have q : pEq false (.bl st.res.isSome) (.bl (!isNon (optI st.res))) S3 = some (.bl true, S3) := by
    cases st.res <;> rfl
  simp [t6, n6, q, isT]
end
end Lk24

namespace Lk24
open PySem PySem.Spec PyProof.Rows L2 Dn
/-- where a row at a place may lead, within -/
def rIn (many i : Nat) (r : PRow) : Prop := rLed many r ∧ (∀ a, r = .endr a → True) ∧ ((∃ a, r = .endr a) ∨ i + 1 < many)
section
variable {S S1 : Sto} {L : PLoc} {rows : List PRow} {coming : List Int} {N : NLoc} {st : PSt}
theorem next_lt {r : PRow} {many : Nat} (h : rIn many st.at_ r) (h2 : st.at_ < many) : (stepOf coming st r).at_ < many := by
  obtain ⟨h1, _, h3⟩ := h
  show st.next r < many
  cases r with
  | endr a => exact h2
  | go n => exact h1
  | ifr a n =>
    show (if st.worth a = 0 then st.at_ + 1 else n) < many
    rcases h3 with ⟨b, e⟩ | h3
    · cases e
    · split
      · exact h3
      · exact h1
  | say a => rcases h3 with ⟨b, e⟩ | h3 <;> first | exact h3 | cases e
  | copy x a => rcases h3 with ⟨b, e⟩ | h3 <;> first | exact h3 | cases e
  | op x s a b => rcases h3 with ⟨b, e⟩ | h3 <;> first | exact h3 | cases e
  | load x c => rcases h3 with ⟨b, e⟩ | h3 <;> first | exact h3 | cases e
  | store c a => rcases h3 with ⟨b, e⟩ | h3 <;> first | exact h3 | cases e
  | take x s a => rcases h3 with ⟨b, e⟩ | h3 <;> first | exact h3 | cases e
  | lay s a b => rcases h3 with ⟨b, e⟩ | h3 <;> first | exact h3 | cases e
  | hear x => rcases h3 with ⟨b, e⟩ | h3 <;> first | exact h3 | cases e
theorem hears_le {r : PRow} : (stepOf coming st r).hears ≤ st.hears + 1 := by
  cases r <;> first | exact Nat.le_succ _ | exact Nat.le_refl _
theorem step_none {r : PRow} (h : st.res = none) (hr : rows[st.at_]? = some r) : st.step rows coming = stepOf coming st r := by
  unfold PSt.step
  rw [h, hr]
  rfl
theorem step_some {v : Int} (h : st.res = some v) : st.step rows coming = st := by
  unfold PSt.step
  rw [h]
structure Inv24 (S : Sto) (L : PLoc) (rows : List PRow) (coming : List Int) (N : NLoc) (ck sk : List Key) (B w : Nat) (st : PSt) (i : Nat) : Prop where
  t : Two S L rows coming N st
  w : N.w = w
  lo : ∀ j ∈ L.fp, j < B
  hi : ∀ j ∈ N.fp, B ≤ j
  bs : B ≤ S.length
  ck : st.ck = ck
  sk : st.sk = sk
  at_ : st.at_ < rows.length
  done : st.done ≤ i
  hears : st.hears ≤ i
abbrev B1 : DS := (dSeq (dIfS (dNot (dPrim (cS F_law_same []) (aCons (dVar 4) (aCons (dVar 5) (aCons (dVar 3) (aCons (dVar 2) aNil)))))) (dRet (dC (.bl false))) dNext)
  (dSeq (dExpr (dMeth "Plain" "step" F_Plain_step [] (dVar 4) aNil))
  (dIfS (dBin (pIs false) (dBin pIx (dVar 5) (dC (.str "answer"))) (dC .non)) (dExpr (dPrim (cS F_law_done []) (aCons (dBin pIx (dBin pIx (dVar 3) (dC (.int 2))) (dBin pIx (dVar 5) (dC (.str "at")))) (aCons (dVar 5) aNil)))) dNext)))
abbrev En (x0 x1 : Option DV) (nl : List Str) (cells : List (Str × Int × Bool)) (shelves : List (Str × Nat × Bool)) (rows : List PRow) (o w : Nat) (x6 x7 : Option DV) : List (Option DV) :=
  [x0, x1, some (.lst .own (nl.map .str)), some (progD cells shelves rows), some (.loc o), some (.loc w), x6, x7]
theorem turn_ok {i w B : Nat} {cells : List (Str × Int × Bool)} {shelves : List (Str × Nat × Bool)} (A : Inv24 S L rows coming N (cells.map fun c => .inr c.1) (shelves.map fun c => .inr c.1) B w st i) (nl : List Str)
    (hok : ∀ r ∈ rows, r.Ok (cells.map fun c => .inr c.1) (shelves.map fun c => .inr c.1)) (hin : ∀ j r, rows[j]? = some r → rIn rows.length j r) (hi : i < 80) (hcom : ∀ v ∈ coming, In40 v) (hcl : coming.length < 1000) (hcn : cells.length < 400) (hsn : shelves.length < 400) (hnl : nl.length < 1000) {x0 x1 x6 x7 : Option DV} :
    ∃ S' st' N', B1 (En x0 x1 nl cells shelves rows L.o w x6 x7) S = some (.nx (En x0 x1 nl cells shelves rows L.o w x6 x7) S') ∧ Inv24 S' L rows coming N' (cells.map fun c => .inr c.1) (shelves.map fun c => .inr c.1) B w st' (i + 1) := by
  have hd := A.done
  have hh := A.hears
  have hgl := A.t.ok.gd
  obtain ⟨T, e1⟩ := same_ok A.t nl cells shelves rows A.ck A.sk (by omega) hnl
  rw [A.w] at e1
  have A1 : Two (S ++ T) L rows coming N st := A.t.app
  have bs1 : B ≤ (S ++ T).length := by have := A.bs; rw [List.length_append]; omega
  have hr : rows[st.at_]? = some (rows[st.at_]'A.at_) := List.getElem?_eq_getElem A.at_
  generalize rows[st.at_]'A.at_ = r at hr
  have hmem := List.mem_of_getElem? hr
  have hall : ∀ r ∈ rows, r.Ok st.ck st.sk := fun r h => by
    rw [A.ck, A.sk]
    exact hok r h
  have hckl : st.ck.length < 400 := by rw [A.ck, List.length_map]; exact hcn
  have hskl : st.sk.length < 400 := by rw [A.sk, List.length_map]; exact hsn
  generalize S ++ T = S1 at e1 A1 bs1
  obtain ⟨S2, e2, A2, f2⟩ := t_step (o := dVar 4) (ρ := En x0 x1 nl cells shelves rows L.o w x6 x7) A1.a A.t.ok hall (by omega) (by omega) (fun _ => A.at_) rfl
  obtain ⟨O2, ck2, sk2⟩ := A.t.ok.step (coming := coming) hcom hall
  have N2 : Now S2 N coming st := A1.n.ext fun j hj => f2.2 j fun q => by
    have h1 := A.lo j q
    have h2 := A.hi j hj
    omega
  have bs2 : B ≤ S2.length := by rw [f2.1]; exact bs1
  have na := n_ans N2
  have nat := n_at N2
  rw [A.w] at na nat
  cases hres : st.res with
  | some v =>
    have hs := step_some (rows := rows) (coming := coming) hres
    rw [hs] at A2 O2 ck2 sk2
    rw [hres] at na
    refine ⟨S2, st, N, ?_, ⟨⟨A2, N2, A.t.ok⟩, A.w, A.lo, A.hi, bs2, A.ck, A.sk, A.at_, by omega, by omega⟩⟩
    simp only [En] at e2 ⊢
    simp [cS, e1, e2, na, optI]
  | none =>
    have hs := step_none (rows := rows) (coming := coming) hres hr
    rw [hs] at A2 O2 ck2 sk2
    rw [hres] at na
    obtain ⟨S3, N3, e3, NN3, f3, w3, p3⟩ := done_ok N2 A.t.ok (by rw [A.ck, A.sk]; exact hok r hmem) (by omega) (by unfold pks; rw [List.length_append]; omega) (by omega) hcl (by omega)
    rw [A.w] at e3
    have hrow : pIx (.tup (rows.map PRow.d)) (.int (st.at_ : Int)) S2 = some (r.d, S2) := ix_tup (atD_nat (by rw [List.getElem?_map, hr] <;> rfl))
    have hp : pIx (progD cells shelves rows) (.int 2) S2 = some (.tup (rows.map PRow.d), S2) := rfl
    refine ⟨S3, stepOf coming st r, N3, ?_, ⟨⟨A2.ext fun j hj => f3.2 j (by have := A.lo j hj; omega) fun q => by
      have h1 := A.lo j hj
      have h2 := A.hi j q
      omega, NN3, O2⟩, w3.trans A.w, A.lo, fun j hj => ?_, Nat.le_trans bs2 f3.1, by rw [ck2]; exact A.ck, by rw [sk2]; exact A.sk, next_lt (hin _ _ hr) A.at_, ?_, ?_⟩⟩
    · simp only [En] at e2 ⊢
      simp only [progD] at hp e1 e2 ⊢
      simp [cS, e1, e2, na, nat, optI, hp, hrow, e3]
    · rcases p3 j hj with h | h
      · exact A.hi j h
      · omega
    · show st.done + 1 ≤ i + 1
      omega
    · have := hears_le (st := st) (coming := coming) (r := r)
      omega
end
end Lk24

namespace Lk24
open PySem PySem.Spec PyProof.Rows L2 Dn
section
variable {κ α : Type} [DecidableEq κ] {k j : κ} {v : α}
theorem lk_rp : ∀ {a : List κ} {c : List α}, hasK a k = true → a.length = c.length → lkG a (rpG k v a c) j = if k = j then some v else lkG a c j
  | [], _, h, _ => by cases h
  | _ :: _, [], _, hl => by cases hl
  | x :: a, y :: c, h, hl => by
    show (if x = j then some (if x = k then v else y) else lkG a (rpG k v a c) j) = if k = j then some v else (if x = j then some y else lkG a c j)
    by_cases q : x = k
    · by_cases q2 : x = j
      · rw [if_pos q2, if_pos q, if_pos (q.symm.trans q2)]
      · rw [if_neg q2, if_neg fun e => q2 (q.trans e), if_neg q2]
        by_cases q3 : hasK a k = true
        · rw [lk_rp q3 (Nat.succ.inj hl), if_neg fun e => q2 (q.trans e)]
        · rw [rp_none (by simpa using q3) (Nat.succ.inj hl)]
    · have h2 : hasK a k = true := by
        unfold hasK at h
        rw [List.any_cons, decide_eq_false q, Bool.false_or] at h
        exact h
      rw [lk_rp h2 (Nat.succ.inj hl)]
      by_cases q2 : x = j
      · rw [if_pos q2, if_neg q, if_neg (fun e => q (q2.trans e.symm)), if_pos q2]
      · rw [if_neg q2, if_neg q2]
theorem lk_put {a : List κ} {c : List α} (hl : a.length = c.length) : lkG (putKs a k) (putG a c k v) j = if k = j then some v else lkG a c j := by
  by_cases q : hasK a k = true
  · rw [putKs_has q, putG_has q, lk_rp q hl]
  · unfold putKs putG
    rw [if_neg q, if_neg q, lk_app hl]
    by_cases q2 : k = j
    · subst q2
      rw [lk_none (by simpa using q), if_pos rfl]
      show lkG [k] [v] k = _
      unfold lkG
      rw [if_pos rfl]
    · rw [if_neg q2]
      cases lkG a c j with
      | some x => rfl
      | none =>
        show lkG [k] [v] j = _
        unfold lkG
        rw [if_neg q2]
        unfold lkG
        rfl
end
theorem out_worth {st : PSt} (hl : st.hk.length = st.hv.length) (x z : Str) (v : Int) : (st.out x v).worth (.x z) = if x = z then v else st.worth (.x z) := by
  show ((lkG (putKs st.hk (Sum.inr x : Key)) (putG st.hk st.hv (Sum.inr x : Key) v) (Sum.inr z)).getD 0) = _
  rw [lk_put hl]
  by_cases q : x = z
  · rw [if_pos (by rw [q]), if_pos q] <;> rfl
  · rw [if_neg fun e => q (Sum.inr.inj e), if_neg q] <;> rfl
def longR (x y : Str) (R : Nat) : List PRow := [.op x "+" (.x x) (.n 1), .op y "<" (.x x) (.n R), .ifr (.x y) 0, .say (.x y), .endr (.x x)]
structure LJ (R n : Nat) (x y : Str) (st : PSt) : Prop where
  ok : st.Ok
  ck : st.ck = []
  res : st.res = none
  gone : st.gone = if n = 3 * R + 1 then [0] else []
  done : st.done = n
  wx : st.worth (.x x) = (min ((n + 2) / 3) R : Nat)
  at_ : st.at_ = if n = 3 * R then 3 else if n = 3 * R + 1 then 4 else n % 3
  wy : n % 3 = 2 → st.worth (.x y) = if (n + 1) / 3 < R then 1 else 0
  wz : n = 3 * R → st.worth (.x y) = 0
theorem longOk {x y : Str} {R : Nat} (hR : R ≤ 900) (ck sk : List Key) : ∀ r ∈ longR x y R, r.Ok ck sk := fun r h => by
  simp only [longR, List.mem_cons, List.not_mem_nil, or_false] at h
  rcases h with rfl | rfl | rfl | rfl | rfl
  · exact ⟨.inl rfl, trivial, ⟨by decide, by decide⟩⟩
  · exact ⟨.inr (.inr (.inr (.inl rfl))), trivial, ⟨by omega, by omega⟩⟩
  · trivial
  · trivial
  · trivial
theorem long_step {R n : Nat} {x y : Str} {st : PSt} (hxy : x ≠ y) (hR : 100 ≤ R ∧ R ≤ 900) (h : LJ R n x y st) (hn : n < 3 * R + 1) : LJ R (n + 1) x y (st.step (longR x y R) []) := by
  obtain ⟨ok, ck, res, gone, done, wx, at_, wy, wz⟩ := h
  obtain ⟨O2, ck2, sk2⟩ := ok.step (rows := longR x y R) (coming := []) (fun _ h => by cases h) (longOk hR.2 _ _)
  rw [ck] at ck2
  by_cases q : n = 3 * R
  · -- say
    rw [if_pos q] at at_
    rw [if_neg (by omega)] at gone
    have hr : (longR x y R)[st.at_]? = some (.say (.x y)) := by rw [at_] <;> rfl
    have e := step_none (coming := []) res hr
    rw [e] at O2 ck2 ⊢
    refine ⟨O2, ck2, res, ?_, by show st.done + 1 = _; rw [done], ?_, ?_, fun h => by omega, fun h => by omega⟩
    · show st.gone ++ [st.worth (.x y)] = _
      rw [gone, wz q, if_pos (by omega)] <;> rfl
    · show st.worth (.x x) = _
      rw [wx]
      congr 1
      omega
    · show st.at_ + 1 = _
      rw [at_, if_neg (by omega), if_pos (by omega)]
  · rw [if_neg q, if_neg (by omega)] at at_
    rw [if_neg (by omega)] at gone
    rcases (show n % 3 = 0 ∨ n % 3 = 1 ∨ n % 3 = 2 by omega) with m | m | m
    · have hr : (longR x y R)[st.at_]? = some (.op x "+" (.x x) (.n 1)) := by rw [at_, m] <;> rfl
      have e := step_none (coming := []) res hr
      rw [e] at O2 ck2 ⊢
      have hv : valS "+" (st.worth (.x x)) (st.worth (.n 1)) = (min ((n + 1 + 2) / 3) R : Nat) := by
        show (st.worth (.x x) + 1) % 1099511627776 = _
        rw [wx]
        omega
      refine ⟨O2, ck2, res, ?_, by show st.done + 1 = _; rw [done], ?_, ?_, fun h => by omega, fun h => by omega⟩
      · show st.gone = _
        rw [gone, if_neg (by omega)]
      · show (st.out x (valS "+" (st.worth (.x x)) (st.worth (.n 1)))).worth (.x x) = _
        rw [out_worth ok.hl, if_pos rfl, hv]
      · show st.at_ + 1 = _
        rw [at_, if_neg (by omega), if_neg (by omega)]
        omega
    · have hr : (longR x y R)[st.at_]? = some (.op y "<" (.x x) (.n R)) := by rw [at_, m] <;> rfl
      have e := step_none (coming := []) res hr
      rw [e] at O2 ck2 ⊢
      have hv : valS "<" (st.worth (.x x)) (st.worth (.n R)) = if (n + 2) / 3 < R then 1 else 0 := by
        show (if st.worth (.x x) < (R : Int) then (1 : Int) else 0) = _
        rw [wx]
        by_cases q2 : (n + 2) / 3 < R
        · rw [if_pos q2, if_pos (by omega)]
        · rw [if_neg q2, if_neg (by omega)]
      refine ⟨O2, ck2, res, ?_, by show st.done + 1 = _; rw [done], ?_, ?_, fun h => ?_, fun h => by omega⟩
      · show st.gone = _
        rw [gone, if_neg (by omega)]
      · show (st.out y (valS "<" (st.worth (.x x)) (st.worth (.n R)))).worth (.x x) = _
        rw [out_worth ok.hl, if_neg (Ne.symm hxy), wx]
        congr 1
        omega
      · show st.at_ + 1 = _
        rw [at_, if_neg (by omega), if_neg (by omega)]
        omega
      · show (st.out y (valS "<" (st.worth (.x x)) (st.worth (.n R)))).worth (.x y) = _
        rw [out_worth ok.hl, if_pos rfl, hv]
    · have hr : (longR x y R)[st.at_]? = some (.ifr (.x y) 0) := by rw [at_, m] <;> rfl
      have e := step_none (coming := []) res hr
      rw [e] at O2 ck2 ⊢
      have hy := wy m
      refine ⟨O2, ck2, res, ?_, by show st.done + 1 = _; rw [done], ?_, ?_, fun h => by omega, fun h => ?_⟩
      · show st.gone = _
        rw [gone, if_neg (by omega)]
      · show st.worth (.x x) = _
        rw [wx]
        congr 1
        omega
      · show (if st.worth (.x y) = 0 then st.at_ + 1 else 0) = _
        rw [hy]
        by_cases q2 : (n + 1) / 3 < R
        · rw [if_pos q2, if_neg (by decide), if_neg (by omega), if_neg (by omega)]
          omega
        · rw [if_neg q2, if_pos rfl, at_, m, if_pos (by omega)]
      · show st.worth (.x y) = 0
        rw [hy, if_neg (by omega)]
theorem eq_cell {S : Sto} {n : Nat} {ws : List Int} (hn : S[n]? = some (.lst (ws.map .int))) (neg : Bool) : pEq neg (.loc n) (.lst .own (ws.map .int)) S = some (.bl (if neg then false else true), S) :=
  eq_lists (cpD_loc hn plainL_ints) (cpD_plain (by rw [plain_own]; exact plainL_ints)) (goodL_ints ws).1 (by rw [(goodL_ints ws).2]; decide) rfl neg
theorem long_ok (x y : Str) (rest : List Str) (hxy : x ≠ y) (c : Int) : pureOf F_law_long [.lst .own ((x :: y :: rest).map .str), .int c] = some (.bl true) := by
  obtain ⟨R, hRc⟩ : ∃ R : Nat, (R : Int) = 100 + c % 801 := ⟨(100 + c % 801).toNat, by omega⟩
  have hR : 100 ≤ R ∧ R ≤ 900 := by omega
  obtain ⟨rows, hrows⟩ : ∃ rows, rows = longR x y R := ⟨_, rfl⟩
  have rlen : rows.length = 5 := by rw [hrows] <;> rfl
  obtain ⟨T, ei, Tl, A0⟩ := init_ok [] [] [] rows [] (.lst .own []) (fun _ => rfl) List.nodup_nil List.nodup_nil (by decide) (by decide) (fun _ h => by cases h) (by omega)
  simp only [List.nil_append, List.length_nil, Nat.add_zero] at ei Tl A0
  have O0 : (st0 [] []).Ok := ⟨rfl, fun _ h => (by cases h), rfl, fun _ h => (by cases h), rfl, fun _ h => (by cases h), Nat.le_refl _, Nat.le_refl _⟩
  have J0 : LJ R 0 x y (st0 [] []) := ⟨O0, rfl, rfl, by rw [if_neg (by omega)] <;> rfl, rfl, rfl, by rw [if_neg (by omega), if_neg (by omega)] <;> rfl, fun h => by omega, fun h => by omega⟩
  obtain ⟨N, hN⟩ : ∃ N : DV, N = .lst .own ((x :: y :: rest).map .str) := ⟨_, rfl⟩
  rw [← hN]
  let E : Option DV → List (Option DV) := fun x5 => [some N, some (.int c), some (.int R), some (.tup (rows.map PRow.d)), some (.loc 0), x5, some (.str x), some (.str y)]
  obtain ⟨ρ', S5, el, st, x5, A5, J5, rfl⟩ := forL_inv (g := gSet 5) (body := dExpr (dMeth "Plain" "step" F_Plain_step [] (dVar 4) aNil)) (I := fun i ρ S => ∃ st x5, PlAt S (L0 0 0) rows [] st ∧ LJ R i x y st ∧ ρ = E x5) (ds := rgD 0 (3 * R + 1)) (k := 0) (ρ := E none) (S := T) ⟨_, none, A0, J0, rfl⟩ (fun i d ρ S hd hi => by
    obtain ⟨st, x5, A, J, rfl⟩ := hi
    rw [Nat.zero_add] at J
    have hlt := (List.getElem?_eq_some_iff.mp hd).1
    rw [len_rgD] at hlt
    have J' := long_step hxy hR J hlt
    rw [← hrows] at J'
    obtain ⟨S2, e2, A2, f2⟩ := t_step (o := dVar 4) (ρ := E (some d)) A J.ok (by rw [hrows]; exact longOk hR.2 _ _) (by rw [J.done]; omega) (by rw [J.ck]; decide) (fun _ => by
      rw [rlen, J.at_]
      split
      · omega
      · split <;> omega) rfl
    refine ⟨_, S, _, S2, rfl, .inl ?_, _, some d, A2, by rw [Nat.zero_add]; exact J', rfl⟩
    show dExpr (dMeth "Plain" "step" F_Plain_step [] (dVar 4) aNil) (E (some d)) S = _
    simp only [v_expr, e2])
  rw [Nat.zero_add, len_rgD] at J5
  have hg5 := J5.gone
  have ha5 := J5.at_
  rw [if_pos rfl] at hg5
  rw [if_neg (by omega), if_pos rfl] at ha5
  have t1 := t_stands (o := dVar 4) (ρ := E x5) A5 rfl
  have t2 := t_ended (o := dVar 4) (ρ := E x5) A5 rfl
  have t3 := t_box (o := dVar 4) (e := dVar 6) (x := x) (ρ := E x5) A5 rfl rfl
  have t4 := t_count (o := dVar 4) (ρ := E x5) A5 rfl
  rw [ha5] at t1
  rw [J5.res] at t2
  rw [J5.wx] at t3
  rw [J5.done] at t4
  have hr : rows[st.at_]? = some (.endr (.x x)) := by rw [ha5, hrows] <;> rfl
  have hs := step_none (coming := []) J5.res hr
  obtain ⟨S6, e6, A6, f6⟩ := t_step (o := dVar 4) (ρ := E x5) A5 J5.ok (by rw [hrows]; exact longOk hR.2 _ _) (by rw [J5.done]; omega) (by rw [J5.ck]; decide) (fun _ => by rw [ha5, rlen]; decide) rfl
  rw [hs] at A6
  have t7 := t_ended (o := dVar 4) (ρ := E x5) A6 rfl
  have t8 := t_answer (o := dVar 4) (ρ := E x5) A6 rfl
  have t9 := t_sent (o := dVar 4) (ρ := E x5) A6 rfl
  have hres : (stepOf [] st (.endr (.x x))).res = some (R : Int) := by
    show some (st.worth (.x x)) = _
    rw [J5.wx]
    congr 2
    omega
  have hgone : (stepOf [] st (.endr (.x x))).gone = [0] := hg5
  rw [hres] at t7 t8
  rw [hgone] at t9
  have q9 := eq_cell (S := S6 ++ [Cell.lst (([0] : List Int).map .int)]) (ws := [0]) (get_len _ _) false
  refine pureOf_of (S' := S6 ++ [.lst [.int 0]]) ?_ rfl
  have s0 : dAsg (dSl pSl (dVar 0) oNone (oSome (dC (.int 2)))) (gLstD 2 (gsCons (gSet 6) (gsCons (gSet 7) gsNil))) [some N, some (.int c), none, none, none, none, none, none] [] = some (.nx [some N, some (.int c), none, none, none, none, some (.str x), some (.str y)] []) := by
    have : dSl pSl (dVar 0) oNone (oSome (dC (.int 2))) [some N, some (.int c), none, none, none, none, none, none] [] = some (.lst .own [.str x, .str y], []) := by
      rw [hN]
      show some (DV.lst .own (Dn.cutD ((x :: y :: rest).map .str) none (some 2)), []) = _
      rw [cut_to (by decide)]
      rfl
    unfold dAsg
    rw [this]
    rfl
  have s1 : dSet 2 (dBin pAdd (dC (.int 100)) (dBin pMod (dVar 1) (dC (.int 801)))) [some N, some (.int c), none, none, none, none, some (.str x), some (.str y)] [] = some (.nx [some N, some (.int c), some (.int R), none, none, none, some (.str x), some (.str y)] []) := by
    simp [v_modI, hRc]
  have s2 : dSet 3 (dPrim pTup (aCons (dPrim pTup (aCons (dC (.str "op")) (aCons (dVar 6) (aCons (dC (.str "+")) (aCons (dVar 6) (aCons (dC (.int 1)) aNil)))))) (aCons (dPrim pTup (aCons (dC (.str "op")) (aCons (dVar 7) (aCons (dC (.str "<")) (aCons (dVar 6) (aCons (dVar 2) aNil)))))) (aCons (dPrim pTup (aCons (dC (.str "if")) (aCons (dVar 7) (aCons (dC (.int 0)) aNil)))) (aCons (dPrim pTup (aCons (dC (.str "say")) (aCons (dVar 7) aNil))) (aCons (dPrim pTup (aCons (dC (.str "end")) (aCons (dVar 6) aNil))) aNil)))))) [some N, some (.int c), some (.int R), none, none, none, some (.str x), some (.str y)] [] = some (.nx [some N, some (.int c), some (.int R), some (.tup (rows.map PRow.d)), none, none, some (.str x), some (.str y)] []) := by
    rw [hrows]
    rfl
  have s3 : dSet 4 (dMake "Plain" F_Plain_init [] (aCons (dPrim pTup (aCons (dPrim pTup aNil) (aCons (dPrim pTup aNil) (aCons (dVar 3) aNil)))) (aCons (dPrim pLst aNil) aNil))) [some N, some (.int c), some (.int R), some (.tup (rows.map PRow.d)), none, none, some (.str x), some (.str y)] [] = some (.nx (E none) T) := by
    have : dMake "Plain" F_Plain_init [] (aCons (dPrim pTup (aCons (dPrim pTup aNil) (aCons (dPrim pTup aNil) (aCons (dVar 3) aNil)))) (aCons (dPrim pLst aNil) aNil)) [some N, some (.int c), some (.int R), some (.tup (rows.map PRow.d)), none, none, some (.str x), some (.str y)] [] = some (.loc 0, T) := by
      have args : aCons (dPrim pTup (aCons (dPrim pTup aNil) (aCons (dPrim pTup aNil) (aCons (dVar 3) aNil)))) (aCons (dPrim pLst aNil) aNil) [some N, some (.int c), some (.int R), some (.tup (rows.map PRow.d)), none, none, some (.str x), some (.str y)] [] = some ([progD [] [] rows, .lst .own []], []) := rfl
      unfold dMake
      simp only [args]
      show (match F_Plain_init [.loc 0, progD [] [] rows, .lst .own []] [.ins "Plain" []] with | some (.non, S2) => some (DV.loc 0, S2) | _ => none) = _
      rw [ei]
    rw [v_set, this]
    rfl
  have rg : iRange1 (aCons (dBin pAdd (dBin pMul (dC (.int 3)) (dVar 2)) (dC (.int 1))) aNil) (E none) T = some (rgD 0 (3 * R + 1), T) := by
    have m : ∀ {S : Sto}, pMul (.int 3) (.int (R : Int)) S = some (.int (3 * (R : Int)), S) := v_mulIl (by decide)
    have v2 : dVar 2 (E none) T = some (.int (R : Int), T) := rfl
    unfold iRange1
    simp only [v_cons, v_nil, v_bin, v_c, v2, m, v_addI]
    have e : (3 * (R : Int) + 1).toNat = 3 * R + 1 := by omega
    simp [e]
    omega
  have hw : ((min ((3 * R + 1 + 2) / 3) R : Nat) : Int) = R := by omega
  have hd : (((3 * R + 1 : Nat)) : Int) = 3 * (R : Int) + 1 := by omega
  rw [hw] at t3
  rw [hd] at t4
  have m : ∀ {S : Sto}, pMul (.int 3) (.int (R : Int)) S = some (.int (3 * (R : Int)), S) := v_mulIl (by decide)
  have v2 : dVar 2 (E x5) S5 = some (.int (R : Int), S5) := rfl
  have s5 : dIfS (dOr (dBin (pEq true) (dMeth "Plain" "stands" F_Plain_stands [] (dVar 4) aNil) (dC (.int 4))) (dOr (dBin (pIsB true) (dMeth "Plain" "ended" F_Plain_ended [] (dVar 4) aNil) (dC (.bl false))) (dOr (dBin (pEq true) (dMeth "Plain" "box" F_Plain_box [] (dVar 4) (aCons (dVar 6) aNil)) (dVar 2)) (dBin (pEq true) (dMeth "Plain" "count" F_Plain_count [] (dVar 4) aNil) (dBin pAdd (dBin pMul (dC (.int 3)) (dVar 2)) (dC (.int 1))))))) (dRet (dC (.bl false))) dNext (E x5) S5 = some (.nx (E x5) S5) := by
    have pe : pIsB true (.bl false) (.bl false) S5 = some (.bl false, S5) := rfl
    have i4 : pEq true (.int ((4 : Nat) : Int)) (.int 4) S5 = some (.bl false, S5) := rfl
    simp only [v_ifS, Dn.v_or, v_bin, t1, t2, t3, t4, v2, v_c, m, v_addI, Option.isSome_none, pe, i4, v_neI, decide_true, Bool.not_true, v_next]
  have s6 : dExpr (dMeth "Plain" "step" F_Plain_step [] (dVar 4) aNil) (E x5) S5 = some (.nx (E x5) S6) := by
    simp only [v_expr, e6]
  have s7 : dRet (dAnd (dBin (pIsB false) (dMeth "Plain" "ended" F_Plain_ended [] (dVar 4) aNil) (dC (.bl true))) (dAnd (dBin (pEq false) (dMeth "Plain" "answer" F_Plain_answer [] (dVar 4) aNil) (dVar 2)) (dBin (pEq false) (dMeth "Plain" "sent" F_Plain_sent [] (dVar 4) aNil) (dPrim pLst (aCons (dC (.int 0)) aNil))))) (E x5) S6 = some (.rt (.bl true) (S6 ++ [.lst [.int 0]])) := by
    have v2 : dVar 2 (E x5) S6 = some (.int (R : Int), S6) := rfl
    have pe : pIsB false (.bl true) (.bl true) S6 = some (.bl true, S6) := rfl
    have pq : pEq false (optI (some (R : Int))) (.int (R : Int)) S6 = some (.bl true, S6) := by
      show some (DV.bl (decide ((R : Int) = R)), S6) = _
      rw [decide_eq_true rfl]
    simp only [List.map_cons, List.map_nil] at t9 q9
    have pl : dPrim pLst (aCons (dC (.int 0)) aNil) (E x5) (S6 ++ [.lst [.int 0]]) = some (.lst .own [.int 0], S6 ++ [.lst [.int 0]]) := rfl
    simp only [v_ret, Dn.v_and, v_bin, t7, t8, t9, v2, v_c, Option.isSome_some, pe, pq, pl, q9]
    rfl
  unfold F_law_long b_law_long runF
  show (match (dSeq _ _ [some N, some (.int c), none, none, none, none, none, none] [] : Option Out) with | some (.rt d S') => some (d, S') | some (.nx _ S') => some (.non, S') | _ => none) = _
  rw [v_seq, show dAsg _ _ _ _ = _ from s0]
  simp only
  rw [v_seq, s1]
  simp only
  rw [v_seq, s2]
  simp only
  rw [v_seq, s3]
  simp only
  rw [v_seq, v_for, rg]
  simp only
  rw [el]
  simp only
  rw [v_seq, s5]
  simp only
  rw [v_seq, s6]
  simp only
  rw [s7]
end Lk24

namespace Lk24
open PySem PySem.Spec PyProof.Rows L2 Dn
theorem program_ok (zs : List Int) (hz : zs.length ≤ 100) {bl : List Str} {cells : List (Str × Int × Bool)} {shelves : List (Str × Nat × Bool)} {lets : List Int} (W : Wld bl cells shelves lets) (dg : Bool) (last : Atm) :
    ∃ rs : List PRow, rs.length = zs.length ∧ (∀ r ∈ rs, r.Ok (cells.map fun c => .inr c.1) (shelves.map fun c => .inr c.1) ∧ rLed (zs.length + 1) r) ∧ pureOf F_law_program [.lst .own (zs.map .int), worldD bl cells shelves lets dg, last.d] = some (progD cells shelves (rs ++ [.endr last])) := by
  let ρ : List (Option DV) := [some (.lst .own (zs.map .int)), some (worldD bl cells shelves lets dg), some last.d, none, none]
  have hr : iRange1 (aCons (dPrim pLen (aCons (dVar 0) aNil)) aNil) ρ [] = some (rgD 0 zs.length, []) := by
    unfold iRange1
    simp [ρ]
    omega
  obtain ⟨ys, hys, h2⟩ := lcL_ex (g := gSet 4) (c := dC (.bl true)) (fe := dPrim (cP (pureOf F_law_row) []) (aCons (dBin pIx (dVar 0) (dVar 4)) (aCons (dVar 4) (aCons (dBin pAdd (dPrim pLen (aCons (dVar 0) aNil)) (dC (.int 1))) (aCons (dVar 1) aNil))))) (ρ := dwipe ρ [4]) (S := []) (P := fun _ y => ∃ r : PRow, y = r.d ∧ (r.Ok (cells.map fun c => .inr c.1) (shelves.map fun c => .inr c.1) ∧ rLed (zs.length + 1) r)) (ds := rgD 0 zs.length) fun d hd => by
    obtain ⟨k, hk, rfl⟩ := mem_rgD hd
    obtain ⟨r, hr, ok⟩ := row_ok (zs.getD k 0) k (zs.length + 1) (by omega) bl W.b0 cells W.c0 shelves W.s0 lets dg
    refine ⟨_, r.d, rfl, rfl, ?_, r, rfl, ok⟩
    have hx := xs_at (xs := zs) (k := k) hk (S := [])
    have e : ((zs.length + 1 : Nat) : Int) = (zs.length : Int) + 1 := by omega
    rw [e] at hr
    have p1 : plainL [DV.int (zs.getD k 0), .int (k : Int), .int ((zs.length : Int) + 1), worldD bl cells shelves lets dg] = true := by
      have p := world_plain (bl := bl) (cells := cells) (shelves := shelves) (lets := lets) (dg := dg)
      generalize worldD bl cells shelves lets dg = wd at p
      simp [p]
    have c1 : cP (pureOf F_law_row) [] [DV.int (zs.getD k 0), .int (k : Int), .int ((zs.length : Int) + 1), worldD bl cells shelves lets dg] [] = some (r.d, []) := by
      generalize worldD bl cells shelves lets dg = wd at p1 hr
      simp only [cP_eq, List.append_nil, cpL_plain p1, hr]
    have args : aCons (dBin pIx (dVar 0) (dVar 4)) (aCons (dVar 4) (aCons (dBin pAdd (dPrim pLen (aCons (dVar 0) aNil)) (dC (.int 1))) (aCons (dVar 1) aNil))) [some (.lst .own (zs.map .int)), some (worldD bl cells shelves lets dg), some last.d, none, some (.int (k : Int))] [] = some ([.int (zs.getD k 0), .int (k : Int), .int ((zs.length : Int) + 1), worldD bl cells shelves lets dg], []) := by
      generalize worldD bl cells shelves lets dg = wd
      simp [hx, -List.getD_eq_getElem?_getD]
    have ez : (0 : Int) + (k : Nat) = (k : Int) := by omega
    rw [ez]
    show dPrim _ _ [some (.lst .own (zs.map .int)), some (worldD bl cells shelves lets dg), some last.d, none, some (.int (k : Int))] [] = _
    rw [v_prim]
    simp only [args, c1]
  have yl : ys.length = zs.length := by
    have := h2.len
    rw [len_rgD] at this
    exact this.symm
  obtain ⟨rs, rfl, hrs⟩ := rows_of h2
  rw [List.length_map] at yl
  refine ⟨rs, yl, hrs, pureOf_of (S' := []) ?_ ?_⟩
  · have e3 := dLc_of hr hys (size_ok (by rw [List.length_map]; omega))
    have hzz : rs.length + 1 ≤ 16777216 := by omega
    unfold F_law_program b_law_program runF
    show (match (dSeq _ _ ρ [] : Option Out) with | some (.rt d S') => some (d, S') | some (.nx _ S') => some (.non, S') | _ => none) = _
    rw [v_seq, v_set, e3]
    simp [ρ, hzz, progD, PRow.d]
  · have pc := cells_plain (cells := cells)
    have ps := shelves_plain (cells := shelves)
    have pr : plainL ((rs ++ [PRow.endr last]).map PRow.d) = true := plainL_iff.mpr fun d h => by
      obtain ⟨c, _, rfl⟩ := List.mem_map.mp h
      exact PRow.plain_d
    unfold progD
    generalize (rs ++ [PRow.endr last]).map PRow.d = rr at pr ⊢
    simp [pc, ps, pr]
theorem law_true (ns : List Int) (hl : ns.length ≤ 63) : ∃ S', F_law [.lst .ext (ns.map DV.int)] [] = some (.bl true, S') := by
  have a0 : pureOf F_law_cell_at [.lst .ext (ns.map DV.int), .int 0] = some (.int (ns.getD 0 0)) := at_cell
  have a3 : pureOf F_law_cell_at [.lst .ext (ns.map DV.int), .int 3] = some (.int (ns.getD 3 0)) := at_cell (k := 3)
  have a4 : pureOf F_law_cell_at [.lst .ext (ns.map DV.int), .int 4] = some (.int (ns.getD 4 0)) := at_cell (k := 4)
  generalize ns.getD 0 0 = c0 at a0
  generalize ns.getD 3 0 = c3 at a3
  generalize ns.getD 4 0 = c4 at a4
  obtain ⟨bl, cells, shelves, lets, dg, W, hw⟩ := world_ok ns
  have nq := names_eq c0 24 (by decide)
  have nq : pureOf F_law_names [.int c0, .int 24] = some (.lst .own (((List.range 24).map fun k => nmK c0 k).map .str)) := by
    rw [List.map_map]
    exact nq
  obtain ⟨x, y, rest, hnl, hxy⟩ : ∃ x y rest, (List.range 24).map (fun k => nmK c0 k) = x :: y :: rest ∧ x ≠ y := ⟨_, _, _, rfl, fun q => by
    have := nm_inj (c := c0) (i := 0) (j := 1) (by decide) (by decide) q
    exact absurd this (by decide)⟩
  have nlen : ((List.range 24).map fun k => nmK c0 k).length = 24 := by simp
  rw [hnl] at nq nlen
  generalize hnames : x :: y :: rest = nl at nq nlen
  obtain ⟨last, hlast, Olast⟩ := atom_ok (c3 % 2 ^ 44) bl W.b0
  -- the rows
  obtain ⟨zs, hzs⟩ : ∃ zs : List Int, Dn.cutD (ns.map DV.int) (some 5) (some 55) = zs.map .int := ⟨_, by
    unfold Dn.cutD
    rw [← List.map_drop, ← List.map_take]⟩
  have zl : zs.length ≤ 63 := by
    have := cutD_len (xs := ns.map DV.int) (l := some 5) (u := some 55)
    rw [hzs, List.length_map, List.length_map] at this
    omega
  obtain ⟨rs, rl, hrs, hprog⟩ := program_ok zs (by omega) W dg last
  let rows : List PRow := rs ++ [.endr last]
  have rowsl : rows.length = zs.length + 1 := by simp [rows, rl]
  have ssz' : ∀ c ∈ shelves, c.2.1 ≤ 1000 := fun c h => by have := (W.sz c h).2; omega
  obtain ⟨cnd, snd, _⟩ := List.nodup_append.mp W.nd
  have c8 := W.c8
  have s4 := W.s4
  have ll := W.ll
  obtain ⟨T1, e1, T1l, A1⟩ := init_ok [] cells shelves rows lets (.lst .own (lets.map .int)) (fun _ => rfl) cnd snd (by omega) (by omega) ssz' (by omega)
  simp only [List.nil_append, List.length_nil] at e1 T1l A1
  obtain ⟨T2, e2, T2l, N2⟩ := begun_ok T1 cells shelves rows lets W.nd (by omega) (by omega) ssz'
  have O0 : (st0 cells shelves).Ok := ⟨rfl, fun _ h => (by cases h), by simp [st0], fun v h => by
    obtain ⟨c, hc', rfl⟩ := List.mem_map.mp h
    exact W.ci c hc', by simp [st0], fun l h => by
    obtain ⟨c, hc', rfl⟩ := List.mem_map.mp h
    have := W.sz c hc'
    refine ⟨fun q => ?_, ?_, fun v hv => ?_⟩
    · have := congrArg List.length q
      simp [noughts] at this
      omega
    · simp [noughts]
      omega
    · rw [List.eq_of_mem_replicate hv]
      exact in0, Nat.le_refl _, Nat.le_refl _⟩
  have hok : ∀ r ∈ rows, r.Ok (cells.map fun c => .inr c.1) (shelves.map fun c => .inr c.1) := fun r h => by
    rcases List.mem_append.mp h with h | h
    · exact (hrs r h).1
    · rw [List.mem_singleton.mp h]
      exact Olast
  have hin : ∀ j r, rows[j]? = some r → rIn rows.length j r := fun j r h => by
    by_cases q : j < rs.length
    · have h : rs[j]? = some r := by rwa [List.getElem?_append_left q] at h
      refine ⟨by rw [rowsl]; exact (hrs r (List.mem_of_getElem? h)).2, fun _ _ => trivial, .inr (by omega)⟩
    · have h : [PRow.endr last][j - rs.length]? = some r := by rwa [List.getElem?_append_right (by omega)] at h
      have := List.mem_of_getElem? h
      rw [List.mem_singleton.mp this]
      exact ⟨trivial, fun _ _ => trivial, .inl ⟨_, rfl⟩⟩
  let L := L0 0 shelves.length
  let x0 : Option DV := some (.lst .ext (ns.map DV.int))
  let x1 : Option DV := some (worldD bl cells shelves lets dg)
  have I0 : Inv24 (T1 ++ T2) L rows lets (N0 T1.length (cells.length + shelves.length)) (cells.map fun c => .inr c.1) (shelves.map fun c => .inr c.1) T1.length T1.length (st0 cells shelves) 0 := by
    refine ⟨⟨A1.app, N2, O0⟩, rfl, fun j hj => ?_, fun j hj => (N0_fp _ _ _ hj).1, by rw [List.length_append]; omega, rfl, rfl, by show 0 < rows.length; omega, Nat.le_refl _, Nat.le_refl _⟩
    have := (L0_fp _ _ _ hj).2
    omega
  obtain ⟨ρ', S5, el, st, N, x6, I5, rfl⟩ := forL_inv (g := gSet 6) (body := B1) (I := fun i ρ S => ∃ st N x6, Inv24 S L rows lets N (cells.map fun c => .inr c.1) (shelves.map fun c => .inr c.1) T1.length T1.length st i ∧ ρ = En x0 x1 nl cells shelves rows L.o T1.length x6 none) (ds := rgD 0 80) (k := 0) (ρ := En x0 x1 nl cells shelves rows L.o T1.length none none) (S := T1 ++ T2) ⟨_, _, none, I0, rfl⟩ (fun i d ρ S hd hi => by
    obtain ⟨st, N, x6, A, rfl⟩ := hi
    rw [Nat.zero_add] at A
    have hlt := (List.getElem?_eq_some_iff.mp hd).1
    rw [len_rgD] at hlt
    obtain ⟨S', st', N', e, A'⟩ := turn_ok A nl hok hin hlt W.li (by omega) (by omega) (by omega) (by omega) (x0 := x0) (x1 := x1) (x6 := some d) (x7 := none)
    exact ⟨_, S, _, S', rfl, .inl e, st', N', some d, by rw [Nat.zero_add]; exact A', rfl⟩)
  rw [Nat.zero_add, len_rgD] at I5
  have hgl := I5.t.ok.gd
  have hdn := I5.done
  obtain ⟨T6, e6⟩ := same_ok I5.t nl cells shelves rows I5.ck I5.sk (by omega) (by omega)
  rw [I5.w] at e6
  have hlong := long_ok x y rest hxy (c4 / 6)
  rw [hnames] at hlong
  refine ⟨S5 ++ T6, ?_⟩
  have s1 : dSet 1 (dPrim (cP (pureOf F_law_world) []) (aCons (dVar 0) aNil)) [x0, none, none, none, none, none, none, none] [] = some (.nx [x0, x1, none, none, none, none, none, none] []) := by
    have args : aCons (dVar 0) aNil [x0, none, none, none, none, none, none, none] [] = some ([.lst .ext (ns.map DV.int)], []) := rfl
    have p0 : plainL [DV.lst .ext (ns.map DV.int)] = true := by simp
    have c1 : cP (pureOf F_law_world) [] [DV.lst .ext (ns.map DV.int)] [] = some (worldD bl cells shelves lets dg, []) := by
      generalize worldD bl cells shelves lets dg = wd at hw
      simp [cpL_plain p0, hw]
    rw [v_set, v_prim]
    simp only [args, c1]
    rfl
  have s2 : dSet 2 (dPrim (cP (pureOf F_law_names) []) (aCons (dPrim (cP (pureOf F_law_cell_at) []) (aCons (dVar 0) (aCons (dC (.int 0)) aNil))) (aCons (dC (.int 24)) aNil))) [x0, x1, none, none, none, none, none, none] [] = some (.nx [x0, x1, some (.lst .own (nl.map .str)), none, none, none, none, none] []) := by
    clear_value x1
    simp [x0, cpL_plain, a0, nq]
  have p44' : pPow (.int 2) (.int 44) ([] : Sto) = some (.int (2 ^ 44), []) := p44
  have hm3 : pMod (.int c3) (.int (2 ^ 44)) ([] : Sto) = some (.int (c3 % 2 ^ 44), []) := v_modI (by decide)
  have sa : dPrim (cP (pureOf F_law_atom) []) (aCons (dBin pMod (dPrim (cP (pureOf F_law_cell_at) []) (aCons (dVar 0) (aCons (dC (.int 3)) aNil))) (dBin pPow (dC (.int 2)) (dC (.int 44)))) (aCons (dBin pIx (dVar 1) (dC (.int 0))) aNil)) [x0, x1, some (.lst .own (nl.map .str)), none, none, none, none, none] [] = some (last.d, []) := by
    have v0 : dVar 0 [x0, x1, some (.lst .own (nl.map .str)), none, none, none, none, none] [] = some (.lst .ext (ns.map DV.int), []) := rfl
    have v1 : dVar 1 [x0, x1, some (.lst .own (nl.map .str)), none, none, none, none, none] [] = some (worldD bl cells shelves lets dg, []) := rfl
    have i0 : pIx (worldD bl cells shelves lets dg) (.int 0) ([] : Sto) = some (.lst .own (bl.map .str), []) := rfl
    have p0 : plainL [DV.lst .ext (ns.map DV.int), .int 3] = true := by simp
    have p1 : plainL [DV.int (c3 % 2 ^ 44), .lst .own (bl.map .str)] = true := by
      have p : plainL (bl.map DV.str) = true := plainL_strs
      simp [p]
    have c1 : cP (pureOf F_law_cell_at) [] [DV.lst .ext (ns.map DV.int), .int 3] [] = some (.int c3, []) := by
      simp [cpL_plain p0, a3]
    have c2 : cP (pureOf F_law_atom) [] [DV.int (c3 % 2 ^ 44), .lst .own (bl.map .str)] [] = some (last.d, []) := by
      generalize c3 % 2 ^ 44 = z at p1 hlast
      simp [cpL_plain p1, hlast]
    simp only [v_prim, v_cons, v_nil, v_bin, v0, v1, i0, v_c, c1, p44', hm3, c2]
  have s3 : dSet 3 (dPrim (cP (pureOf F_law_program) []) (aCons (dSl pSl (dVar 0) (oSome (dC (.int 5))) (oSome (dC (.int 55)))) (aCons (dVar 1) (aCons (dPrim (cP (pureOf F_law_atom) []) (aCons (dBin pMod (dPrim (cP (pureOf F_law_cell_at) []) (aCons (dVar 0) (aCons (dC (.int 3)) aNil))) (dBin pPow (dC (.int 2)) (dC (.int 44)))) (aCons (dBin pIx (dVar 1) (dC (.int 0))) aNil))) aNil)))) [x0, x1, some (.lst .own (nl.map .str)), none, none, none, none, none] [] = some (.nx [x0, x1, some (.lst .own (nl.map .str)), some (progD cells shelves rows), none, none, none, none] []) := by
    have v1 : dVar 1 [x0, x1, some (.lst .own (nl.map .str)), none, none, none, none, none] [] = some (worldD bl cells shelves lets dg, []) := rfl
    have sl : dSl pSl (dVar 0) (oSome (dC (.int 5))) (oSome (dC (.int 55))) [x0, x1, some (.lst .own (nl.map .str)), none, none, none, none, none] [] = some (.lst .own (zs.map .int), []) := by
      rw [← hzs]
      rfl
    have p1 : plainL [DV.lst .own (zs.map .int), worldD bl cells shelves lets dg, last.d] = true := by
      have p : plainL (zs.map DV.int) = true := plainL_ints
      have pw := world_plain (bl := bl) (cells := cells) (shelves := shelves) (lets := lets) (dg := dg)
      generalize worldD bl cells shelves lets dg = wd at pw
      simp [p, pw]
    have c1 : cP (pureOf F_law_program) [] [DV.lst .own (zs.map .int), worldD bl cells shelves lets dg, last.d] [] = some (progD cells shelves rows, []) := by
      have hprog : pureOf F_law_program [.lst .own (zs.map .int), worldD bl cells shelves lets dg, last.d] = some (progD cells shelves rows) := hprog
      generalize progD cells shelves rows = pd at hprog
      generalize worldD bl cells shelves lets dg = wd at p1 hprog
      simp [cpL_plain p1, hprog]
    rw [v_set, v_prim, v_cons]
    simp only [sl]
    rw [v_cons, v1]
    simp only
    rw [v_cons, sa]
    simp only [v_nil, c1]
    rfl
  have s4 : dSet 4 (dMake "Plain" F_Plain_init [] (aCons (dVar 3) (aCons (dBin pIx (dVar 1) (dC (.int 3))) aNil))) [x0, x1, some (.lst .own (nl.map .str)), some (progD cells shelves rows), none, none, none, none] [] = some (.nx [x0, x1, some (.lst .own (nl.map .str)), some (progD cells shelves rows), some (.loc 0), none, none, none] T1) := by
    have args : aCons (dVar 3) (aCons (dBin pIx (dVar 1) (dC (.int 3))) aNil) [x0, x1, some (.lst .own (nl.map .str)), some (progD cells shelves rows), none, none, none, none] [] = some ([progD cells shelves rows, .lst .own (lets.map .int)], []) := rfl
    have : dMake "Plain" F_Plain_init [] (aCons (dVar 3) (aCons (dBin pIx (dVar 1) (dC (.int 3))) aNil)) [x0, x1, some (.lst .own (nl.map .str)), some (progD cells shelves rows), none, none, none, none] [] = some (.loc 0, T1) := by
      unfold dMake
      simp only [args]
      show (match F_Plain_init [.loc 0, progD cells shelves rows, .lst .own (lets.map .int)] [.ins "Plain" []] with | some (.non, S2) => some (DV.loc 0, S2) | _ => none) = _
      rw [e1]
    rw [v_set, this]
    rfl
  have s5 : dSet 5 (dPrim (cS F_law_begun []) (aCons (dVar 3) (aCons (dBin pIx (dVar 1) (dC (.int 3))) aNil))) [x0, x1, some (.lst .own (nl.map .str)), some (progD cells shelves rows), some (.loc 0), none, none, none] T1 = some (.nx (En x0 x1 nl cells shelves rows 0 T1.length none none) (T1 ++ T2)) := by
    have args : aCons (dVar 3) (aCons (dBin pIx (dVar 1) (dC (.int 3))) aNil) [x0, x1, some (.lst .own (nl.map .str)), some (progD cells shelves rows), some (.loc 0), none, none, none] T1 = some ([progD cells shelves rows, .lst .own (lets.map .int)], T1) := rfl
    rw [v_set, v_prim]
    simp only [args, cS, List.append_nil, e2]
    rfl
  have s6 : dIfS (dNot (dPrim (cS F_law_same []) (aCons (dVar 4) (aCons (dVar 5) (aCons (dVar 3) (aCons (dVar 2) aNil)))))) (dRet (dC (.bl false))) dNext (En x0 x1 nl cells shelves rows 0 T1.length x6 none) S5 = some (.nx (En x0 x1 nl cells shelves rows 0 T1.length x6 none) (S5 ++ T6)) := by
    have args : aCons (dVar 4) (aCons (dVar 5) (aCons (dVar 3) (aCons (dVar 2) aNil))) (En x0 x1 nl cells shelves rows 0 T1.length x6 none) S5 = some ([.loc 0, .loc T1.length, progD cells shelves rows, .lst .own (nl.map .str)], S5) := rfl
    have e6 : F_law_same [.loc 0, .loc T1.length, progD cells shelves rows, .lst .own (nl.map .str)] S5 = some (.bl true, S5 ++ T6) := e6
    rw [v_ifS, Dn.v_not, v_prim]
    simp only [args, cS, List.append_nil, e6]
    rfl
  have s7 : dSet 7 (dPrim (cP (pureOf F_law_cell_at) []) (aCons (dVar 0) (aCons (dC (.int 4)) aNil))) (En x0 x1 nl cells shelves rows 0 T1.length x6 none) (S5 ++ T6) = some (.nx (En x0 x1 nl cells shelves rows 0 T1.length x6 (some (.int c4))) (S5 ++ T6)) := by
    have args : aCons (dVar 0) (aCons (dC (.int 4)) aNil) (En x0 x1 nl cells shelves rows 0 T1.length x6 none) (S5 ++ T6) = some ([.lst .ext (ns.map DV.int), .int 4], S5 ++ T6) := rfl
    have p0 : plainL [DV.lst .ext (ns.map DV.int), .int 4] = true := by simp
    have c1 : cP (pureOf F_law_cell_at) [] [DV.lst .ext (ns.map DV.int), .int 4] (S5 ++ T6) = some (.int c4, S5 ++ T6) := by
      simp [cpL_plain p0, a4]
    rw [v_set, v_prim]
    simp only [args, c1]
    rfl
  have s8 : dRet (dOr (dBin (pEq true) (dBin pMod (dVar 7) (dC (.int 6))) (dC (.int 1))) (dPrim (cP (pureOf F_law_long) []) (aCons (dVar 2) (aCons (dBin pDiv (dVar 7) (dC (.int 6))) aNil)))) (En x0 x1 nl cells shelves rows 0 T1.length x6 (some (.int c4))) (S5 ++ T6) = some (.rt (.bl true) (S5 ++ T6)) := by
    have v7 : dVar 7 (En x0 x1 nl cells shelves rows 0 T1.length x6 (some (.int c4))) (S5 ++ T6) = some (.int c4, S5 ++ T6) := rfl
    have v2 : dVar 2 (En x0 x1 nl cells shelves rows 0 T1.length x6 (some (.int c4))) (S5 ++ T6) = some (.lst .own (nl.map .str), S5 ++ T6) := rfl
    have p1 : plainL [DV.lst .own (nl.map .str), .int (c4 / 6)] = true := by
      have p : plainL (nl.map DV.str) = true := plainL_strs
      simp [p]
    have c1 : cP (pureOf F_law_long) [] [DV.lst .own (nl.map .str), .int (c4 / 6)] (S5 ++ T6) = some (.bl true, S5 ++ T6) := by
      simp [cpL_plain p1, hlong]
    have hm : pMod (.int c4) (.int 6) (S5 ++ T6) = some (.int (c4 % 6), S5 ++ T6) := v_modI (by decide)
    have hd : pDiv (.int c4) (.int 6) (S5 ++ T6) = some (.int (c4 / 6), S5 ++ T6) := v_divI (by decide) (by decide)
    rw [v_ret, Dn.v_or]
    simp only [v_bin, v7, v_c, hm, v_neI]
    by_cases q : c4 % 6 = 1
    · rw [decide_eq_true q]
      simp only [Bool.not_true, v_prim, v_cons, v_nil, v_bin, v2, v7, v_c, hd, c1]
    · rw [decide_eq_false q]
      simp only [Bool.not_false]
  unfold F_law b_law runF
  show (match (dSeq _ _ [x0, none, none, none, none, none, none, none] [] : Option Out) with | some (.rt d S') => some (d, S') | some (.nx _ S') => some (.non, S') | _ => none) = _
  rw [v_seq, s1]
  simp only
  rw [v_seq, s2]
  simp only
  rw [v_seq, s3]
  simp only
  rw [v_seq, s4]
  simp only
  rw [v_seq, s5]
  simp only
  rw [v_seq, v_for, show iRange1 (aCons (dC (.int 80)) aNil) (En x0 x1 nl cells shelves rows 0 T1.length none none) (T1 ++ T2) = some (rgD 0 80, T1 ++ T2) from rfl]
  simp only
  rw [show forL (gSet 6) B1 (rgD 0 80) (En x0 x1 nl cells shelves rows 0 T1.length none none) (T1 ++ T2) = some (.nx (En x0 x1 nl cells shelves rows 0 T1.length x6 none) S5) from el]
  simp only
  rw [v_seq, show dIfS _ _ _ _ S5 = _ from s6]
  simp only
  rw [v_seq, show dSet 7 _ _ (S5 ++ T6) = _ from s7]
  simp only
  rw [show dRet _ _ (S5 ++ T6) = _ from s8]
end Lk24

namespace Lk24
open PySem PySem.Spec PyProof.Rows L2 Dn
/-! ### the head -/
abbrev R : PySem.W.OpenRow := PySem.W.OpenLaw.row PySem.Challenge.rw_dimhouse_k24_whole_plain_runs
abbrev hk : PySem.W.Hook := hookX 6 fa fn ex
def ob (s : PySem.W.SharedT) : AlX := obsX 6 fa fn ex (HandSHeadRun.getT s)
theorem ob_eq (s : PySem.W.SharedT) : ob s = hk.obs s.abs := obsX_eq (HandSHeadRun.getT_eq s)
def lo0 : List Str := ["ways_of", "ways", "value", "_law_cell_at", "_law_drawn", "_law_names", "_law_value_by", "_law_atom", "_law_world", "_law_led", "_law_row", "_law_program", "_law_value", "_law_worth", "_law_brought", "_law_done", "_law_begun", "_law_long", "_law_wholes", "_law_same", "Plain", "WIDE"]
def loose : List Str := lo0
theorem run (w : World) : HandSHeadRun.RunEq R (PySem.W.view R.prog [25]) hk ob 3000 loose w := by
  intro os
  kernel_rfl
theorem walk_law {P : Program} {w : World} {K : PySem.W.Frag} {h : Heap} {mg : Str → Option Value} {f : Addr} (X : K.In h) (G : h.Ns mainGlobals mg) (hfa : mg ("law" : Str) = some (.ref f)) (c : He.SaysD fa fn K) (e : ex K = true) :
    ∃ fd : FuncData, (∀ (s : Shared) (v : Value), BindsTo s fd ⟨[v], []⟩ [("_law_script", v)]) ∧ ∀ base : Heap, K.In base → base.Ns mainGlobals mg → FnOk P w K mg base CX0 6 f fd ["_law_script"] (spS K 1 F_law) := by
  have Y : Fx K mg := ⟨⟨h, X, G⟩, c, e⟩
  obtain ⟨fd, FD⟩ := Y.c.def_ 34 (d := d_law) rfl
  have e0 := hfa.symm.trans (Y.glo 20)
  cases e0
  have b := FunD.bindsA (ps := ["_law_script"]) FD fun _ _ _ _ _ _ us hl => match us, hl with | [_], _ => rfl
  exact ⟨fd, fun s v => b s [v] rfl, fun base _ _ => ok_law_fn FD Y⟩
end Lk24
open PySem PySem.W PySem.Calls PyProof.Rows
set_option maxHeartbeats 0 in
theorem PySem.Challenge.cw_dimhouse_k24_whole_plain_runs_holds : PySem.Challenge.rw_dimhouse_k24_whole_plain_runs.Holds := by
  w_on; o_law
  refine HandSHeadRun.head_any (r := OpenLaw.row PySem.Challenge.rw_dimhouse_k24_whole_plain_runs) (q := view (OpenLaw.row PySem.Challenge.rw_dimhouse_k24_whole_plain_runs).prog [25]) (H := Lk24.hk) (ob := Lk24.ob) (M := 3000) (loose := Lk24.loose) (d := HandSHeadRun.topDef (OpenLaw.row PySem.Challenge.rw_dimhouse_k24_whole_plain_runs).prog 25) (kwd := []) Lk24.ob_eq
    (by kernel_rfl) (fun s => by kernel_rfl) Lk24.run (by kernel_rfl) (by kernel_rfl) (by kernel_rfl) (by rfl) (by first | assumption | decide +kernel) (by decide +kernel) ⟨rfl, rfl, rfl, rfl, rfl, by decide +kernel⟩ ?hw ?hc
  case hw => w_witness2
  case hc =>
    refine L2.walk_ofE (l := PySem.Challenge.rw_dimhouse_k24_whole_plain_runs) (n := 63) (k := 6) (x := "_law_script") (CX := L2.CX0) rfl (by decide) (by kernel_rfl) ⟨rfl, by decide, by decide⟩ ?F (fun _ _ _ _ z => z)
    intro w mg fa h Y G hmg0
    obtain ⟨K, KX, c, e⟩ := Y
    have hmg : mg ("law" : PySem.Str) = some (.ref fa) := by
      have e : (HandSHeadRun.topDef (OpenLaw.row PySem.Challenge.rw_dimhouse_k24_whole_plain_runs).prog 25).name = ("law" : PySem.Str) := by kernel_rfl
      rw [← e]
      exact hmg0
    obtain ⟨fd, hb, hF⟩ := Lk24.walk_law (P := (PySem.Challenge.rw_dimhouse_k24_whole_plain_runs).prog) (w := w) KX G hmg c e
    exact ⟨K, fd, Dn.spS K 1 Lk24.F_law, KX, hb, fun H a ns hl _ hS => Dn.spS_law hS (Lk24.law_true ns hl), hF⟩
