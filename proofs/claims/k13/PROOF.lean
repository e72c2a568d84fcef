import PyProof.Rows.All
import Wide.All
import OpenK.AllK
import Wide.FinOn
import HandS.ForMost
import HandS.Exc
import HandS.CallSlots
import HandS.WordsExc
import HandS.Walk
import HandS.TupAny
import HandS.TupLe
import HandS.Wide
import HandS.WideBits
import HandS.Deep
import HandS.IsInst
import HandS.Strs
import HandS.More
import HandS.Zip
import HandS.Style
import HandS.Property
import HandS.Defaults
import PyProof.ReprReads
import HandS.Spec
import HandS.Ends
import HandS.Iter
import KE.GoesEnum
import HandS.FStr
import HandS.Star
import HandS.ClsMeth
import PyProof.CallStr
import PyProof.Rows.Range3
import PyProof.Conv_bool
import OpenK.KMore
import PyProof.SeqRoads2
import HandS.SetFor
import HandS.Text
import HandS.TupSets
import HandS.SortInts
import HandS.Sort
import HandS.Conv
import PyProof.SeqIndex
import HandS.TryMany
import HandS.ExcInit
import HandS.ExcField
import HandS.HotCalls
import KE.KExcIs
import PyProof.ReprDict
import PyProof.ReprRoads
import PyProof.StrLawsRepr
import PyProof.ReprText
import PyProof.FitsInt
import KE.RegKIsAll
import PySem.Challenge.RW_kindsfollow_k13_whole_places_of_rows
set_option Elab.async false
set_option linter.all false
set_option maxRecDepth 100000
set_option maxHeartbeats 4000000
/-! KFA: data, stores, worlds; what a value is; the judgements. -/
namespace KF
open PySem PySem.Spec PyProof.Rows L2

abbrev St := L2.St
/-- what a Python value is, without addresses -/
inductive D where
  | non | bl (b : Bool) | int (i : Int) | str (x : Str)
  | tup (xs : List D) | lst (xs : List D) | scr (xs : List D)
  | dct (ks : List Key) (xs : List D)
  | ty (n : String) | obj (a : Addr)
  | ins (C : Addr) (ks : List Str) (xs : List D)
  | cell (n : Nat)
  | exn (c : Value) (a dx : Addr) (ks : List Str) (xs : List D)
  deriving Inhabited
/-- what stands in a slot: a value, or a list that only this slot knows and that may grow -/
inductive Sl where
  | v (d : D) | o (xs : List D)
  deriving Inhabited
/-- what stands in a cell of the store -/
inductive Cell where
  | lst (xs : List D) | fro (xs : List D)
  | ins (C : Addr) (ks : List Str) (xs : List D) | fins (C : Addr) (ks : List Str) (xs : List D)
  | dT (ks : List (List Key)) (xs : List D) | dK (ks : List Key) (xs : List D)
  deriving Inhabited
abbrev Store := List Cell
abbrev DSt := List (Option Sl)
structure Exn where
  c : Value
  fs : Option (List Str × List D)
inductive Res (α : Type) where
  | ok (a : α) (S : Store) | err (e : Exn) (S : Store) | bad
inductive SRes where
  | nx (st : DSt) (S : Store) | rt (d : D) (S : Store) | bk (st : DSt) (S : Store) | ct (st : DSt) (S : Store) | err (e : Exn) (st : DSt) (S : Store) | bad
def Res.bind {α β : Type} (r : Res α) (f : α → Store → Res β) : Res β := match r with
  | .ok a S => f a S
  | .err e S => .err e S
  | .bad => .bad
abbrev EM (α : Type) := DSt → Store → Res α
abbrev SM := DSt → Store → SRes

/-- N: the cells' addresses; M: what may be changed (nobody else looks at it); L: of these what stays as it is for now -/
structure Wd where
  N : List Addr
  M : Addr → Prop
  L : Addr → Prop
  H : Hp
structure Wd.ev (W W' : Wd) : Prop where
  n : ∀ (i : Nat) (a : Addr), W.N[i]? = some a → W'.N[i]? = some a
  h : ∀ b o, W.H b = some o → ¬ W.M b → W'.H b = some o ∧ ¬ W'.M b
structure Wd.le (W W' : Wd) : Prop extends W.ev W' where
  l : ∀ b o, W.L b → W.H b = some o → W'.L b ∧ W'.H b = some o
  m : ∀ b o, W.L b → W.H b = some o → W.M b → W'.M b
theorem Wd.le.refl (W : Wd) : W.le W := ⟨⟨fun _ _ h => h, fun _ _ h m => ⟨h, m⟩⟩, fun _ _ l h => ⟨l, h⟩, fun _ _ _ _ m => m⟩
theorem Wd.ev.trans {A B C : Wd} (x : A.ev B) (y : B.ev C) : A.ev C :=
  ⟨fun i a h => y.n i a (x.n i a h), fun b o h m => let ⟨h1, m1⟩ := x.h b o h m; y.h b o h1 m1⟩
theorem Wd.le.trans {A B C : Wd} (x : A.le B) (y : B.le C) : A.le C :=
  ⟨x.toev.trans y.toev, fun b o l h => let ⟨l1, h1⟩ := x.l b o l h; y.l b o l1 h1, fun b o l h m => let ⟨l1, h1⟩ := x.l b o l h; y.m b o l1 h1 (x.m b o l h m)⟩
theorem upd_nn {H : Hp} {a p : Addr} {o : HO} (h : H a ≠ none) : upd H p o a ≠ none := by
  unfold upd
  split
  · simp
  · exact h

def Wrt (K : PySem.W.Frag) (n : String) (a : Addr) (xs : List V) : Prop := ∃ (o : Obj) (its : Array Value) (n' : Nat), K.lookup a = some o ∧ o.cls = .type n ∧ o.dict = none ∧ o.data = .seq its n' ∧ its.size ≤ sizeLine ∧ Vals xs its.toList
def Wd.tupAt (K : PySem.W.Frag) (W : Wd) (a : Addr) (vs : List V) : Prop := ((∃ o : Obj, W.H a = some (.frz o (.tup vs)) ∧ o.dict = none) ∧ ¬ W.M a) ∨ Wrt K "tuple" a vs
def Wd.lstAt (K : PySem.W.Frag) (W : Wd) (a : Addr) (vs : List V) : Prop := (Rd W.H a (.lst vs) ∧ ¬ W.M a) ∨ Wrt K "list" a vs
theorem Wd.tupAt.sq {K : PySem.W.Frag} {W : Wd} {a : Addr} {vs : List V} (h : W.tupAt K a vs) : SqT K W.H a vs := by
  rcases h with ⟨⟨o, h, _⟩, _⟩ | ⟨o, its, n, h1, h2, _, h3, h4, h5⟩
  · exact .inl (.inr ⟨o, h⟩)
  · exact .inr ⟨o, its, n, h1, h2, h3, h4, h5⟩
theorem Wd.lstAt.sq {K : PySem.W.Frag} {W : Wd} {a : Addr} {vs : List V} (h : W.lstAt K a vs) : SqL K W.H a vs := by
  rcases h with ⟨h, _⟩ | ⟨o, its, n, h1, h2, h2', h3, h4, h5⟩
  · exact .inl h
  · exact .inr ⟨o, its, n, h1, h2, h2', h3, h4, h5⟩
theorem rd_mono {W W' : Wd} (l : W.ev W') {a : Addr} {u : HO} (h : Rd W.H a u) (m : ¬ W.M a) : Rd W'.H a u ∧ ¬ W'.M a := by
  rcases h with h | ⟨o, h⟩
  · exact ⟨.inl (l.h _ _ h m).1, (l.h _ _ h m).2⟩
  · exact ⟨.inr ⟨o, (l.h _ _ h m).1⟩, (l.h _ _ h m).2⟩
theorem Wd.tupAt.monoE {K : PySem.W.Frag} {W W' : Wd} {a : Addr} {vs : List V} (l : W.ev W') (h : W.tupAt K a vs) : W'.tupAt K a vs := by
  rcases h with ⟨⟨o, h, d⟩, m⟩ | h
  · exact .inl ⟨⟨o, (l.h _ _ h m).1, d⟩, (l.h _ _ h m).2⟩
  · exact .inr h
theorem Wd.lstAt.monoE {K : PySem.W.Frag} {W W' : Wd} {a : Addr} {vs : List V} (l : W.ev W') (h : W.lstAt K a vs) : W'.lstAt K a vs := by
  rcases h with ⟨h, m⟩ | h
  · exact .inl (rd_mono l h m)
  · exact .inr h

theorem Wd.tupAt.mono {K : PySem.W.Frag} {W W' : Wd} {a : Addr} {vs : List V} (l : W.le W') (h : W.tupAt K a vs) : W'.tupAt K a vs := h.monoE l.toev
theorem Wd.lstAt.mono {K : PySem.W.Frag} {W W' : Wd} {a : Addr} {vs : List V} (l : W.le W') (h : W.lstAt K a vs) : W'.lstAt K a vs := h.monoE l.toev
mutual
/-- the value v is the data d -/
def Rep (K : PySem.W.Frag) (W : Wd) : D → V → Prop
  | .non, v => v = .non
  | .bl b, v => v = .bl b
  | .int i, v => v = .int i
  | .str x, v => v = .str x
  | .ty n, v => v = .ty n
  | .obj a, v => v = .ref a
  | .tup xs, v => ∃ a vs, v = .ref a ∧ W.tupAt K a vs ∧ RepL K W xs vs
  | .lst xs, v => ∃ a vs, v = .ref a ∧ W.H a = some (.lst vs) ∧ ¬ W.M a ∧ RepL K W xs vs
  | .scr xs, v => ∃ a vs, v = .ref a ∧ W.lstAt K a vs ∧ RepL K W xs vs
  | .dct ks xs, v => ∃ a vs, v = .ref a ∧ Rd W.H a (.dK (ks.zip vs)) ∧ ¬ W.M a ∧ ks.length = vs.length ∧ RepL K W xs vs
  | .ins C ks xs, v => ∃ a dx vs, v = .ref a ∧ W.H a = some (.ins C dx (ks.zip vs)) ∧ ¬ W.M a ∧ ks.length = vs.length ∧ RepL K W xs vs
  | .cell n, v => ∃ a, v = .ref a ∧ W.N[n]? = some a
  | .exn c a dx ks xs, v => v = .ref a ∧ ∃ vs, W.H dx = some (.xd (ks.zip vs)) ∧ ¬ W.M dx ∧ ks.length = vs.length ∧ RepL K W xs vs
def RepL (K : PySem.W.Frag) (W : Wd) : List D → List V → Prop
  | [], vs => vs = []
  | d :: ds, vs => ∃ v r, vs = v :: r ∧ Rep K W d v ∧ RepL K W ds r
end
mutual
theorem Rep.monoE {K : PySem.W.Frag} {W W' : Wd} (l : W.ev W') : ∀ (d : D) (v : V), Rep K W d v → Rep K W' d v
  | .non, v, h | .bl b, v, h | .int i, v, h | .str x, v, h | .ty n, v, h | .obj a, v, h => by simpa only [Rep] using h
  | .tup xs, v, h => by
    simp only [Rep] at h ⊢
    obtain ⟨a, vs, e, t, r⟩ := h
    exact ⟨a, vs, e, t.monoE l, RepL.monoE l xs vs r⟩
  | .lst xs, v, h => by
    simp only [Rep] at h ⊢
    obtain ⟨a, vs, e, t, m, r⟩ := h
    obtain ⟨t', m'⟩ := l.h _ _ t m
    exact ⟨a, vs, e, t', m', RepL.monoE l xs vs r⟩
  | .scr xs, v, h => by
    simp only [Rep] at h ⊢
    obtain ⟨a, vs, e, t, r⟩ := h
    exact ⟨a, vs, e, t.monoE l, RepL.monoE l xs vs r⟩
  | .dct ks xs, v, h => by
    simp only [Rep] at h ⊢
    obtain ⟨a, vs, e, t, m, z, r⟩ := h
    obtain ⟨t', m'⟩ := rd_mono l t m
    exact ⟨a, vs, e, t', m', z, RepL.monoE l xs vs r⟩
  | .ins C ks xs, v, h => by
    simp only [Rep] at h ⊢
    obtain ⟨a, dx, vs, e, t, m, z, r⟩ := h
    obtain ⟨t', m'⟩ := l.h _ _ t m
    exact ⟨a, dx, vs, e, t', m', z, RepL.monoE l xs vs r⟩
  | .cell n, v, h => by
    simp only [Rep] at h ⊢
    obtain ⟨a, e, q⟩ := h
    exact ⟨a, e, l.n _ _ q⟩
  | .exn c a dx ks xs, v, h => by
    simp only [Rep] at h ⊢
    obtain ⟨e, vs, t, m, z, r⟩ := h
    obtain ⟨t', m'⟩ := l.h _ _ t m
    exact ⟨e, vs, t', m', z, RepL.monoE l xs vs r⟩
theorem RepL.monoE {K : PySem.W.Frag} {W W' : Wd} (l : W.ev W') : ∀ (ds : List D) (vs : List V), RepL K W ds vs → RepL K W' ds vs
  | [], vs, h => by simpa only [RepL] using h
  | d :: ds, vs, h => by
    simp only [RepL] at h ⊢
    obtain ⟨v, r, e, h1, h2⟩ := h
    exact ⟨v, r, e, Rep.monoE l d v h1, RepL.monoE l ds r h2⟩
end
theorem Rep.mono {K : PySem.W.Frag} {W W' : Wd} (l : W.le W') (d : D) (v : V) (h : Rep K W d v) : Rep K W' d v := Rep.monoE l.toev d v h
theorem RepL.mono {K : PySem.W.Frag} {W W' : Wd} (l : W.le W') (ds : List D) (vs : List V) (h : RepL K W ds vs) : RepL K W' ds vs := RepL.monoE l.toev ds vs h
section
variable {K : PySem.W.Frag} {W W' : Wd}
theorem RepL.length : ∀ {ds : List D} {vs : List V}, RepL K W ds vs → ds.length = vs.length
  | [], vs, h => by simp only [RepL] at h; subst h; rfl
  | d :: ds, vs, h => by
    simp only [RepL] at h
    obtain ⟨v, r, rfl, _, h2⟩ := h
    simp [RepL.length h2]
theorem repL_nil : RepL K W [] [] := by simp only [RepL]
theorem repL_cons {d : D} {ds : List D} {v : V} {vs : List V} (h : Rep K W d v) (t : RepL K W ds vs) : RepL K W (d :: ds) (v :: vs) := by
  simp only [RepL]
  exact ⟨v, vs, rfl, h, t⟩
theorem repL_append : ∀ {ds es : List D} {vs us : List V}, RepL K W ds vs → RepL K W es us → RepL K W (ds ++ es) (vs ++ us)
  | [], es, vs, us, h, t => by simp only [RepL] at h; subst h; exact t
  | d :: ds, es, vs, us, h, t => by
    simp only [RepL] at h
    obtain ⟨v, r, rfl, h1, h2⟩ := h
    exact repL_cons h1 (repL_append h2 t)
theorem RepL.get : ∀ {ds : List D} {vs : List V} {i : Nat} {d : D}, RepL K W ds vs → ds[i]? = some d → ∃ v, vs[i]? = some v ∧ Rep K W d v
  | [], _, _, _, _, e => by simp at e
  | d :: ds, vs, 0, x, h, e => by
    simp only [RepL] at h
    obtain ⟨v, r, rfl, h1, h2⟩ := h
    simp at e
    subst e
    exact ⟨v, rfl, h1⟩
  | d :: ds, vs, i + 1, x, h, e => by
    simp only [RepL] at h
    obtain ⟨v, r, rfl, h1, h2⟩ := h
    obtain ⟨u, q1, q2⟩ := RepL.get (i := i) h2 (by simpa using e)
    exact ⟨u, by simpa using q1, q2⟩
theorem RepL.getV : ∀ {ds : List D} {vs : List V} {i : Nat} {v : V}, RepL K W ds vs → vs[i]? = some v → ∃ d, ds[i]? = some d ∧ Rep K W d v := fun {ds vs i v} h e => by
  have hl := h.length
  have hi : i < ds.length := by
    have := (List.getElem?_eq_some_iff.mp e).1
    omega
  obtain ⟨u, q1, q2⟩ := h.get (List.getElem?_eq_getElem hi)
  rw [e] at q1
  cases q1
  exact ⟨_, List.getElem?_eq_getElem hi, q2⟩
theorem RepL.take : ∀ {ds : List D} {vs : List V} (n : Nat), RepL K W ds vs → RepL K W (ds.take n) (vs.take n)
  | [], vs, n, h => by simp only [RepL] at h; subst h; simp [RepL]
  | d :: ds, vs, 0, h => by simp [RepL]
  | d :: ds, vs, n + 1, h => by
    simp only [RepL] at h
    obtain ⟨v, r, rfl, h1, h2⟩ := h
    exact repL_cons h1 (RepL.take n h2)
theorem RepL.drop : ∀ {ds : List D} {vs : List V} (n : Nat), RepL K W ds vs → RepL K W (ds.drop n) (vs.drop n)
  | [], vs, n, h => by simp only [RepL] at h; subst h; simp [RepL]
  | d :: ds, vs, 0, h => h
  | d :: ds, vs, n + 1, h => by
    simp only [RepL] at h
    obtain ⟨v, r, rfl, h1, h2⟩ := h
    exact RepL.drop n h2
theorem RepL.set {d : D} {v : V} (hd : Rep K W d v) : ∀ {ds : List D} {vs : List V} (n : Nat), RepL K W ds vs → RepL K W (ds.set n d) (vs.set n v)
  | [], vs, n, h => by simp only [RepL] at h; subst h; simp [RepL]
  | e :: ds, vs, 0, h => by
    simp only [RepL] at h
    obtain ⟨u, r, rfl, h1, h2⟩ := h
    exact repL_cons hd h2
  | e :: ds, vs, n + 1, h => by
    simp only [RepL] at h
    obtain ⟨u, r, rfl, h1, h2⟩ := h
    exact repL_cons h1 (RepL.set hd n h2)
end

/-- what stands in a slot: a value, or a list of its own -/
def isOwn : Sl → Bool
  | .o _ => true
  | _ => false
def RepS (K : PySem.W.Frag) (W : Wd) (d : Sl) (v : V) : Prop := match d with
  | .o xs => ∃ a vs, v = .ref a ∧ W.H a = some (.lst vs) ∧ W.M a ∧ W.L a ∧ RepL K W xs vs
  | .v d => Rep K W d v
/-- the lists of the slots' own -/
def ownA (st : DSt) (σ : St) (a : Addr) : Prop := ∃ (i : Nat) (d : Sl), st[i]? = some (some d) ∧ isOwn d = true ∧ σ[i]? = some (some (V.ref a))
/-- the slots -/
structure RepE (K : PySem.W.Frag) (W : Wd) (st : DSt) (σ : St) : Prop where
  len : st.length = σ.length
  at_ : ∀ (i : Nat) (d : Sl), st[i]? = some (some d) → ∃ v, σ[i]? = some (some v) ∧ RepS K W d v
  sep : ∀ (i j : Nat) (d e : Sl) (a : Addr), i ≠ j → st[i]? = some (some d) → isOwn d = true → st[j]? = some (some e) → isOwn e = true → σ[i]? = some (some (V.ref a)) → σ[j]? ≠ some (some (V.ref a))
theorem Wd.le.nn {W W' : Wd} (l : W.le W') {a : Addr} (h : W.L a) (o : W.H a ≠ none) : W'.L a := by
  cases e : W.H a with
  | none => exact absurd e o
  | some u => exact (l.l a u h e).1
theorem RepE.get {K : PySem.W.Frag} {W : Wd} {st : DSt} {σ : St} (h : RepE K W st σ) {i : Nat} {d : D} (e : st[i]? = some (some (.v d))) : ∃ v, σ[i]? = some (some v) ∧ Rep K W d v := h.at_ i _ e
theorem RepE.set {K : PySem.W.Frag} {W : Wd} {st : DSt} {σ : St} (h : RepE K W st σ) {d : D} {v : V} (i : Nat) (r : Rep K W d v) : RepE K W (st.set i (some (.v d))) (σ.set i (some v)) := by
  have gt : ∀ (j : Nat) (x : Sl), (st.set i (some (.v d)))[j]? = some (some x) → (j = i ∧ x = .v d ∧ (σ.set i (some v))[j]? = some (some v)) ∨ (j ≠ i ∧ st[j]? = some (some x) ∧ (σ.set i (some v))[j]? = σ[j]?) := by
    intro j x e
    by_cases hj : i = j
    · subst hj
      by_cases hi : i < st.length
      · rw [List.getElem?_set_self hi] at e
        cases e
        exact .inl ⟨rfl, rfl, by rw [List.getElem?_set_self (by rw [← h.len]; exact hi)]⟩
      · rw [List.getElem?_eq_none (by simpa using hi)] at e
        cases e
    · rw [List.getElem?_set_ne hj] at e
      exact .inr ⟨fun z => hj z.symm, e, by rw [List.getElem?_set_ne hj]⟩
  refine ⟨by simp [h.len], fun j x e => ?_, fun j k x y a hjk e1 o1 e2 o2 s1 s2 => ?_⟩
  · rcases gt j x e with ⟨rfl, rfl, q⟩ | ⟨hj, e', q⟩
    · exact ⟨v, q, r⟩
    · obtain ⟨u, q1, q2⟩ := h.at_ j x e'
      exact ⟨u, q.trans q1, q2⟩
  · rcases gt j x e1 with ⟨_, rfl, _⟩ | ⟨hj, e1', q1⟩
    · cases o1
    · rcases gt k y e2 with ⟨_, rfl, _⟩ | ⟨hk, e2', q2⟩
      · cases o2
      · exact h.sep j k x y a hjk e1' o1 e2' o2 (q1.symm.trans s1) (q2.symm.trans s2)
/-- fewer slots -/
theorem RepE.less {K : PySem.W.Frag} {W : Wd} {st st' : DSt} {σ : St} (h : RepE K W st σ) (hl : st'.length = st.length) (hs : ∀ (i : Nat) (d : Sl), st'[i]? = some (some d) → st[i]? = some (some d)) : RepE K W st' σ :=
  ⟨hl.trans h.len, fun i d e => h.at_ i d (hs i d e), fun i j d e a n e1 o1 e2 o2 => h.sep i j d e a n (hs i d e1) o1 (hs j e e2) o2⟩
theorem RepE.unset {K : PySem.W.Frag} {W : Wd} {st : DSt} {σ : St} (h : RepE K W st σ) (i : Nat) : RepE K W (st.set i none) (σ.set i none) := by
  have gt : ∀ (j : Nat) (x : Sl), (st.set i none)[j]? = some (some x) → st[j]? = some (some x) ∧ (σ.set i none)[j]? = σ[j]? := by
    intro j x e
    by_cases hj : i = j
    · subst hj
      by_cases hi : i < st.length
      · rw [List.getElem?_set_self hi] at e
        cases e
      · rw [List.getElem?_eq_none (by simpa using hi)] at e
        cases e
    · rw [List.getElem?_set_ne hj] at e
      exact ⟨e, by rw [List.getElem?_set_ne hj]⟩
  refine ⟨by simp [h.len], fun j x e => ?_, fun j k x y a hjk e1 o1 e2 o2 s1 s2 => ?_⟩
  · obtain ⟨e', q⟩ := gt j x e
    obtain ⟨u, q1, q2⟩ := h.at_ j x e'
    exact ⟨u, q.trans q1, q2⟩
  · obtain ⟨e1', q1⟩ := gt j x e1
    obtain ⟨e2', q2⟩ := gt k y e2
    exact h.sep j k x y a hjk e1' o1 e2' o2 (q1.symm.trans s1) (q2.symm.trans s2)
theorem RepS.mono {K : PySem.W.Frag} {W W' : Wd} (l : W.le W') {d : Sl} {v : V} (h : RepS K W d v) : RepS K W' d v := by
  cases d with
  | o xs =>
    obtain ⟨a, vs, h1, h2, h3, h4, h6⟩ := h
    obtain ⟨l1, l2⟩ := l.l a _ h4 h2
    exact ⟨a, vs, h1, l2, l.m a _ h4 h2 h3, l1, h6.mono l _ _⟩
  | v d => exact Rep.mono l _ _ h
theorem RepE.mono {K : PySem.W.Frag} {W W' : Wd} (l : W.le W') {st : DSt} {σ : St} (h : RepE K W st σ) : RepE K W' st σ :=
  ⟨h.len, fun i d e => let ⟨v, h1, h2⟩ := h.at_ i d e; ⟨v, h1, h2.mono l⟩, h.sep⟩

/-- what stands in the cell at a -/
def CRep (K : PySem.W.Frag) (W : Wd) (a : Addr) : Cell → Prop
  | .lst xs => ∃ vs, W.H a = some (.lst vs) ∧ W.M a ∧ RepL K W xs vs
  | .fro xs => ∃ vs, W.H a = some (.lst vs) ∧ ¬ W.M a ∧ RepL K W xs vs
  | .ins C ks xs => ∃ dx vs, W.H a = some (.ins C dx (ks.zip vs)) ∧ W.M a ∧ ks.length = vs.length ∧ RepL K W xs vs
  | .fins C ks xs => ∃ dx vs, W.H a = some (.ins C dx (ks.zip vs)) ∧ ¬ W.M a ∧ ks.length = vs.length ∧ RepL K W xs vs
  | .dT ks xs => ∃ vs, W.H a = some (.dT (ks.zip vs)) ∧ W.M a ∧ ks.length = vs.length ∧ RepL K W xs vs
  | .dK ks xs => ∃ vs, W.H a = some (.dK (ks.zip vs)) ∧ W.M a ∧ ks.length = vs.length ∧ RepL K W xs vs
structure SRep (K : PySem.W.Frag) (W : Wd) (S : Store) : Prop where
  len : W.N.length = S.length
  nd : W.N.Nodup
  tr : ∀ a ∈ W.N, W.H a ≠ none
  mn : ∀ a, W.M a → W.H a ≠ none
  lk : ∀ a, W.L a → W.H a ≠ none ∧ a ∉ W.N
  at_ : ∀ (n : Nat) (a : Addr) (c : Cell), W.N[n]? = some a → S[n]? = some c → CRep K W a c
/-- a cell that is not touched, in a later world -/
theorem CRep.mono {K : PySem.W.Frag} {W W' : Wd} (l : W.ev W') {a : Addr} {c : Cell} (hh : W'.H a = W.H a) (hm : W'.M a ↔ W.M a) (h : CRep K W a c) : CRep K W' a c := by
  cases c <;> simp only [CRep, hh, hm] at h ⊢
  · obtain ⟨vs, h1, h2, h3⟩ := h; exact ⟨vs, h1, h2, h3.monoE l _ _⟩
  · obtain ⟨vs, h1, h2, h3⟩ := h; exact ⟨vs, h1, h2, h3.monoE l _ _⟩
  · obtain ⟨dx, vs, h1, h2, h3, h4⟩ := h; exact ⟨dx, vs, h1, h2, h3, h4.monoE l _ _⟩
  · obtain ⟨dx, vs, h1, h2, h3, h4⟩ := h; exact ⟨dx, vs, h1, h2, h3, h4.monoE l _ _⟩
  · obtain ⟨vs, h1, h2, h3, h4⟩ := h; exact ⟨vs, h1, h2, h3, h4.monoE l _ _⟩
  · obtain ⟨vs, h1, h2, h3, h4⟩ := h; exact ⟨vs, h1, h2, h3, h4.monoE l _ _⟩

/-! ### new objects, changed cells -/
def Wd.put (W : Wd) (p : Addr) (o : HO) : Wd := { W with H := upd W.H p o }
section
variable {K : PySem.W.Frag} {W : Wd} {S : Store} {p : Addr} {o : HO}
theorem SRep.nl (h : SRep K W S) {n : Nat} {a : Addr} (hn : W.N[n]? = some a) : ¬ W.L a := fun l => (h.lk a l).2 (List.mem_of_getElem? hn)
theorem SRep.noM (h : SRep K W S) {p : Addr} (hp : W.H p = none) : ¬ W.M p := fun m => h.mn p m hp
theorem SRep.noN (h : SRep K W S) {p : Addr} (hp : W.H p = none) : p ∉ W.N := fun m => h.tr p m hp
theorem Wd.put_le (hp : W.H p = none) : W.le (W.put p o) :=
  ⟨⟨fun _ _ h => h, fun b u h m => ⟨by show upd W.H p o b = some u; rw [upd_ne (ne_of_none h hp)]; exact h, m⟩⟩, fun b u l h => ⟨l, by show upd W.H p o b = some u; rw [upd_ne (ne_of_none h hp)]; exact h⟩, fun _ _ _ _ m => m⟩
/-- a new object that is nobody's cell -/
theorem SRep.put (h : SRep K W S) (hp : W.H p = none) : SRep K (W.put p o) S := by
  have hn := h.noN hp
  have up : ∀ {a : Addr}, a ∈ W.N → (W.put p o).H a = W.H a := fun {a} ha => by
    show upd W.H p o a = _
    exact upd_ne (fun e => hn (e ▸ ha))
  refine ⟨h.len, h.nd, fun a ha => ?_, fun a ha => ?_, fun a ha => ⟨upd_nn (h.lk a ha).1, (h.lk a ha).2⟩, fun n a c h1 h2 => ?_⟩
  · rw [up ha]; exact h.tr a ha
  · show upd W.H p o a ≠ none
    rw [upd_ne (fun e : a = p => h.mn a ha (by rw [e]; exact hp))]
    exact h.mn a ha
  · exact (h.at_ n a c h1 h2).mono (Wd.put_le hp).toev (up (List.mem_of_getElem? h1)) Iff.rfl
/-- a new object that is a new cell -/
def Wd.cel (W : Wd) (p : Addr) (o : HO) : Wd := { N := W.N ++ [p], M := fun a => W.M a ∨ a = p, L := W.L, H := upd W.H p o }
theorem Wd.cel_le (hp : W.H p = none) : W.le (W.cel p o) := by
  refine ⟨⟨fun i a h => ?_, fun b u h m => ?_⟩, fun b u l h => ⟨l, by show upd W.H p o b = some u; rw [upd_ne (ne_of_none h hp)]; exact h⟩, fun _ _ _ _ m => .inl m⟩
  · show (W.N ++ [p])[i]? = some a
    rw [List.getElem?_append_left (List.getElem?_eq_some_iff.mp h).1]
    exact h
  · have nb := ne_of_none h hp
    refine ⟨by show upd W.H p o b = some u; rw [upd_ne nb]; exact h, fun z => ?_⟩
    rcases z with z | z
    · exact m z
    · exact nb z
theorem SRep.cel (h : SRep K W S) (hp : W.H p = none) {c : Cell} (hc : CRep K (W.cel p o) p c) : SRep K (W.cel p o) (S ++ [c]) := by
  have hn := h.noN hp
  have up : ∀ {a : Addr}, a ∈ W.N → (W.cel p o).H a = W.H a := fun {a} ha => by
    show upd W.H p o a = _
    exact upd_ne (fun e => hn (e ▸ ha))
  refine ⟨by show (W.N ++ [p]).length = _; simp [h.len], ?_, fun a ha => ?_, fun a ha => ?_, fun a ha => ⟨upd_nn (h.lk a ha).1, fun hm => ?_⟩, fun n a d h1 h2 => ?_⟩
  · show (W.N ++ [p]).Nodup
    rw [List.nodup_append]
    refine ⟨h.nd, by simp, fun a ha b hb => ?_⟩
    simp at hb
    subst hb
    exact fun e => hn (e ▸ ha)
  · rcases List.mem_append.mp ha with ha | ha
    · rw [up ha]; exact h.tr a ha
    · simp at ha
      subst ha
      show upd W.H a o a ≠ none
      rw [upd_same]
      simp
  · show upd W.H p o a ≠ none
    by_cases e : a = p
    · subst e; rw [upd_same]; simp
    · rw [upd_ne e]
      rcases ha with ha | ha
      · exact h.mn a ha
      · exact absurd ha e
  · rcases List.mem_append.mp hm with hm | hm
    · exact (h.lk a ha).2 hm
    · simp at hm
      subst hm
      exact (h.lk a ha).1 hp
  · have h1' : (W.N ++ [p])[n]? = some a := h1
    by_cases hlt : n < W.N.length
    · rw [List.getElem?_append_left hlt] at h1'
      rw [List.getElem?_append_left (by rw [← h.len]; exact hlt)] at h2
      have hm := List.mem_of_getElem? h1'
      refine (h.at_ n a d h1' h2).mono (Wd.cel_le hp).toev (up hm) ⟨fun z => ?_, .inl⟩
      rcases z with z | z
      · exact z
      · exact absurd (z ▸ hm) hn
    · rw [List.getElem?_append_right (by omega)] at h1'
      rw [List.getElem?_append_right (by rw [← h.len]; omega)] at h2
      have e0 : n - W.N.length = 0 := by
        have := (List.getElem?_eq_some_iff.mp h1').1
        simp at this
        omega
      rw [e0] at h1'
      rw [← h.len, e0] at h2
      simp at h1' h2
      subst h1'
      subst h2
      exact hc
/-- a cell is changed; M' may let it go -/
def Wd.wr (W : Wd) (a : Addr) (o : HO) (b : Prop) : Wd := { W with M := fun x => W.M x ∧ (x = a → b), H := upd W.H a o }
theorem Wd.wr_ev {a : Addr} {b : Prop} (hm : W.M a) : W.ev (W.wr a o b) := by
  refine ⟨fun _ _ h => h, fun x u h m => ?_⟩
  have ne : x ≠ a := fun e => m (e ▸ hm)
  exact ⟨by show upd W.H a o x = some u; rw [upd_ne ne]; exact h, fun z => m z.1⟩
theorem Wd.wr_le {a : Addr} {b : Prop} (hm : W.M a) (hl : ¬ W.L a) : W.le (W.wr a o b) :=
  ⟨Wd.wr_ev hm, fun x u l h => ⟨l, by
    show upd W.H a o x = some u
    rw [upd_ne fun e : x = a => hl (e ▸ l)]
    exact h⟩, fun x u l h m => ⟨m, fun e => absurd (e ▸ l) hl⟩⟩
theorem SRep.wr (h : SRep K W S) {n : Nat} {a : Addr} {b : Prop} (hn : W.N[n]? = some a) (hm : W.M a) {c : Cell} (hc : CRep K (W.wr a o b) a c) : SRep K (W.wr a o b) (S.set n c) := by
  refine ⟨by simp [Wd.wr, h.len], h.nd, fun x hx => ?_, fun x hx => ?_, fun x hx => ⟨upd_nn (h.lk x hx).1, (h.lk x hx).2⟩, fun j x d h1 h2 => ?_⟩
  · show upd W.H a o x ≠ none
    by_cases e : x = a
    · subst e; rw [upd_same]; simp
    · rw [upd_ne e]; exact h.tr x hx
  · show upd W.H a o x ≠ none
    by_cases e : x = a
    · subst e; rw [upd_same]; simp
    · rw [upd_ne e]; exact h.mn x hx.1
  · have h1' : W.N[j]? = some x := h1
    by_cases hj : n = j
    · subst hj
      rw [hn] at h1'
      cases h1'
      rw [List.getElem?_set_self (by rw [← h.len]; exact (List.getElem?_eq_some_iff.mp hn).1)] at h2
      cases h2
      exact hc
    · rw [List.getElem?_set_ne hj] at h2
      have ne : x ≠ a := fun e => by
        subst e
        exact hj ((List.getElem?_inj (List.getElem?_eq_some_iff.mp hn).1 h.nd).mp (hn.trans h1'.symm))
      refine (h.at_ j x d h1' h2).mono (Wd.wr_ev hm) ?_ ⟨fun z => z.1, fun z => ⟨z, fun e => absurd e ne⟩⟩
      show upd W.H a o x = W.H x
      exact upd_ne ne
end

section
variable {K : PySem.W.Frag} {W : Wd} {S : Store} {a : Addr} {o : HO}
/-- a new object that may be changed, of which nobody has a name -/
def Wd.anon (W : Wd) (p : Addr) (o : HO) : Wd := { W with M := fun a => W.M a ∨ a = p, H := upd W.H p o }
theorem Wd.anon_le {p : Addr} (hp : W.H p = none) : W.le (W.anon p o) := ⟨⟨fun _ _ h => h, fun b u h m => by
  have nb := ne_of_none h hp
  refine ⟨by show upd W.H p o b = some u; rw [upd_ne nb]; exact h, fun z => ?_⟩
  rcases z with z | z
  · exact m z
  · exact nb z⟩, fun b u l h => ⟨l, by show upd W.H p o b = some u; rw [upd_ne (ne_of_none h hp)]; exact h⟩, fun _ _ _ _ m => .inl m⟩
theorem SRep.anon (h : SRep K W S) {p : Addr} (hp : W.H p = none) : SRep K (W.anon p o) S := by
  have hn := h.noN hp
  have up : ∀ {a : Addr}, a ∈ W.N → (W.anon p o).H a = W.H a := fun {a} ha => by
    show upd W.H p o a = _
    exact upd_ne (fun e => hn (e ▸ ha))
  refine ⟨h.len, h.nd, fun a ha => ?_, fun a ha => ?_, fun a ha => ⟨upd_nn (h.lk a ha).1, (h.lk a ha).2⟩, fun n a c h1 h2 => ?_⟩
  · rw [up ha]; exact h.tr a ha
  · show upd W.H p o a ≠ none
    by_cases e : a = p
    · subst e; rw [upd_same]; simp
    · rw [upd_ne e]
      rcases ha with ha | ha
      · exact h.mn a ha
      · exact absurd ha e
  · have hm := List.mem_of_getElem? h1
    refine (h.at_ n a c h1 h2).mono (Wd.anon_le hp).toev (up hm) ⟨fun z => ?_, .inl⟩
    rcases z with z | z
    · exact z
    · exact absurd (z ▸ hm) hn
/-- such an object is changed; b: it stays changeable -/
theorem SRep.wrA (h : SRep K W S) {b : Prop} (hn : a ∉ W.N) (hm : W.M a) (hl : ¬ W.L a) : SRep K (W.wr a o b) S := by
  refine ⟨h.len, h.nd, fun x hx => ?_, fun x hx => ?_, fun x hx => ⟨upd_nn (h.lk x hx).1, (h.lk x hx).2⟩, fun j x d h1 h2 => ?_⟩
  · show upd W.H a o x ≠ none
    by_cases e : x = a
    · subst e; rw [upd_same]; simp
    · rw [upd_ne e]; exact h.tr x hx
  · show upd W.H a o x ≠ none
    by_cases e : x = a
    · subst e; rw [upd_same]; simp
    · rw [upd_ne e]; exact h.mn x hx.1
  · have ne : x ≠ a := fun e => hn (e ▸ List.mem_of_getElem? h1)
    refine (h.at_ j x d h1 h2).mono (Wd.wr_ev hm) ?_ ⟨fun z => z.1, fun z => ⟨z, fun e => absurd e ne⟩⟩
    show upd W.H a o x = W.H x
    exact upd_ne ne
/-- locked, unlocked and changed -/
def Wd.lock (W : Wd) (a : Addr) : Wd := { W with L := fun x => W.L x ∨ x = a }
theorem Wd.lock_le : W.le (W.lock a) := ⟨⟨fun _ _ h => h, fun b u h m => ⟨h, m⟩⟩, fun b u l h => ⟨.inl l, h⟩, fun _ _ _ _ m => m⟩
theorem SRep.lock (h : SRep K W S) (hn : a ∉ W.N) (hm : W.M a) : SRep K (W.lock a) S := by
  refine ⟨h.len, h.nd, h.tr, h.mn, fun x hx => ?_, fun j x d h1 h2 => (h.at_ j x d h1 h2).mono (Wd.lock_le (a := a)).toev rfl Iff.rfl⟩
  rcases hx with hx | hx
  · exact h.lk x hx
  · subst hx
    exact ⟨h.mn _ hm, hn⟩
def Wd.unlock (W : Wd) (a : Addr) : Wd := { W with L := fun x => W.L x ∧ x ≠ a }
theorem Wd.unlock_ev : W.ev (W.unlock a) := ⟨fun _ _ h => h, fun b u h m => ⟨h, m⟩⟩
theorem SRep.unlock (h : SRep K W S) : SRep K (W.unlock a) S :=
  ⟨h.len, h.nd, h.tr, h.mn, fun x hx => h.lk x hx.1, fun j x d h1 h2 => (h.at_ j x d h1 h2).mono (Wd.unlock_ev (a := a)) rfl Iff.rfl⟩
/-- such an object gets a name -/
def Wd.name (W : Wd) (a : Addr) : Wd := { W with N := W.N ++ [a] }
theorem Wd.name_le : W.le (W.name a) := ⟨⟨fun i x h => by
  show (W.N ++ [a])[i]? = some x
  rw [List.getElem?_append_left (List.getElem?_eq_some_iff.mp h).1]
  exact h, fun b u h m => ⟨h, m⟩⟩, fun b u l h => ⟨l, h⟩, fun _ _ _ _ m => m⟩
theorem SRep.name (h : SRep K W S) (hn : a ∉ W.N) (hm : W.M a) (hl : ¬ W.L a) {c : Cell} (hc : CRep K (W.name a) a c) : SRep K (W.name a) (S ++ [c]) := by
  refine ⟨by show (W.N ++ [a]).length = _; simp [h.len], ?_, fun x hx => ?_, fun x hx => h.mn x hx, fun x hx => ⟨(h.lk x hx).1, fun hm2 => ?_⟩, fun j x d h1 h2 => ?_⟩
  · show (W.N ++ [a]).Nodup
    rw [List.nodup_append]
    refine ⟨h.nd, by simp, fun x hx b hb => ?_⟩
    simp at hb
    subst hb
    exact fun e => hn (e ▸ hx)
  · rcases List.mem_append.mp hx with hx | hx
    · exact h.tr x hx
    · simp at hx
      subst hx
      exact h.mn x hm
  · rcases List.mem_append.mp hm2 with hm2 | hm2
    · exact (h.lk x hx).2 hm2
    · simp at hm2
      subst hm2
      exact hl hx
  · have h1' : (W.N ++ [a])[j]? = some x := h1
    by_cases hlt : j < W.N.length
    · rw [List.getElem?_append_left hlt] at h1'
      rw [List.getElem?_append_left (by rw [← h.len]; exact hlt)] at h2
      exact (h.at_ j x d h1' h2).mono Wd.name_le.toev rfl Iff.rfl
    · rw [List.getElem?_append_right (by omega)] at h1'
      rw [List.getElem?_append_right (by rw [← h.len]; omega)] at h2
      have e0 : j - W.N.length = 0 := by
        have := (List.getElem?_eq_some_iff.mp h1').1
        simp at this
        omega
      rw [e0] at h1'
      rw [← h.len, e0] at h2
      simp at h1' h2
      subst h1'
      subst h2
      exact hc
end
/-! ### what is wanted of a result -/
def ERep (K : PySem.W.Frag) (W : Wd) (e : Exn) (od : Option Addr) : Prop := match e.fs with
  | none => od = none
  | some (ks, ds) => ∃ dx vs, od = some dx ∧ W.H dx = some (.xd (ks.zip vs)) ∧ ¬ W.M dx ∧ ks.length = vs.length ∧ RepL K W ds vs
/-- of an expression's: Q of the value, Wx of the exception -/
def RQ (K : PySem.W.Frag) (W : Wd) (Q : Wd → Store → D → Prop) (E : Wd → Store → Exn → Prop) : Res D → Prop
  | .ok d S' => Q W S' d
  | .err e S' => E W S' e
  | .bad => False
def VQ (K : PySem.W.Frag) (W : Wd) (Q : VK) (E : XK) : Res D → Prop
  | .ok d S' => ∀ W' v, W.le W' → SRep K W' S' → Rep K W' d v → Q v W'.H
  | .err e S' => ∀ W' od, W.le W' → SRep K W' S' → ERep K W' e od → E e.c od W'.H
  | .bad => False
theorem VQ.mono {K : PySem.W.Frag} {W W1 : Wd} {Q : VK} {E : XK} (l : W.le W1) {r : Res D} (h : VQ K W Q E r) : VQ K W1 Q E r := by
  cases r with
  | ok d S => exact fun W' v l' s q => h W' v (l.trans l') s q
  | err e S => exact fun W' od l' s q => h W' od (l.trans l') s q
  | bad => exact h
/-- a list of values -/
def LQ (K : PySem.W.Frag) (W : Wd) (Q : List V → Hp → Prop) (E : XK) : Res (List D) → Prop
  | .ok ds S' => ∀ W' vs, W.le W' → SRep K W' S' → RepL K W' ds vs → Q vs W'.H
  | .err e S' => ∀ W' od, W.le W' → SRep K W' S' → ERep K W' e od → E e.c od W'.H
  | .bad => False
/-- a truth -/
def BQ (K : PySem.W.Frag) (W : Wd) (Q : Bool → Hp → Prop) (E : XK) : Res Bool → Prop
  | .ok b S' => ∀ W', W.le W' → SRep K W' S' → Q b W'.H
  | .err e S' => ∀ W' od, W.le W' → SRep K W' S' → ERep K W' e od → E e.c od W'.H
  | .bad => False
/-- of a statement's -/
def SQ (K : PySem.W.Frag) (W : Wd) (D : Ends) (Wx : WX) : SRes → Prop
  | .nx st S => ∀ W' σ, W.le W' → SRep K W' S → RepE K W' st σ → D.nx σ W'.H
  | .bk st S => ∀ W' σ, W.le W' → SRep K W' S → RepE K W' st σ → D.bk σ W'.H
  | .ct st S => ∀ W' σ, W.le W' → SRep K W' S → RepE K W' st σ → D.ct σ W'.H
  | .rt d S => ∀ W' v, W.le W' → SRep K W' S → Rep K W' d v → D.rt v W'.H
  | .err e st S => ∀ W' σ od, W.le W' → SRep K W' S → RepE K W' st σ → ERep K W' e od → Wx e.c od σ W'.H
  | .bad => False
theorem SQ.mono {K : PySem.W.Frag} {W W1 : Wd} {D : Ends} {Wx : WX} (l : W.le W1) {r : SRes} (h : SQ K W D Wx r) : SQ K W1 D Wx r := by
  cases r with
  | nx st S => exact fun W' σ l' s q => h W' σ (l.trans l') s q
  | bk st S => exact fun W' σ l' s q => h W' σ (l.trans l') s q
  | ct st S => exact fun W' σ l' s q => h W' σ (l.trans l') s q
  | rt d S => exact fun W' v l' s q => h W' v (l.trans l') s q
  | err e st S => exact fun W' σ od l' s q z => h W' σ od (l.trans l') s q z
  | bad => exact h

/-- where one stands: the world, the slots, the store -/
structure At (K : PySem.W.Frag) (W : Wd) (st : DSt) (S : Store) (σ : St) (H : Hp) : Prop where
  h : W.H = H
  s : SRep K W S
  e : RepE K W st σ
def tD (K : PySem.W.Frag) (Wx : WX) (m : EM D) : TE := fun σ H Q => ∃ W st S, At K W st S σ H ∧ VQ K W Q (fun c d H' => Wx c d σ H') (m st S)
def tDB (K : PySem.W.Frag) (Wx : WX) (m : EM Bool) : TT := fun σ H Q => ∃ W st S, At K W st S σ H ∧ BQ K W Q (fun c d H' => Wx c d σ H') (m st S)
def tDL (K : PySem.W.Frag) (Wx : WX) (m : EM (List D)) : TA := fun σ H Q => ∃ W st S, At K W st S σ H ∧ LQ K W Q (fun c d H' => Wx c d σ H') (m st S)
def tDS (K : PySem.W.Frag) (Wx : WX) (m : SM) : TS := fun D σ H => ∃ W st S, At K W st S σ H ∧ SQ K W D Wx (m st S)
structure DE (X : Cx) (Wx : WX) (e : Expr) (m : EM D) : Prop where
  p : PE X e (tD X.K Wx m)
structure DT (X : Cx) (Wx : WX) (e : Expr) (m : EM Bool) : Prop where
  p : PT X e (tDB X.K Wx m)
structure DW (X : Cx) (Wx : WX) (e : Expr) (m : EM Bool) : Prop where
  p : PW X e (tDB X.K Wx m)
structure DA (X : Cx) (Wx : WX) (es : List Expr) (m : EM (List D)) : Prop where
  p : PA X es (tDL X.K Wx m)
structure DS (X : Cx) (Wx : WX) (s : Stmt) (m : SM) : Prop where
  p : PS X s (tDS X.K Wx m)
structure DSs (X : Cx) (Wx : WX) (s : List Stmt) (m : SM) : Prop where
  p : PSs X s (tDS X.K Wx m)
theorem pe_imp {X : Cx} {e : Expr} {t t' : TE} (h : PE X e t) (i : ∀ σ H Q, t' σ H Q → t σ H Q) : PE X e t' := ⟨fun pins s σ H Q I q => h.run pins s σ H Q I (i σ H Q q)⟩
theorem pt_imp {X : Cx} {e : Expr} {t t' : TT} (h : PT X e t) (i : ∀ σ H Q, t' σ H Q → t σ H Q) : PT X e t' := ⟨fun pins s σ H Q I q => h.run pins s σ H Q I (i σ H Q q)⟩
theorem pw_imp {X : Cx} {e : Expr} {t t' : TT} (h : PW X e t) (i : ∀ σ H Q, t' σ H Q → t σ H Q) : PW X e t' := ⟨fun w pins s σ H Q I q => h.run w pins s σ H Q I (i σ H Q q)⟩
theorem pa_imp {X : Cx} {e : List Expr} {t t' : TA} (h : PA X e t) (i : ∀ σ H Q, t' σ H Q → t σ H Q) : PA X e t' := ⟨fun pos pins s σ H Q I q => h.run pos pins s σ H Q I (i σ H Q q)⟩
theorem ps_imp {X : Cx} {e : Stmt} {t t' : TS} (h : PS X e t) (i : ∀ D σ H, t' D σ H → t D σ H) : PS X e t' := ⟨fun pins s σ H D I q => h.run pins s σ H D I (i D σ H q)⟩
theorem pss_imp {X : Cx} {e : List Stmt} {t t' : TS} (h : PSs X e t) (i : ∀ D σ H, t' D σ H → t D σ H) : PSs X e t' := ⟨fun pins s σ H D I q => h.run pins s σ H D I (i D σ H q)⟩

/-- the join: a part's denotation, then the rest of it -/
theorem VQ.bind {K : PySem.W.Frag} {W : Wd} {Q : VK} {E : XK} {r : Res D} {f : D → Store → Res D} (h : VQ K W Q E (r.bind f)) :
    VQ K W (fun v H1 => ∃ W1 d S1, W1.H = H1 ∧ W.le W1 ∧ SRep K W1 S1 ∧ Rep K W1 d v ∧ VQ K W1 Q E (f d S1)) E r := by
  cases r with
  | ok d S => exact fun W' v l s q => ⟨W', d, S, rfl, l, s, q, VQ.mono (r := f d S) l h⟩
  | err e S => exact h
  | bad => exact h
end KF

set_option Elab.async false
set_option linter.all false
set_option maxRecDepth 100000
set_option maxHeartbeats 4000000
/-! KFB: expressions. -/
namespace KF
open PySem PySem.Spec PyProof.Rows L2

@[simp] theorem bind_ok {α β : Type} (a : α) (S : Store) (f : α → Store → Res β) : (Res.ok a S).bind f = f a S := rfl
@[simp] theorem bind_err {α β : Type} (e : Exn) (S : Store) (f : α → Store → Res β) : (Res.err e S : Res α).bind f = .err e S := rfl
@[simp] theorem bind_bad {α β : Type} (f : α → Store → Res β) : (Res.bad : Res α).bind f = .bad := rfl
/-- a pure answer, or none -/
def Res.of {α : Type} (o : Option α) (S : Store) : Res α := match o with
  | some a => .ok a S
  | none => .bad
@[simp] theorem of_some {α : Type} (a : α) (S : Store) : Res.of (some a) S = .ok a S := rfl
@[simp] theorem of_none {α : Type} (S : Store) : Res.of (none : Option α) S = .bad := rfl

theorem VQ.imp {K : PySem.W.Frag} {W : Wd} {Q Q' : VK} {E : XK} {r : Res D} (i : ∀ v H, Q v H → Q' v H) (h : VQ K W Q E r) : VQ K W Q' E r := by
  cases r with
  | ok d S => exact fun W' v l s q => i _ _ (h W' v l s q)
  | err e S => exact h
  | bad => exact h
theorem BQ.imp {K : PySem.W.Frag} {W : Wd} {Q Q' : Bool → Hp → Prop} {E : XK} {r : Res Bool} (i : ∀ v H, Q v H → Q' v H) (h : BQ K W Q E r) : BQ K W Q' E r := by
  cases r with
  | ok d S => exact fun W' l s => i _ _ (h W' l s)
  | err e S => exact h
  | bad => exact h
theorem LQ.imp {K : PySem.W.Frag} {W : Wd} {Q Q' : List V → Hp → Prop} {E : XK} {r : Res (List D)} (i : ∀ v H, Q v H → Q' v H) (h : LQ K W Q E r) : LQ K W Q' E r := by
  cases r with
  | ok d S => exact fun W' v l s q => i _ _ (h W' v l s q)
  | err e S => exact h
  | bad => exact h
theorem BQ.mono {K : PySem.W.Frag} {W W1 : Wd} {Q : Bool → Hp → Prop} {E : XK} (l : W.le W1) {r : Res Bool} (h : BQ K W Q E r) : BQ K W1 Q E r := by
  cases r with
  | ok d S => exact fun W' l' s => h W' (l.trans l') s
  | err e S => exact fun W' od l' s q => h W' od (l.trans l') s q
  | bad => exact h
theorem LQ.mono {K : PySem.W.Frag} {W W1 : Wd} {Q : List V → Hp → Prop} {E : XK} (l : W.le W1) {r : Res (List D)} (h : LQ K W Q E r) : LQ K W1 Q E r := by
  cases r with
  | ok d S => exact fun W' v l' s q => h W' v (l.trans l') s q
  | err e S => exact fun W' od l' s q => h W' od (l.trans l') s q
  | bad => exact h

/-- an expression, then what follows: the form in which all rules are shown -/
theorem runE {K : PySem.W.Frag} {Wx : WX} {m : EM D} {σ : St} {W : Wd} {st : DSt} {S : Store} {R : VK} (a : At K W st S σ W.H)
    (h : VQ K W R (fun c d H' => Wx c d σ H') (m st S)) : tD K Wx m σ W.H R := ⟨W, st, S, a, h⟩
theorem At.to {K : PySem.W.Frag} {W W1 : Wd} {st : DSt} {S S1 : Store} {σ : St} {H : Hp} (a : At K W st S σ H) (l : W.le W1) (s : SRep K W1 S1) : At K W1 st S1 σ W1.H := ⟨rfl, s, a.e.mono l⟩
section
variable {α : Type} {K : PySem.W.Frag} {Wx : WX} {σ : St} {W : Wd} {st : DSt} {S : Store} {m : EM D}
/-- the join for expressions: E's at the same slots -/
theorem goE {Q : VK} {f : D → Store → Res D} {R : VK} (a : At K W st S σ W.H) (q : VQ K W Q (fun c d H' => Wx c d σ H') ((m st S).bind f))
    (h : ∀ W1 d S1 v, W.le W1 → At K W1 st S1 σ W1.H → Rep K W1 d v → VQ K W1 Q (fun c d H' => Wx c d σ H') (f d S1) → R v W1.H) : tD K Wx m σ W.H R := by
  refine runE a ?_
  cases e : m st S with
  | ok d S1 =>
    rw [e] at q
    exact fun W1 v l s r => h W1 d S1 v l (a.to l s) r (VQ.mono l q)
  | err x S1 =>
    rw [e] at q
    exact q
  | bad =>
    rw [e] at q
    exact q
theorem goB {Q : Bool → Hp → Prop} {f : D → Store → Res Bool} {R : VK} (a : At K W st S σ W.H) (q : BQ K W Q (fun c d H' => Wx c d σ H') ((m st S).bind f))
    (h : ∀ W1 d S1 v, W.le W1 → At K W1 st S1 σ W1.H → Rep K W1 d v → BQ K W1 Q (fun c d H' => Wx c d σ H') (f d S1) → R v W1.H) : tD K Wx m σ W.H R := by
  refine runE a ?_
  cases e : m st S with
  | ok d S1 =>
    rw [e] at q
    exact fun W1 v l s r => h W1 d S1 v l (a.to l s) r (BQ.mono l q)
  | err x S1 =>
    rw [e] at q
    exact q
  | bad =>
    rw [e] at q
    exact q
theorem goL {Q : List V → Hp → Prop} {f : D → Store → Res (List D)} {R : VK} (a : At K W st S σ W.H) (q : LQ K W Q (fun c d H' => Wx c d σ H') ((m st S).bind f))
    (h : ∀ W1 d S1 v, W.le W1 → At K W1 st S1 σ W1.H → Rep K W1 d v → LQ K W1 Q (fun c d H' => Wx c d σ H') (f d S1) → R v W1.H) : tD K Wx m σ W.H R := by
  refine runE a ?_
  cases e : m st S with
  | ok d S1 =>
    rw [e] at q
    exact fun W1 v l s r => h W1 d S1 v l (a.to l s) r (LQ.mono l q)
  | err x S1 =>
    rw [e] at q
    exact q
  | bad =>
    rw [e] at q
    exact q
/-- a statement's expression -/
theorem goS {D : Ends} {f : KF.D → Store → SRes} {R : VK} (a : At K W st S σ W.H)
    (q : SQ K W D Wx (match m st S with | .ok d S1 => f d S1 | .err e S1 => .err e st S1 | .bad => .bad))
    (h : ∀ W1 d S1 v, W.le W1 → At K W1 st S1 σ W1.H → Rep K W1 d v → SQ K W1 D Wx (f d S1) → R v W1.H) : tD K Wx m σ W.H R := by
  refine runE a ?_
  cases e : m st S with
  | ok d S1 =>
    rw [e] at q
    exact fun W1 v l s r => h W1 d S1 v l (a.to l s) r (SQ.mono l q)
  | err x S1 =>
    rw [e] at q
    exact fun W' od l s z => q W' σ od l s (a.e.mono l) z
  | bad =>
    rw [e] at q
    exact q
/-- a test, then what follows -/
theorem goTB {mb : EM Bool} {Q : Bool → Hp → Prop} {f : Bool → Store → Res Bool} {R : Bool → Hp → Prop} (a : At K W st S σ W.H) (q : BQ K W Q (fun c d H' => Wx c d σ H') ((mb st S).bind f))
    (h : ∀ W1 b S1, W.le W1 → At K W1 st S1 σ W1.H → BQ K W1 Q (fun c d H' => Wx c d σ H') (f b S1) → R b W1.H) : tDB K Wx mb σ W.H R := by
  refine ⟨W, st, S, a, ?_⟩
  cases e : mb st S with
  | ok d S1 =>
    rw [e] at q
    exact fun W1 l s => h W1 d S1 l (a.to l s) (BQ.mono l q)
  | err x S1 =>
    rw [e] at q
    exact q
  | bad =>
    rw [e] at q
    exact q
theorem goTE {mb : EM Bool} {Q : VK} {f : Bool → Store → Res D} {R : Bool → Hp → Prop} (a : At K W st S σ W.H) (q : VQ K W Q (fun c d H' => Wx c d σ H') ((mb st S).bind f))
    (h : ∀ W1 b S1, W.le W1 → At K W1 st S1 σ W1.H → VQ K W1 Q (fun c d H' => Wx c d σ H') (f b S1) → R b W1.H) : tDB K Wx mb σ W.H R := by
  refine ⟨W, st, S, a, ?_⟩
  cases e : mb st S with
  | ok d S1 =>
    rw [e] at q
    exact fun W1 l s => h W1 d S1 l (a.to l s) (VQ.mono l q)
  | err x S1 =>
    rw [e] at q
    exact q
  | bad =>
    rw [e] at q
    exact q
theorem goTS {mb : EM Bool} {D : Ends} {f : Bool → Store → SRes} {R : Bool → Hp → Prop} (a : At K W st S σ W.H)
    (q : SQ K W D Wx (match mb st S with | .ok d S1 => f d S1 | .err e S1 => .err e st S1 | .bad => .bad))
    (h : ∀ W1 b S1, W.le W1 → At K W1 st S1 σ W1.H → SQ K W1 D Wx (f b S1) → R b W1.H) : tDB K Wx mb σ W.H R := by
  refine ⟨W, st, S, a, ?_⟩
  cases e : mb st S with
  | ok d S1 =>
    rw [e] at q
    exact fun W1 l s => h W1 d S1 l (a.to l s) (SQ.mono l q)
  | err x S1 =>
    rw [e] at q
    exact fun W' od l s z => q W' σ od l s (a.e.mono l) z
  | bad =>
    rw [e] at q
    exact q
/-- an argument list, then what follows -/
theorem goAE {ml : EM (List D)} {Q : VK} {f : List D → Store → Res D} {R : List V → Hp → Prop} (a : At K W st S σ W.H) (q : VQ K W Q (fun c d H' => Wx c d σ H') ((ml st S).bind f))
    (h : ∀ W1 ds S1 vs, W.le W1 → At K W1 st S1 σ W1.H → RepL K W1 ds vs → VQ K W1 Q (fun c d H' => Wx c d σ H') (f ds S1) → R vs W1.H) : tDL K Wx ml σ W.H R := by
  refine ⟨W, st, S, a, ?_⟩
  cases e : ml st S with
  | ok d S1 =>
    rw [e] at q
    exact fun W1 v l s r => h W1 d S1 v l (a.to l s) r (VQ.mono l q)
  | err x S1 =>
    rw [e] at q
    exact q
  | bad =>
    rw [e] at q
    exact q
theorem goAL {ml : EM (List D)} {Q : List V → Hp → Prop} {f : List D → Store → Res (List D)} {R : List V → Hp → Prop} (a : At K W st S σ W.H) (q : LQ K W Q (fun c d H' => Wx c d σ H') ((ml st S).bind f))
    (h : ∀ W1 ds S1 vs, W.le W1 → At K W1 st S1 σ W1.H → RepL K W1 ds vs → LQ K W1 Q (fun c d H' => Wx c d σ H') (f ds S1) → R vs W1.H) : tDL K Wx ml σ W.H R := by
  refine ⟨W, st, S, a, ?_⟩
  cases e : ml st S with
  | ok d S1 =>
    rw [e] at q
    exact fun W1 v l s r => h W1 d S1 v l (a.to l s) r (LQ.mono l q)
  | err x S1 =>
    rw [e] at q
    exact q
  | bad =>
    rw [e] at q
    exact q
end

section
variable {X : Cx} {Wx : WX} {a b c : Expr} {ma mb mc : EM D} {pos : Pos}
/-- a rule's frame: from the reading of the denotation to another reading -/
theorem de_of {e : Expr} {t : TE} {m : EM D} (h : PE X e t) (i : ∀ W st S σ Q, At X.K W st S σ W.H → VQ X.K W Q (fun c d H' => Wx c d σ H') (m st S) → t σ W.H Q) : DE X Wx e m :=
  ⟨pe_imp h fun σ H Q ⟨W, st, S, at_, q⟩ => by
    obtain ⟨rfl, s, e⟩ := at_
    exact i W st S σ Q ⟨rfl, s, e⟩ q⟩
theorem dt_of {e : Expr} {t : TT} {m : EM Bool} (h : PT X e t) (i : ∀ W st S σ Q, At X.K W st S σ W.H → BQ X.K W Q (fun c d H' => Wx c d σ H') (m st S) → t σ W.H Q) : DT X Wx e m :=
  ⟨pt_imp h fun σ H Q ⟨W, st, S, at_, q⟩ => by
    obtain ⟨rfl, s, e⟩ := at_
    exact i W st S σ Q ⟨rfl, s, e⟩ q⟩
theorem dw_of {e : Expr} {t : TT} {m : EM Bool} (h : PW X e t) (i : ∀ W st S σ Q, At X.K W st S σ W.H → BQ X.K W Q (fun c d H' => Wx c d σ H') (m st S) → t σ W.H Q) : DW X Wx e m :=
  ⟨pw_imp h fun σ H Q ⟨W, st, S, at_, q⟩ => by
    obtain ⟨rfl, s, e⟩ := at_
    exact i W st S σ Q ⟨rfl, s, e⟩ q⟩
theorem da_of {e : List Expr} {t : TA} {m : EM (List D)} (h : PA X e t) (i : ∀ W st S σ Q, At X.K W st S σ W.H → LQ X.K W Q (fun c d H' => Wx c d σ H') (m st S) → t σ W.H Q) : DA X Wx e m :=
  ⟨pa_imp h fun σ H Q ⟨W, st, S, at_, q⟩ => by
    obtain ⟨rfl, s, e⟩ := at_
    exact i W st S σ Q ⟨rfl, s, e⟩ q⟩
theorem ds_of {e : Stmt} {t : TS} {m : SM} (h : PS X e t) (i : ∀ W st S σ D, At X.K W st S σ W.H → SQ X.K W D Wx (m st S) → t D σ W.H) : DS X Wx e m :=
  ⟨ps_imp h fun D σ H ⟨W, st, S, at_, q⟩ => by
    obtain ⟨rfl, s, e⟩ := at_
    exact i W st S σ D ⟨rfl, s, e⟩ q⟩
theorem dss_of {e : List Stmt} {t : TS} {m : SM} (h : PSs X e t) (i : ∀ W st S σ D, At X.K W st S σ W.H → SQ X.K W D Wx (m st S) → t D σ W.H) : DSs X Wx e m :=
  ⟨pss_imp h fun D σ H ⟨W, st, S, at_, q⟩ => by
    obtain ⟨rfl, s, e⟩ := at_
    exact i W st S σ D ⟨rfl, s, e⟩ q⟩

/-! ### names, constants -/
def vE (i : Nat) : EM D := fun st S => match st[i]? with
  | some (some (.v d)) => .ok d S
  | _ => .bad
def cE (d : D) : EM D := fun _ S => .ok d S
theorem dv (i : Nat) {x : Str} (hN : X.N[i]? = some x := by rfl) (hv : Vis X.env.scope x := by first | exact Or.inl rfl | exact Or.inr (Or.inl rfl) | exact Or.inr (Or.inr rfl)) (hd : (x == ("__debug__" : Str)) = false := by decide)
    (hcd : (x == ("__classdict__" : Str)) = false := by decide) : DE X Wx (.Name x pos) (vE i) := by
  refine de_of (pv i hN hv hd hcd) fun W st S σ Q a q => ?_
  unfold vE at q
  split at q
  · rename_i d h
    obtain ⟨v, h1, h2⟩ := a.e.get h
    exact ⟨v, h1, q W v (.refl W) a.s h2⟩
  · exact q.elim
/-- a constant that is no object -/
theorem de_c {e : Expr} {d : D} {v : V} (h : PE X e (tC v)) (r : ∀ W, Rep X.K W d v) : DE X Wx e (cE d) :=
  de_of h fun W st S σ Q a q => q W v (.refl W) a.s (r W)
theorem de_int {i : Int} {j : Nat} : DE X Wx (.Constant (.int i) j pos) (cE (.int i)) := de_c pe_int fun W => by simp [Rep]
theorem de_bl {b : Bool} {j : Nat} : DE X Wx (.Constant (.bool b) j pos) (cE (.bl b)) := de_c pe_bl fun W => by simp [Rep]
theorem de_non {j : Nat} : DE X Wx (.Constant .none j pos) (cE .non) := de_c pe_non fun W => by simp [Rep]
theorem de_str {x : Str} {j : Nat} : DE X Wx (.Constant (.str x) j pos) (cE (.str x)) := de_c pe_str fun W => by simp [Rep]
/-- a module's constant -/
theorem de_glob {x : Str} {d : D} {v : V} {u : Value} (hg : Gl X x) (hm : X.mg x = some u) (r : RelV v u) (hr : ∀ W, Rep X.K W d v) (hd : (x == ("__debug__" : Str)) = false := by decide) : DE X Wx (.Name x pos) (cE d) :=
  de_c (pe_glob hg hm r hd) hr

/-! ### operators by their values -/
def rD2 (K : PySem.W.Frag) (g : D → D → Store → Option D) : R2 := fun x y H Q => ∃ W S dx dy d, W.H = H ∧ SRep K W S ∧ Rep K W dx x ∧ Rep K W dy y ∧ g dx dy S = some d ∧ ∀ W' v, W.le W' → SRep K W' S → Rep K W' d v → Q v W'.H
structure OpD (X : Cx) (f : Value → Value → Sem Value) (g : D → D → Store → Option D) : Prop where
  p : OpR X f (rD2 X.K g)
theorem opR_imp {f : Value → Value → Sem Value} {r r' : R2} (h : OpR X f r) (i : ∀ x y H Q, r' x y H Q → r x y H Q) : OpR X f r' :=
  fun pins s σ H x y v u Q I rx ry q => h pins s σ H x y v u Q I rx ry (i x y H Q q)
theorem opD_of {f : Value → Value → Sem Value} {r : R2} {g : D → D → Store → Option D} (h : OpR X f r)
    (i : ∀ W S dx dy d x y Q, SRep X.K W S → Rep X.K W dx x → Rep X.K W dy y → g dx dy S = some d → (∀ W' v, W.le W' → SRep X.K W' S → Rep X.K W' d v → Q v W'.H) → r x y W.H Q) : OpD X f g :=
  ⟨opR_imp h fun x y H Q ⟨W, S, dx, dy, d, e, s, rx, ry, eg, q⟩ => by subst e; exact i W S dx dy d x y Q s rx ry eg q⟩
def opE (g : D → D → Store → Option D) (a b : EM D) : EM D := fun st S => (a st S).bind fun x S1 => (b st S1).bind fun y S2 => .of (g x y S2) S2
theorem of_go {W : Wd} {Q : VK} {E : XK} {K : PySem.W.Frag} {o : Option D} {S : Store} (q : VQ K W Q E (.of o S)) : ∃ d, o = some d ∧ ∀ W' v, W.le W' → SRep K W' S → Rep K W' d v → Q v W'.H := by
  cases o with
  | none => exact q.elim
  | some d => exact ⟨d, rfl, q⟩
theorem op_go {g : D → D → Store → Option D} {W : Wd} {st : DSt} {S : Store} {σ : St} {Q : VK} (at_ : At X.K W st S σ W.H) (q : VQ X.K W Q (fun c d H' => Wx c d σ H') (opE g ma mb st S)) :
    tOp (rD2 X.K g) (tD X.K Wx ma) (tD X.K Wx mb) σ W.H Q := by
  refine goE at_ q fun W1 dx S1 x l1 a1 r1 q1 => ?_
  refine goE a1 q1 fun W2 dy S2 y l2 a2 r2 q2 => ?_
  obtain ⟨d, e, k⟩ := of_go q2
  exact ⟨W2, S2, dx, dy, d, rfl, a2.s, r1.mono l2 _ _, r2, e, k⟩
theorem de_op {op : Operator} {g : D → D → Store → Option D} (ho : OpD X (binaryOp op) g) (ha : DE X Wx a ma) (hb : DE X Wx b mb) : DE X Wx (.BinOp a op b pos) (opE g ma mb) :=
  de_of (pe_op ho.p ha.p hb.p) fun W st S σ Q at_ q => op_go at_ q
theorem de_cmp {op : CmpOp} {g : D → D → Store → Option D} (ho : OpD X (compareOp op) g) (ha : DE X Wx a ma) (hb : DE X Wx b mb) (hm : behindInMarks op b = false) : DE X Wx (.Compare a [op] [b] pos) (opE g ma mb) :=
  de_of (pe_cmpR ho.p ha.p hb.p hm) fun W st S σ Q at_ q => op_go at_ q
/-- a value that is a truth -/
def asB : D → Option Bool
  | .bl b => some b
  | _ => none
def bE (m : EM D) : EM Bool := fun st S => (m st S).bind fun d S1 => .of (asB d) S1
theorem rep_bl {K : PySem.W.Frag} {W : Wd} {d : D} {v : V} {b : Bool} (h : Rep K W d v) (e : asB d = some b) : v = .bl b := by
  cases d <;> simp [asB] at e
  subst e
  simpa [Rep] using h
theorem bE_go {m : EM D} {W : Wd} {st : DSt} {S : Store} {σ : St} {Q : Bool → Hp → Prop} (at_ : At X.K W st S σ W.H) (q : BQ X.K W Q (fun c d H' => Wx c d σ H') (bE m st S)) :
    tD X.K Wx m σ W.H fun x H' => ∃ k, x = .bl k ∧ Q k H' := by
  refine goB at_ q fun W1 d S1 v l a1 r q1 => ?_
  cases e : asB d with
  | none => rw [e] at q1; exact q1.elim
  | some k =>
    rw [e] at q1
    exact ⟨k, rep_bl r e, q1 W1 (.refl W1) a1.s⟩
theorem dt_val (h : DE X Wx a ma) (he : PT X a (tTest (tD X.K Wx ma))) : DT X Wx a (bE ma) := dt_of he fun W st S σ Q at_ q => bE_go at_ q
theorem dt_cmp {op : CmpOp} {g : D → D → Store → Option D} (ho : OpD X (compareOp op) g) (ha : DE X Wx a ma) (hb : DE X Wx b mb) (hm : behindInMarks op b = false) : DT X Wx (.Compare a [op] [b] pos) (bE (opE g ma mb)) := by
  refine dt_of (pt_cmpR ho.p ha.p hb.p hm) fun W st S σ Q at_ q => ?_
  have q' : BQ X.K W Q (fun c d H' => Wx c d σ H') ((ma st S).bind fun x S1 => (mb st S1).bind fun y S2 => (Res.of (g x y S2) S2).bind fun d S3 => .of (asB d) S3) := by
    have e : bE (opE g ma mb) st S = ((ma st S).bind fun x S1 => (mb st S1).bind fun y S2 => (Res.of (g x y S2) S2).bind fun d S3 => .of (asB d) S3) := by
      unfold bE opE
      cases ma st S with
      | ok x S1 =>
        simp only [bind_ok]
        cases mb st S1 <;> rfl
      | err _ _ => rfl
      | bad => rfl
    rw [← e]
    exact q
  refine goB at_ q' fun W1 dx S1 x l1 a1 r1 q1 => ?_
  refine goB a1 q1 fun W2 dy S2 y l2 a2 r2 q2 => ?_
  cases e : g dx dy S2 with
  | none => rw [e] at q2; exact q2.elim
  | some d =>
    rw [e] at q2
    simp only [of_some, bind_ok] at q2
    cases e2 : asB d with
    | none => rw [e2] at q2; exact q2.elim
    | some k =>
      rw [e2] at q2
      exact ⟨W2, S2, dx, dy, d, rfl, a2.s, r1.mono l2 _ _, r2, e, fun W' v l s r => ⟨k, rep_bl r e2, q2 W' l s⟩⟩
end
end KF

set_option Elab.async false
set_option linter.all false
set_option maxRecDepth 100000
set_option maxHeartbeats 4000000
/-! KFC: and, or, not, if, chains, displays, subscripts, slices, calls of built-ins. -/
namespace KF
open PySem PySem.Spec PyProof.Rows L2

section
variable {X : Cx} {Wx : WX} {a b c : Expr} {ma mb mc : EM D} {pos : Pos} {rest : List Expr}
/-! ### and, or, not, if -/
def andE (a b : EM D) : EM D := fun st S => (a st S).bind fun x S1 => match x with
  | .bl true => b st S1
  | .bl false => .ok (.bl false) S1
  | _ => .bad
def orE (a b : EM D) : EM D := fun st S => (a st S).bind fun x S1 => match x with
  | .bl true => .ok (.bl true) S1
  | .bl false => b st S1
  | _ => .bad
def notE (a : EM D) : EM D := fun st S => (a st S).bind fun x S1 => match x with
  | .bl k => .ok (.bl (!k)) S1
  | _ => .bad
theorem rep_b {K : PySem.W.Frag} {W : Wd} {k : Bool} {v : V} (h : Rep K W (.bl k) v) : v = .bl k := by simpa [Rep] using h
theorem de_one {op : BoolOp} (ha : DE X Wx a ma) : DE X Wx (.BoolOp op [a] pos) ma := ⟨pe_one ha.p⟩
theorem de_and (ha : DE X Wx a ma) (hb : DE X Wx (.BoolOp .And (b :: rest) pos) mb) : DE X Wx (.BoolOp .And (a :: b :: rest) pos) (andE ma mb) := by
  refine de_of (pe_and ha.p hb.p) fun W st S σ Q at_ q => ?_
  refine goE at_ q fun W1 d S1 v l a1 r q1 => ?_
  cases d <;> try exact q1.elim
  rename_i k
  refine ⟨k, rep_b r, ?_⟩
  cases k with
  | true => exact ⟨W1, st, S1, a1, q1⟩
  | false => exact q1 W1 _ (.refl W1) a1.s (by simp [Rep])
theorem de_or (ha : DE X Wx a ma) (hb : DE X Wx (.BoolOp .Or (b :: rest) pos) mb) : DE X Wx (.BoolOp .Or (a :: b :: rest) pos) (orE ma mb) := by
  refine de_of (pe_or ha.p hb.p) fun W st S σ Q at_ q => ?_
  refine goE at_ q fun W1 d S1 v l a1 r q1 => ?_
  cases d <;> try exact q1.elim
  rename_i k
  refine ⟨k, rep_b r, ?_⟩
  cases k with
  | false => exact ⟨W1, st, S1, a1, q1⟩
  | true => exact q1 W1 _ (.refl W1) a1.s (by simp [Rep])
theorem de_not (ha : DE X Wx a ma) : DE X Wx (.UnaryOp .Not a pos) (notE ma) := by
  refine de_of (pe_not ha.p) fun W st S σ Q at_ q => ?_
  refine goE at_ q fun W1 d S1 v l a1 r q1 => ?_
  cases d <;> try exact q1.elim
  rename_i k
  exact ⟨k, rep_b r, q1 W1 _ (.refl W1) a1.s (by simp [Rep])⟩
/-- tests -/
theorem dt_b (h : DE X Wx a ma) (he : ∀ whole, isTrue a X.env whole = (do let v ← whole; standAt a.pos; holding [v] (truthy v)) := by intro _; rfl) : DT X Wx a (bE ma) :=
  dt_of (pt_val h.p he) fun W st S σ Q at_ q => bE_go at_ q
def andT (a b : EM Bool) : EM Bool := fun st S => (a st S).bind fun x S1 => if x then b st S1 else .ok false S1
def orT (a b : EM Bool) : EM Bool := fun st S => (a st S).bind fun x S1 => if x then .ok true S1 else b st S1
def notT (a : EM Bool) : EM Bool := fun st S => (a st S).bind fun x S1 => .ok (!x) S1
variable {ta tb : EM Bool}
theorem dw_pt (h : DW X Wx a ta) : DT X Wx a ta := ⟨PW.pt h.p⟩
theorem dw_and1 (h : DT X Wx a ta) : DW X Wx (.BoolOp .And [a] pos) ta := ⟨pw_and1 h.p⟩
theorem dw_or1 (h : DT X Wx a ta) : DW X Wx (.BoolOp .Or [a] pos) ta := ⟨pw_or1 h.p⟩
theorem dw_and (ha : DT X Wx a ta) (hb : DW X Wx (.BoolOp .And (b :: rest) pos) tb) : DW X Wx (.BoolOp .And (a :: b :: rest) pos) (andT ta tb) := by
  refine dw_of (pw_and ha.p hb.p) fun W st S σ Q at_ q => ?_
  refine goTB at_ q fun W1 k S1 l a1 q1 => ?_
  cases k with
  | true => exact ⟨W1, st, S1, a1, q1⟩
  | false => exact q1 W1 (.refl W1) a1.s
theorem dw_or (ha : DT X Wx a ta) (hb : DW X Wx (.BoolOp .Or (b :: rest) pos) tb) : DW X Wx (.BoolOp .Or (a :: b :: rest) pos) (orT ta tb) := by
  refine dw_of (pw_or ha.p hb.p) fun W st S σ Q at_ q => ?_
  refine goTB at_ q fun W1 k S1 l a1 q1 => ?_
  cases k with
  | false => exact ⟨W1, st, S1, a1, q1⟩
  | true => exact q1 W1 (.refl W1) a1.s
theorem dt_not (ha : DT X Wx a ta) : DT X Wx (.UnaryOp .Not a pos) (notT ta) := by
  refine dt_of (pt_not ha.p) fun W st S σ Q at_ q => ?_
  exact goTB at_ q fun W1 k S1 l a1 q1 => q1 W1 (.refl W1) a1.s
def ifE (c : EM Bool) (a b : EM D) : EM D := fun st S => (c st S).bind fun k S1 => if k then a st S1 else b st S1
theorem de_if (hc : DT X Wx c ta) (ha : DE X Wx a ma) (hb : DE X Wx b mb) : DE X Wx (.IfExp c a b pos) (ifE ta ma mb) := by
  refine de_of (pe_ifExp hc.p ha.p hb.p) fun W st S σ Q at_ q => ?_
  refine goTE at_ q fun W1 k S1 l a1 q1 => ?_
  cases k with
  | true => exact ⟨W1, st, S1, a1, q1⟩
  | false => exact ⟨W1, st, S1, a1, q1⟩
/-! ### a < b < c -/
def chE (g g' : D → D → Store → Option D) (a b c : EM D) : EM D := fun st S => (a st S).bind fun x S1 => (b st S1).bind fun y S2 => (Res.of (g x y S2) S2).bind fun k S3 => match k with
  | .bl true => (c st S3).bind fun z S4 => .of (g' y z S4) S4
  | .bl false => .ok (.bl false) S3
  | _ => .bad
theorem ch_go {g g' : D → D → Store → Option D} {W : Wd} {st : DSt} {S : Store} {σ : St} {Q : VK} (at_ : At X.K W st S σ W.H) (q : VQ X.K W Q (fun c d H' => Wx c d σ H') (chE g g' ma mb mc st S)) :
    tChain (rD2 X.K g) (rD2 X.K g') (tD X.K Wx ma) (tD X.K Wx mb) (tD X.K Wx mc) σ W.H Q := by
  refine goE at_ q fun W1 dx S1 x l1 a1 r1 q1 => ?_
  refine goE a1 q1 fun W2 dy S2 y l2 a2 r2 q2 => ?_
  cases e : g dx dy S2 with
  | none => rw [e] at q2; exact q2.elim
  | some k =>
    rw [e] at q2
    simp only [of_some, bind_ok] at q2
    refine ⟨W2, S2, dx, dy, k, rfl, a2.s, r1.mono l2 _ _, r2, e, fun W3 v l3 s3 r3 => ?_⟩
    cases k <;> try exact q2.elim
    rename_i k
    refine ⟨k, rep_b r3, ?_⟩
    cases k with
    | false => exact q2 W3 _ l3 s3 (by simp [Rep])
    | true =>
      refine goE (a2.to l3 s3) (q2.mono l3) fun W4 dz S4 z l4 a4 r4 q4 => ?_
      obtain ⟨d, e4, k4⟩ := of_go q4
      exact ⟨W4, S4, dy, dz, d, rfl, a4.s, (r2.mono l3 _ _).mono l4 _ _, r4, e4, k4⟩
theorem de_chain {op op' : CmpOp} {g g' : D → D → Store → Option D} (ho : OpD X (compareOp op) g) (ho' : OpD X (compareOp op') g') (ha : DE X Wx a ma) (hb : DE X Wx b mb) (hc : DE X Wx c mc)
    (hm : lastMarks [op, op'] [b, c] = false := by with_unfolding_all rfl) : DE X Wx (.Compare a [op, op'] [b, c] pos) (chE g g' ma mb mc) :=
  de_of (pe_chain ho.p ho'.p ha.p hb.p hc.p hm) fun W st S σ Q at_ q => ch_go at_ q
theorem dt_chain {op op' : CmpOp} {g g' : D → D → Store → Option D} (ho : OpD X (compareOp op) g) (ho' : OpD X (compareOp op') g') (ha : DE X Wx a ma) (hb : DE X Wx b mb) (hc : DE X Wx c mc)
    (hm : lastMarks [op, op'] [b, c] = false := by with_unfolding_all rfl) : DT X Wx (.Compare a [op, op'] [b, c] pos) (bE (chE g g' ma mb mc)) := by
  refine dt_of (pt_chain ho.p ho'.p ha.p hb.p hc.p hm) fun W st S σ Q at_ q => ?_
  have key : ∀ W, At X.K W st S σ W.H → BQ X.K W Q (fun c d H' => Wx c d σ H') (bE (chE g g' ma mb mc) st S) →
      VQ X.K W (fun x H' => ∃ k, x = .bl k ∧ Q k H') (fun c d H' => Wx c d σ H') (chE g g' ma mb mc st S) := by
    intro W at_ q
    unfold bE at q
    cases e : chE g g' ma mb mc st S with
    | ok d S1 =>
      rw [e] at q
      simp only [bind_ok] at q
      cases e2 : asB d with
      | none => rw [e2] at q; exact q.elim
      | some k =>
        rw [e2] at q
        exact fun W' v l s r => ⟨k, rep_bl r e2, q W' l s⟩
    | err x S1 => rw [e] at q; exact q
    | bad => rw [e] at q; exact q
  exact ch_go at_ (key W at_ q)
/-! ### argument lists, displays -/
def seqE : List (EM D) → EM (List D)
  | [] => fun _ S => .ok [] S
  | m :: ms => fun st S => (m st S).bind fun d S1 => (seqE ms st S1).bind fun ds S2 => .ok (d :: ds) S2
theorem seqE_len : ∀ (ms : List (EM D)) (st : DSt) (S : Store) (ds : List D) (S' : Store), seqE ms st S = .ok ds S' → ds.length = ms.length
  | [], st, S, ds, S', h => by
    simp only [seqE, Res.ok.injEq] at h
    rw [← h.1]; rfl
  | m :: ms, st, S, ds, S', h => by
    unfold seqE at h
    cases e : m st S with
    | ok d S1 =>
      rw [e] at h
      simp only [bind_ok] at h
      cases e2 : seqE ms st S1 with
      | ok es S2 =>
        rw [e2] at h
        simp only [bind_ok, Res.ok.injEq] at h
        rw [← h.1, List.length_cons, List.length_cons, seqE_len ms st S1 es S2 e2]
      | err _ _ => rw [e2] at h; cases h
      | bad => rw [e2] at h; cases h
    | err _ _ => rw [e] at h; cases h
    | bad => rw [e] at h; cases h
variable {es : List Expr} {ms : List (EM D)} {e : Expr} {m : EM D}
theorem da_nil : DA X Wx [] (seqE []) := da_of pa_nil fun W st S σ Q at_ q => q W [] (.refl W) at_.s repL_nil
theorem da_cons (he : DE X Wx e m) (hr : DA X Wx es (seqE ms)) (hs : starEach (e :: es) X.env = (false, eval e X.env) :: starEach es X.env := by rfl) : DA X Wx (e :: es) (seqE (m :: ms)) := by
  refine da_of (pa_cons he.p hr.p hs) fun W st S σ Q at_ q => ?_
  refine goL at_ q fun W1 d S1 v l a1 r q1 => ?_
  refine goAL a1 q1 fun W2 ds S2 vs l2 a2 r2 q2 => ?_
  exact q2 W2 _ (.refl W2) a2.s (repL_cons (r.mono l2 _ _) r2)
def tupE (ml : EM (List D)) : EM D := fun st S => (ml st S).bind fun ds S1 => if ds.length ≤ sizeLine then .ok (.tup ds) S1 else .bad
def lstE (ml : EM (List D)) : EM D := fun st S => (ml st S).bind fun ds S1 => if ds.length ≤ sizeLine then .ok (.lst ds) S1 else .bad
def lstC (ml : EM (List D)) : EM D := fun st S => (ml st S).bind fun ds S1 => if ds.length ≤ sizeLine then .ok (.cell S1.length) (S1 ++ [.lst ds]) else .bad
/-- a new tuple, a new list that nobody changes, a new list that may be changed -/
theorem new_tup {K : PySem.W.Frag} {W : Wd} {S : Store} {ds : List D} {vs : List V} {Q : VK} {E : XK} (s : SRep K W S) (r : RepL K W ds vs) (q : VQ K W Q E (.ok (.tup ds) S)) : ∀ (p : Addr) (o : Obj), W.H p = none → o.dict = none → Q (.ref p) (upd W.H p (.frz o (.tup vs))) := fun p o hp ho => by
  refine q (W.put p (.frz o (.tup vs))) (.ref p) (Wd.put_le hp) (s.put hp) ?_
  simp only [Rep]
  exact ⟨p, vs, rfl, .inl ⟨⟨o, upd_same, ho⟩, s.noM hp⟩, r.mono (Wd.put_le hp) _ _⟩
/-- a new tuple's object is known -/
theorem laidT {pins : List (Addr × Obj)} {σ : St} {H : Hp} {s : Shared} {vs : List V} {its : List Value} (I : Inv X pins σ H s) (r : Vals vs its) (z : vs.length ≤ sizeLine) :
    Inv X pins σ (upd H s.heap.objs.size (.frz { cls := .type "tuple", data := .seq its.toArray } (.tup vs))) { s with heap := s.heap.push { cls := .type "tuple", data := .seq its.toArray } } :=
  I.laid (t' := s.toks) (fun b u e => Heap.get?_push_of_some _ e) (Nat.le_refl _) ⟨Heap.get?_push_size _ rfl, z, its, r, ⟨_, Heap.get?_push_size _ rfl, rfl, _, rfl⟩⟩
def tTupF (t : TA) : TE := fun σ H Q => t σ H fun xs H1 => xs.length ≤ sizeLine ∧ ∀ (p : Addr) (o : Obj), H1 p = none → o.dict = none → Q (.ref p) (upd H1 p (.frz o (.tup xs)))
theorem pe_tupF {es : List Expr} {t : TA} {x1 pos} (h : PA X es t) : PE X (.Tuple es x1 pos) (tTupF t) :=
  ⟨fun pins s σ H Q I hq => wpAny_Tuple_spliced (L2.thn (h.run pos pins s σ H _ I hq) fun us s1 ⟨xs, H1, I1, r, z, q⟩ => ⟨by rw [← r.length]; exact z, .ref s1.heap.objs.size, _, laidT I1 r z, rfl, q _ _ (I1.hok.fresh (Nat.le_refl _)) rfl⟩)⟩
theorem new_lst {K : PySem.W.Frag} {W : Wd} {S : Store} {ds : List D} {vs : List V} {Q : VK} {E : XK} (s : SRep K W S) (r : RepL K W ds vs) (q : VQ K W Q E (.ok (.lst ds) S)) : ∀ p, W.H p = none → Q (.ref p) (upd W.H p (.lst vs)) := fun p hp => by
  refine q (W.put p (.lst vs)) (.ref p) (Wd.put_le hp) (s.put hp) ?_
  simp only [Rep]
  exact ⟨p, vs, rfl, upd_same, s.noM hp, r.mono (Wd.put_le hp) _ _⟩
theorem rep_last {K : PySem.W.Frag} {W : Wd} {S : Store} {p : Addr} {o : HO} (s : SRep K W S) : Rep K (W.cel p o) (.cell S.length) (.ref p) := by
  simp only [Rep]
  refine ⟨p, rfl, ?_⟩
  show (W.N ++ [p])[S.length]? = some p
  rw [← s.len]
  simp
theorem new_cel {K : PySem.W.Frag} {W : Wd} {S : Store} {ds : List D} {vs : List V} {Q : VK} {E : XK} (s : SRep K W S) (r : RepL K W ds vs) (q : VQ K W Q E (.ok (.cell S.length) (S ++ [.lst ds]))) : ∀ p, W.H p = none → Q (.ref p) (upd W.H p (.lst vs)) := fun p hp => by
  refine q (W.cel p (.lst vs)) (.ref p) (Wd.cel_le hp) (s.cel hp ⟨vs, upd_same, .inr rfl, r.mono (Wd.cel_le hp) _ _⟩) (rep_last s)
theorem size_if {K : PySem.W.Frag} {W : Wd} {Q : VK} {E : XK} {n : Nat} {r : Res D} (q : VQ K W Q E (if n ≤ sizeLine then r else .bad)) : n ≤ sizeLine ∧ VQ K W Q E r := by
  by_cases h : n ≤ sizeLine
  · rw [if_pos h] at q; exact ⟨h, q⟩
  · rw [if_neg h] at q; exact q.elim
variable {ml : EM (List D)} {x1 : Nat}
theorem de_tup {x1} (h : DA X Wx es ml) : DE X Wx (.Tuple es x1 pos) (tupE ml) := by
  refine de_of (pe_tupF h.p) fun W st S σ Q at_ q => ?_
  refine goAE at_ q fun W1 ds S1 vs l a1 r q1 => ?_
  obtain ⟨hl, q1⟩ := size_if q1
  exact ⟨by rw [← r.length]; exact hl, new_tup a1.s r q1⟩
theorem de_lst (h : DA X Wx es ml) : DE X Wx (.List es pos) (lstE ml) := by
  refine de_of (pe_lst h.p) fun W st S σ Q at_ q => ?_
  refine goAE at_ q fun W1 ds S1 vs l a1 r q1 => ?_
  obtain ⟨hl, q1⟩ := size_if q1
  exact ⟨by rw [← r.length]; exact hl, new_lst a1.s r q1⟩
theorem de_lstC (h : DA X Wx es ml) : DE X Wx (.List es pos) (lstC ml) := by
  refine de_of (pe_lst h.p) fun W st S σ Q at_ q => ?_
  refine goAE at_ q fun W1 ds S1 vs l a1 r q1 => ?_
  obtain ⟨hl, q1⟩ := size_if q1
  exact ⟨by rw [← r.length]; exact hl, new_cel a1.s r q1⟩

/-! ### sequences -/
/-- the items of a list (whatever it is), of a tuple -/
def asL (S : Store) : D → Option (List D)
  | .lst xs => some xs
  | .scr xs => some xs
  | .cell n => match S[n]? with
    | some (.lst xs) => some xs
    | some (.fro xs) => some xs
    | _ => none
  | _ => none
/-- a list of our own -/
def asO (S : Store) : D → Option (List D)
  | .lst xs => some xs
  | .cell n => match S[n]? with
    | some (.lst xs) => some xs
    | some (.fro xs) => some xs
    | _ => none
  | _ => none
theorem asO_rep {K : PySem.W.Frag} {W : Wd} {S : Store} {d : D} {v : V} {xs : List D} (s : SRep K W S) (r : Rep K W d v) (e : asO S d = some xs) : ∃ a vs, v = .ref a ∧ W.H a = some (.lst vs) ∧ RepL K W xs vs := by
  cases d <;> simp only [asO] at e <;> try cases e
  · simp only [Rep] at r
    obtain ⟨a, vs, h1, h2, _, h3⟩ := r
    exact ⟨a, vs, h1, h2, h3⟩
  · simp only [Rep] at r
    obtain ⟨a, rfl, h2⟩ := r
    split at e <;> try cases e
    · rename_i n h
      obtain ⟨vs, q1, q2, q3⟩ := s.at_ _ _ _ h2 h
      exact ⟨a, vs, rfl, q1, q3⟩
    · rename_i n h
      obtain ⟨vs, q1, q2, q3⟩ := s.at_ _ _ _ h2 h
      exact ⟨a, vs, rfl, q1, q3⟩
def asT : D → Option (List D)
  | .tup xs => some xs
  | _ => none
theorem asL_rep {K : PySem.W.Frag} {W : Wd} {S : Store} {d : D} {v : V} {xs : List D} (s : SRep K W S) (r : Rep K W d v) (e : asL S d = some xs) : ∃ a vs, v = .ref a ∧ SqL K W.H a vs ∧ RepL K W xs vs := by
  cases d <;> simp only [asL] at e <;> try cases e
  · simp only [Rep] at r
    obtain ⟨a, vs, h1, h2, _, h3⟩ := r
    exact ⟨a, vs, h1, .inl (.inl h2), h3⟩
  · simp only [Rep] at r
    obtain ⟨a, vs, h1, h2, h3⟩ := r
    exact ⟨a, vs, h1, h2.sq, h3⟩
  · simp only [Rep] at r
    obtain ⟨a, rfl, h2⟩ := r
    split at e <;> try cases e
    · rename_i n h
      obtain ⟨vs, q1, q2, q3⟩ := s.at_ _ _ _ h2 h
      exact ⟨a, vs, rfl, .inl (.inl q1), q3⟩
    · rename_i n h
      obtain ⟨vs, q1, q2, q3⟩ := s.at_ _ _ _ h2 h
      exact ⟨a, vs, rfl, .inl (.inl q1), q3⟩
theorem asT_rep {K : PySem.W.Frag} {W : Wd} {d : D} {v : V} {xs : List D} (r : Rep K W d v) (e : asT d = some xs) : ∃ a vs, v = .ref a ∧ SqT K W.H a vs ∧ RepL K W xs vs := by
  cases d <;> simp only [asT] at e <;> try cases e
  simp only [Rep] at r
  obtain ⟨a, vs, h1, h2, h3⟩ := r
  exact ⟨a, vs, h1, h2.sq, h3⟩
def asS : D → Option Str
  | .str x => some x
  | _ => none
theorem asS_rep {K : PySem.W.Frag} {W : Wd} {d : D} {v : V} {x : Str} (r : Rep K W d v) (e : asS d = some x) : v = .str x := by
  cases d <;> simp only [asS] at e <;> try cases e
  simpa [Rep] using r
def asI : D → Option Int
  | .int i => some i
  | _ => none
theorem asI_rep {K : PySem.W.Frag} {W : Wd} {d : D} {v : V} {x : Int} (r : Rep K W d v) (e : asI d = some x) : v = .int x := by
  cases d <;> simp only [asI] at e <;> try cases e
  simpa [Rep] using r
theorem RepL.atI {K : PySem.W.Frag} {W : Wd} {ds : List D} {vs : List V} {i : Int} {d : D} (r : RepL K W ds vs) (e : L2.atI ds i = some d) : ∃ v, L2.atI vs i = some v ∧ Rep K W d v := by
  unfold L2.atI at e ⊢
  rw [← r.length]
  cases h : ixN ds.length i with
  | none => rw [h] at e; cases e
  | some j =>
    rw [h] at e
    exact r.get e
/-- x[i] -/
def gIx (x y : D) (S : Store) : Option D := match asI y with
  | none => none
  | some i => match x with
    | .str z => if z.length ≤ sizeLine then (L2.atI z.cps.toList i).map fun c => .str ⟨#[c]⟩ else none
    | .tup ds => L2.atI ds i
    | x => (asL S x).bind fun ds => L2.atI ds i
theorem de_ix (ha : DE X Wx a ma) (hb : DE X Wx b mb) (hs : PlainIx b := by exact fun _ _ => rfl) : DE X Wx (.Subscript a b pos) (opE gIx ma mb) := by
  refine de_of (pe_ix ix_seq ha.p hb.p hs) fun W st S σ Q at_ q => ?_
  refine goE at_ q fun W1 dx S1 x l1 a1 r1 q1 => ?_
  refine goE a1 q1 fun W2 dy S2 y l2 a2 r2 q2 => ?_
  obtain ⟨d, e, k⟩ := of_go q2
  have r1' := r1.mono l2 _ _
  unfold gIx at e
  cases ey : asI dy with
  | none => rw [ey] at e; cases e
  | some i =>
    rw [ey] at e
    obtain rfl := asI_rep r2 ey
    cases dx <;> simp only at e
    case str z =>
      by_cases hz : z.length ≤ sizeLine
      · rw [if_pos hz] at e
        cases h : L2.atI z.cps.toList i with
        | none => rw [h] at e; cases e
        | some c =>
          rw [h] at e
          cases e
          have : x = .str z := by simpa [Rep] using r1'
          exact .inr (.inr ⟨z, i, c, this, rfl, hz, h, k W2 _ (.refl W2) a2.s (by simp [Rep])⟩)
      · rw [if_neg hz] at e; cases e
    case tup ds =>
      obtain ⟨p, vs, rfl, h1, h2⟩ := asT_rep r1' rfl
      obtain ⟨v, h3, h4⟩ := h2.atI e
      exact .inr (.inl ⟨p, vs, i, v, rfl, rfl, h1, h3, k W2 _ (.refl W2) a2.s h4⟩)
    all_goals
      cases h : asL S2 _ with
      | none => rw [h] at e; cases e
      | some ds =>
        rw [h] at e
        obtain ⟨p, vs, rfl, h1, h2⟩ := asL_rep a2.s r1' h
        obtain ⟨v, h3, h4⟩ := h2.atI e
        exact .inl ⟨p, vs, i, v, rfl, rfl, h1, h3, k W2 _ (.refl W2) a2.s h4⟩
end
end KF

set_option Elab.async false
set_option linter.all false
set_option maxRecDepth 100000
set_option maxHeartbeats 4000000
/-! KFD0: ==, !=, in of data. -/
namespace KF
open PySem PySem.Spec PyProof.Rows L2

/-! ### a dict beside something else -/
section
open SeqAt MeetsSeq
variable {A : Around} {s : Shared} {l b : Addr} {o : Obj}
/-- the object is a dict -/
def IsD (h : Heap) (a : Addr) : Prop := ∃ o es n, h.get? a = some o ∧ o.cls = .type "dict" ∧ o.data = .dict es n
theorem dict_decl_none  (l : Addr) (dd : Option Addr) (es : Array DictEntry) (n : Nat) (sl : Array (Option Value)) :
    Meets (Builtin.«dict.__eq__» ⟨[.ref l, .none], []⟩) (fun _ R s => s.heap.get? l = some { cls := .type "dict", dict := dd, data := .dict es n, slots := sl } ∧ R (.ok (.ret .notImplemented)) s) :=
  .of_wp fun prog w A R s h => by
    obtain ⟨hp, g, d, tk, os⟩ := s
    obtain ⟨hl, h⟩ := h
    have f1 := F.sub_NoneType_dict
    wp_walk using wpAny_loadPart' hl, wpAny_load hl
    exact ⟨_, rfl, h⟩
theorem bool_decl_d (x : Bool) (l : Addr) (dd : Option Addr) (es : Array DictEntry) (n : Nat) (sl : Array (Option Value)) :
    Meets (Builtin.«int.__eq__» ⟨[.bool x, .ref l], []⟩) (fun _ R s => s.heap.get? l = some { cls := .type "dict", dict := dd, data := .dict es n, slots := sl } ∧ R (.ok (.ret .notImplemented)) s) :=
  .of_wp fun prog w A R s h => by
    obtain ⟨hp, g, d, tk, os⟩ := s
    obtain ⟨hl, h⟩ := h
    wp_walk using wpAny_loadPart' hl, wpAny_load hl
    exact ⟨_, rfl, h⟩
theorem dict_decl_bool (x : Bool) (l : Addr) (dd : Option Addr) (es : Array DictEntry) (n : Nat) (sl : Array (Option Value)) :
    Meets (Builtin.«dict.__eq__» ⟨[.ref l, .bool x], []⟩) (fun _ R s => s.heap.get? l = some { cls := .type "dict", dict := dd, data := .dict es n, slots := sl } ∧ R (.ok (.ret .notImplemented)) s) :=
  .of_wp fun prog w A R s h => by
    obtain ⟨hp, g, d, tk, os⟩ := s
    obtain ⟨hl, h⟩ := h
    have f1 := F.sub_bool_dict
    wp_walk using wpAny_loadPart' hl, wpAny_load hl
    exact ⟨_, rfl, h⟩
theorem int_decl_d (x : Int) (u : Tok) (l : Addr) (dd : Option Addr) (es : Array DictEntry) (n : Nat) (sl : Array (Option Value)) :
    Meets (Builtin.«int.__eq__» ⟨[.int x u, .ref l], []⟩) (fun _ R s => s.heap.get? l = some { cls := .type "dict", dict := dd, data := .dict es n, slots := sl } ∧ R (.ok (.ret .notImplemented)) s) :=
  .of_wp fun prog w A R s h => by
    obtain ⟨hp, g, d, tk, os⟩ := s
    obtain ⟨hl, h⟩ := h
    wp_walk using wpAny_loadPart' hl, wpAny_load hl
    exact ⟨_, rfl, h⟩
theorem dict_decl_int (x : Int) (u : Tok) (l : Addr) (dd : Option Addr) (es : Array DictEntry) (n : Nat) (sl : Array (Option Value)) :
    Meets (Builtin.«dict.__eq__» ⟨[.ref l, .int x u], []⟩) (fun _ R s => s.heap.get? l = some { cls := .type "dict", dict := dd, data := .dict es n, slots := sl } ∧ R (.ok (.ret .notImplemented)) s) :=
  .of_wp fun prog w A R s h => by
    obtain ⟨hp, g, d, tk, os⟩ := s
    obtain ⟨hl, h⟩ := h
    have f1 := F.sub_int_dict
    wp_walk using wpAny_loadPart' hl, wpAny_load hl
    exact ⟨_, rfl, h⟩
theorem str_decl_d (x : Str) (u : Tok) (l : Addr) (dd : Option Addr) (es : Array DictEntry) (n : Nat) (sl : Array (Option Value)) :
    Meets (Builtin.«str.__eq__» ⟨[.str x u, .ref l], []⟩) (fun _ R s => s.heap.get? l = some { cls := .type "dict", dict := dd, data := .dict es n, slots := sl } ∧ R (.ok (.ret .notImplemented)) s) :=
  .of_wp fun prog w A R s h => by
    obtain ⟨hp, g, d, tk, os⟩ := s
    obtain ⟨hl, h⟩ := h
    wp_walk using wpAny_loadPart' hl, wpAny_load hl
    exact ⟨_, rfl, h⟩
theorem dict_decl_str (x : Str) (u : Tok) (l : Addr) (dd : Option Addr) (es : Array DictEntry) (n : Nat) (sl : Array (Option Value)) :
    Meets (Builtin.«dict.__eq__» ⟨[.ref l, .str x u], []⟩) (fun _ R s => s.heap.get? l = some { cls := .type "dict", dict := dd, data := .dict es n, slots := sl } ∧ R (.ok (.ret .notImplemented)) s) :=
  .of_wp fun prog w A R s h => by
    obtain ⟨hp, g, d, tk, os⟩ := s
    obtain ⟨hl, h⟩ := h
    have f1 := F.sub_str_dict
    wp_walk using wpAny_loadPart' hl, wpAny_load hl
    exact ⟨_, rfl, h⟩
theorem list_decl_d (b : Addr) (items : Array Value) (n2 : Nat) (dd2 : Option Addr) (sl2 : Array (Option Value)) (l : Addr) (dd : Option Addr) (es : Array DictEntry) (n : Nat) (sl : Array (Option Value)) :
    Meets (Builtin.«list.__eq__» ⟨[.ref b, .ref l], []⟩) (fun _ R s => s.heap.get? b = some { cls := .type "list", dict := dd2, data := .seq items n2, slots := sl2 } ∧ s.heap.get? l = some { cls := .type "dict", dict := dd, data := .dict es n, slots := sl } ∧ R (.ok (.ret .notImplemented)) s) :=
  .of_wp fun prog w A R s h => by
    obtain ⟨hp, g, d, tk, os⟩ := s
    obtain ⟨hl2, hl, h⟩ := h
    have f1 := F.sub_dict_list
    wp_walk using wpAny_loadPart' hl, wpAny_loadPart' hl2, wpAny_load hl, wpAny_load hl2
    exact ⟨_, rfl, h⟩
theorem dict_decl_list (b : Addr) (items : Array Value) (n2 : Nat) (dd2 : Option Addr) (sl2 : Array (Option Value)) (l : Addr) (dd : Option Addr) (es : Array DictEntry) (n : Nat) (sl : Array (Option Value)) :
    Meets (Builtin.«dict.__eq__» ⟨[.ref l, .ref b], []⟩) (fun _ R s => s.heap.get? b = some { cls := .type "list", dict := dd2, data := .seq items n2, slots := sl2 } ∧ s.heap.get? l = some { cls := .type "dict", dict := dd, data := .dict es n, slots := sl } ∧ R (.ok (.ret .notImplemented)) s) :=
  .of_wp fun prog w A R s h => by
    obtain ⟨hp, g, d, tk, os⟩ := s
    obtain ⟨hl2, hl, h⟩ := h
    have f1 := F.sub_list_dict
    wp_walk using wpAny_loadPart' hl, wpAny_loadPart' hl2, wpAny_load hl, wpAny_load hl2
    exact ⟨_, rfl, h⟩
theorem tuple_decl_d (b : Addr) (items : Array Value) (n2 : Nat) (dd2 : Option Addr) (sl2 : Array (Option Value)) (l : Addr) (dd : Option Addr) (es : Array DictEntry) (n : Nat) (sl : Array (Option Value)) :
    Meets (Builtin.«tuple.__eq__» ⟨[.ref b, .ref l], []⟩) (fun _ R s => s.heap.get? b = some { cls := .type "tuple", dict := dd2, data := .seq items n2, slots := sl2 } ∧ s.heap.get? l = some { cls := .type "dict", dict := dd, data := .dict es n, slots := sl } ∧ R (.ok (.ret .notImplemented)) s) :=
  .of_wp fun prog w A R s h => by
    obtain ⟨hp, g, d, tk, os⟩ := s
    obtain ⟨hl2, hl, h⟩ := h
    have f1 := F.sub_dict_tuple
    wp_walk using wpAny_loadPart' hl, wpAny_loadPart' hl2, wpAny_load hl, wpAny_load hl2
    exact ⟨_, rfl, h⟩
theorem dict_decl_tuple (b : Addr) (items : Array Value) (n2 : Nat) (dd2 : Option Addr) (sl2 : Array (Option Value)) (l : Addr) (dd : Option Addr) (es : Array DictEntry) (n : Nat) (sl : Array (Option Value)) :
    Meets (Builtin.«dict.__eq__» ⟨[.ref l, .ref b], []⟩) (fun _ R s => s.heap.get? b = some { cls := .type "tuple", dict := dd2, data := .seq items n2, slots := sl2 } ∧ s.heap.get? l = some { cls := .type "dict", dict := dd, data := .dict es n, slots := sl } ∧ R (.ok (.ret .notImplemented)) s) :=
  .of_wp fun prog w A R s h => by
    obtain ⟨hp, g, d, tk, os⟩ := s
    obtain ⟨hl2, hl, h⟩ := h
    have f1 := F.sub_tuple_dict
    wp_walk using wpAny_loadPart' hl, wpAny_loadPart' hl2, wpAny_load hl, wpAny_load hl2
    exact ⟨_, rfl, h⟩
theorem rc_none_d  (hl : IsD s.heap l) (hu : A.units < cLine) : RcAt A s .none (.ref l) false := fun prog w E Q h => by
  obtain ⟨⟨cls, dd, data, sl⟩, es, n, ho, hc, hd⟩ := id hl
  simp only at hc hd
  subst hc hd
  exact rc_eq_decline_or (k := false) rfl ⟨_, ho, rfl⟩ (by decide) F.sub_dict_NoneType F.slot_NoneType_eq F.slot_dict_eq_refl
    (fun _ hq => call_gives F.slot_NoneType_eq rfl F.entry_NoneType_eq (F.args_NoneType_eq_2 _ _) (NoneType___eq___none_ref_0 l) hq)
    (fun _ hq => call_meets F.slot_dict_eq_refl ⟨_, ho, rfl⟩ F.entry_dict_eq (F.args_dict_eq_2 _ _) (dict_decl_none l dd es n sl) ⟨ho, hq⟩)
    (fun _ hq => wpAny_of_eq (rfl : isSame .none (.ref l) = pure false) hq) (.inr hu) h
theorem rc_d_none  (hl : IsD s.heap l) (hu : A.units < cLine) : RcAt A s (.ref l) .none false := fun prog w E Q h => by
  obtain ⟨⟨cls, dd, data, sl⟩, es, n, ho, hc, hd⟩ := id hl
  simp only at hc hd
  subst hc hd
  exact rc_eq_decline_or (k := false) ⟨_, ho, rfl⟩ rfl (by decide) F.sub_NoneType_dict F.slot_dict_eq F.slot_NoneType_eq_refl
    (fun _ hq => call_meets F.slot_dict_eq ⟨_, ho, rfl⟩ F.entry_dict_eq (F.args_dict_eq_2 _ _) (dict_decl_none l dd es n sl) ⟨ho, hq⟩)
    (fun _ hq => call_gives F.slot_NoneType_eq_refl rfl F.entry_NoneType_eq (F.args_NoneType_eq_2 _ _) (NoneType___eq___none_ref_0 l) hq)
    (fun _ hq => wpAny_of_eq (rfl : isSame (.ref l) .none = pure false) hq) (.inr hu) h
theorem rc_bool_d (x : Bool) (hl : IsD s.heap l) (hu : A.units < cLine) : RcAt A s (.bool x) (.ref l) false := fun prog w E Q h => by
  obtain ⟨⟨cls, dd, data, sl⟩, es, n, ho, hc, hd⟩ := id hl
  simp only at hc hd
  subst hc hd
  exact rc_eq_decline_or (k := false) rfl ⟨_, ho, rfl⟩ (by decide) F.sub_dict_bool F.slot_bool_eq F.slot_dict_eq_refl
    (fun _ hq => call_meets F.slot_bool_eq rfl F.entry_int_eq (F.args_int_eq_2 _ _) (bool_decl_d x l dd es n sl) ⟨ho, hq⟩)
    (fun _ hq => call_meets F.slot_dict_eq_refl ⟨_, ho, rfl⟩ F.entry_dict_eq (F.args_dict_eq_2 _ _) (dict_decl_bool x l dd es n sl) ⟨ho, hq⟩)
    (fun _ hq => wpAny_of_eq (rfl : isSame (.bool x) (.ref l) = pure false) hq) (.inr hu) h
theorem rc_d_bool (x : Bool) (hl : IsD s.heap l) (hu : A.units < cLine) : RcAt A s (.ref l) (.bool x) false := fun prog w E Q h => by
  obtain ⟨⟨cls, dd, data, sl⟩, es, n, ho, hc, hd⟩ := id hl
  simp only at hc hd
  subst hc hd
  exact rc_eq_decline_or (k := false) ⟨_, ho, rfl⟩ rfl (by decide) F.sub_bool_dict F.slot_dict_eq F.slot_bool_eq_refl
    (fun _ hq => call_meets F.slot_dict_eq ⟨_, ho, rfl⟩ F.entry_dict_eq (F.args_dict_eq_2 _ _) (dict_decl_bool x l dd es n sl) ⟨ho, hq⟩)
    (fun _ hq => call_meets F.slot_bool_eq_refl rfl F.entry_int_eq (F.args_int_eq_2 _ _) (bool_decl_d x l dd es n sl) ⟨ho, hq⟩)
    (fun _ hq => wpAny_of_eq (rfl : isSame (.ref l) (.bool x) = pure false) hq) (.inr hu) h
theorem rc_int_d (x : Int) (u : Tok) (hl : IsD s.heap l) (hu : A.units < cLine) : RcAt A s (.int x u) (.ref l) false := fun prog w E Q h => by
  obtain ⟨⟨cls, dd, data, sl⟩, es, n, ho, hc, hd⟩ := id hl
  simp only at hc hd
  subst hc hd
  exact rc_eq_decline_or (k := false) (typeIs_int s x u) ⟨_, ho, rfl⟩ (by decide) F.sub_dict_int F.slot_int_eq F.slot_dict_eq_refl
    (fun _ hq => call_meets F.slot_int_eq (typeIs_int s x u) F.entry_int_eq (F.args_int_eq_2 _ _) (int_decl_d x u l dd es n sl) ⟨ho, hq⟩)
    (fun _ hq => call_meets F.slot_dict_eq_refl ⟨_, ho, rfl⟩ F.entry_dict_eq (F.args_dict_eq_2 _ _) (dict_decl_int x u l dd es n sl) ⟨ho, hq⟩)
    (fun _ hq => wpAny_of_eq (rfl : isSame (.int x u) (.ref l) = pure false) hq) (.inr hu) h
theorem rc_d_int (x : Int) (u : Tok) (hl : IsD s.heap l) (hu : A.units < cLine) : RcAt A s (.ref l) (.int x u) false := fun prog w E Q h => by
  obtain ⟨⟨cls, dd, data, sl⟩, es, n, ho, hc, hd⟩ := id hl
  simp only at hc hd
  subst hc hd
  exact rc_eq_decline_or (k := false) ⟨_, ho, rfl⟩ (typeIs_int s x u) (by decide) F.sub_int_dict F.slot_dict_eq F.slot_int_eq_refl
    (fun _ hq => call_meets F.slot_dict_eq ⟨_, ho, rfl⟩ F.entry_dict_eq (F.args_dict_eq_2 _ _) (dict_decl_int x u l dd es n sl) ⟨ho, hq⟩)
    (fun _ hq => call_meets F.slot_int_eq_refl (typeIs_int s x u) F.entry_int_eq (F.args_int_eq_2 _ _) (int_decl_d x u l dd es n sl) ⟨ho, hq⟩)
    (fun _ hq => wpAny_of_eq (rfl : isSame (.ref l) (.int x u) = pure false) hq) (.inr hu) h
theorem rc_str_d (x : Str) (u : Tok) (hl : IsD s.heap l) (hu : A.units < cLine) : RcAt A s (.str x u) (.ref l) false := fun prog w E Q h => by
  obtain ⟨⟨cls, dd, data, sl⟩, es, n, ho, hc, hd⟩ := id hl
  simp only at hc hd
  subst hc hd
  exact rc_eq_decline_or (k := false) (typeIs_str s x u) ⟨_, ho, rfl⟩ (by decide) F.sub_dict_str F.slot_str_eq F.slot_dict_eq_refl
    (fun _ hq => call_meets F.slot_str_eq (typeIs_str s x u) F.entry_str_eq (F.args_str_eq_2 _ _) (str_decl_d x u l dd es n sl) ⟨ho, hq⟩)
    (fun _ hq => call_meets F.slot_dict_eq_refl ⟨_, ho, rfl⟩ F.entry_dict_eq (F.args_dict_eq_2 _ _) (dict_decl_str x u l dd es n sl) ⟨ho, hq⟩)
    (fun _ hq => wpAny_of_eq (rfl : isSame (.str x u) (.ref l) = pure false) hq) (.inr hu) h
theorem rc_d_str (x : Str) (u : Tok) (hl : IsD s.heap l) (hu : A.units < cLine) : RcAt A s (.ref l) (.str x u) false := fun prog w E Q h => by
  obtain ⟨⟨cls, dd, data, sl⟩, es, n, ho, hc, hd⟩ := id hl
  simp only at hc hd
  subst hc hd
  exact rc_eq_decline_or (k := false) ⟨_, ho, rfl⟩ (typeIs_str s x u) (by decide) F.sub_str_dict F.slot_dict_eq F.slot_str_eq_refl
    (fun _ hq => call_meets F.slot_dict_eq ⟨_, ho, rfl⟩ F.entry_dict_eq (F.args_dict_eq_2 _ _) (dict_decl_str x u l dd es n sl) ⟨ho, hq⟩)
    (fun _ hq => call_meets F.slot_str_eq_refl (typeIs_str s x u) F.entry_str_eq (F.args_str_eq_2 _ _) (str_decl_d x u l dd es n sl) ⟨ho, hq⟩)
    (fun _ hq => wpAny_of_eq (rfl : isSame (.ref l) (.str x u) = pure false) hq) (.inr hu) h
theorem rc_list_d {b : Addr} {items : Array Value} (hb : s.heap.IsList b items) (hl : IsD s.heap l) (hu : A.units < cLine) : RcAt A s (.ref b) (.ref l) false := fun prog w E Q h => by
  obtain ⟨⟨cls, dd, data, sl⟩, es, n, ho, hc, hd⟩ := id hl
  obtain ⟨⟨cls2, dd2, data2, sl2⟩, ho2, hc2, n2, hd2⟩ := id hb
  simp only at hc hd hc2 hd2
  subst hc hd hc2 hd2
  have hne : b ≠ l := fun e => by
    rw [e, ho] at ho2
    simp at ho2
  exact rc_eq_decline_or (k := false) ⟨_, ho2, rfl⟩ ⟨_, ho, rfl⟩ (by decide) F.sub_dict_list F.slot_list_eq F.slot_dict_eq_refl
    (fun _ hq => call_meets F.slot_list_eq ⟨_, ho2, rfl⟩ F.entry_list_eq (F.args_list_eq_2 _ _) (list_decl_d b items n2 dd2 sl2 l dd es n sl) ⟨ho2, ho, hq⟩)
    (fun _ hq => call_meets F.slot_dict_eq_refl ⟨_, ho, rfl⟩ F.entry_dict_eq (F.args_dict_eq_2 _ _) (dict_decl_list b items n2 dd2 sl2 l dd es n sl) ⟨ho2, ho, hq⟩)
    (fun _ hq => wpAny_isSame_ref_other' hne ho2 ho (by simp) hq) (.inr hu) h
theorem rc_d_list {b : Addr} {items : Array Value} (hl : IsD s.heap l) (hb : s.heap.IsList b items) (hu : A.units < cLine) : RcAt A s (.ref l) (.ref b) false := fun prog w E Q h => by
  obtain ⟨⟨cls, dd, data, sl⟩, es, n, ho, hc, hd⟩ := id hl
  obtain ⟨⟨cls2, dd2, data2, sl2⟩, ho2, hc2, n2, hd2⟩ := id hb
  simp only at hc hd hc2 hd2
  subst hc hd hc2 hd2
  have hne : l ≠ b := fun e => by
    rw [← e, ho] at ho2
    simp at ho2
  exact rc_eq_decline_or (k := false) ⟨_, ho, rfl⟩ ⟨_, ho2, rfl⟩ (by decide) F.sub_list_dict F.slot_dict_eq F.slot_list_eq_refl
    (fun _ hq => call_meets F.slot_dict_eq ⟨_, ho, rfl⟩ F.entry_dict_eq (F.args_dict_eq_2 _ _) (dict_decl_list b items n2 dd2 sl2 l dd es n sl) ⟨ho2, ho, hq⟩)
    (fun _ hq => call_meets F.slot_list_eq_refl ⟨_, ho2, rfl⟩ F.entry_list_eq (F.args_list_eq_2 _ _) (list_decl_d b items n2 dd2 sl2 l dd es n sl) ⟨ho2, ho, hq⟩)
    (fun _ hq => wpAny_isSame_ref_other hne ho ho2 (by simp) hq) (.inr hu) h
theorem rc_tuple_d {b : Addr} {items : Array Value} (hb : s.heap.IsTuple b items) (hl : IsD s.heap l) (hu : A.units < cLine) : RcAt A s (.ref b) (.ref l) false := fun prog w E Q h => by
  obtain ⟨⟨cls, dd, data, sl⟩, es, n, ho, hc, hd⟩ := id hl
  obtain ⟨⟨cls2, dd2, data2, sl2⟩, ho2, hc2, n2, hd2⟩ := id hb
  simp only at hc hd hc2 hd2
  subst hc hd hc2 hd2
  have hne : b ≠ l := fun e => by
    rw [e, ho] at ho2
    simp at ho2
  exact rc_eq_decline_or (k := false) ⟨_, ho2, rfl⟩ ⟨_, ho, rfl⟩ (by decide) F.sub_dict_tuple F.slot_tuple_eq F.slot_dict_eq_refl
    (fun _ hq => call_meets F.slot_tuple_eq ⟨_, ho2, rfl⟩ F.entry_tuple_eq (F.args_tuple_eq_2 _ _) (tuple_decl_d b items n2 dd2 sl2 l dd es n sl) ⟨ho2, ho, hq⟩)
    (fun _ hq => call_meets F.slot_dict_eq_refl ⟨_, ho, rfl⟩ F.entry_dict_eq (F.args_dict_eq_2 _ _) (dict_decl_tuple b items n2 dd2 sl2 l dd es n sl) ⟨ho2, ho, hq⟩)
    (fun _ hq => wpAny_isSame_ref_other' hne ho2 ho (by simp) hq) (.inr hu) h
theorem rc_d_tuple {b : Addr} {items : Array Value} (hl : IsD s.heap l) (hb : s.heap.IsTuple b items) (hu : A.units < cLine) : RcAt A s (.ref l) (.ref b) false := fun prog w E Q h => by
  obtain ⟨⟨cls, dd, data, sl⟩, es, n, ho, hc, hd⟩ := id hl
  obtain ⟨⟨cls2, dd2, data2, sl2⟩, ho2, hc2, n2, hd2⟩ := id hb
  simp only at hc hd hc2 hd2
  subst hc hd hc2 hd2
  have hne : l ≠ b := fun e => by
    rw [← e, ho] at ho2
    simp at ho2
  exact rc_eq_decline_or (k := false) ⟨_, ho, rfl⟩ ⟨_, ho2, rfl⟩ (by decide) F.sub_tuple_dict F.slot_dict_eq F.slot_tuple_eq_refl
    (fun _ hq => call_meets F.slot_dict_eq ⟨_, ho, rfl⟩ F.entry_dict_eq (F.args_dict_eq_2 _ _) (dict_decl_tuple b items n2 dd2 sl2 l dd es n sl) ⟨ho2, ho, hq⟩)
    (fun _ hq => call_meets F.slot_tuple_eq_refl ⟨_, ho2, rfl⟩ F.entry_tuple_eq (F.args_tuple_eq_2 _ _) (tuple_decl_d b items n2 dd2 sl2 l dd es n sl) ⟨ho2, ho, hq⟩)
    (fun _ hq => wpAny_isSame_ref_other hne ho ho2 (by simp) hq) (.inr hu) h
end
end KF

set_option Elab.async false
set_option linter.all false
set_option maxRecDepth 100000
set_option maxHeartbeats 4000000
/-! KFD: ==, !=, in of data. -/
namespace KF
open PySem PySem.Spec PyProof.Rows L2

/-- data as it looks: a cell that holds a list looks like the list -/
inductive Vw where
  | non | bl (b : Bool) | int (i : Int) | str (x : Str) | lst (xs : List D) | tup (xs : List D) | dct (n : Nat) | oth
def vw (S : Store) : D → Vw
  | .non => .non
  | .bl b => .bl b
  | .int i => .int i
  | .str x => .str x
  | .tup xs => .tup xs
  | .lst xs => .lst xs
  | .scr xs => .lst xs
  | .dct ks xs => .dct ks.length
  | .cell n => match S[n]? with
    | some (.lst xs) => .lst xs
    | some (.fro xs) => .lst xs
    | _ => .oth
  | _ => .oth
/-- item by item -/
def eqs (f : D → D → Option Bool) : List D → List D → Option Bool
  | x :: xs, y :: ys => match f x y, eqs f xs ys with
    | some a, some b => some (a && b)
    | _, _ => none
  | _, _ => some true
/-- ==; the number: how deep -/
def eqD (S : Store) : Nat → D → D → Option Bool
  | 0, _, _ => none
  | n + 1, x, y => match vw S x, vw S y with
    | .non, .non => some true
    | .bl a, .bl b => some (a == b)
    | .bl a, .int b => some ((if a then 1 else 0) == b)
    | .int a, .bl b => some (a == (if b then 1 else 0))
    | .int a, .int b => some (a == b)
    | .str a, .str b => some (a == b)
    | .lst xs, .lst ys => if xs.length = ys.length then eqs (eqD S n) xs ys else some false
    | .tup xs, .tup ys => (eqs (eqD S n) xs ys).map fun k => k && xs.length == ys.length
    | .dct _, .dct _ => none
    | .oth, _ => none
    | _, .oth => none
    | _, _ => some false
def VwOk (K : PySem.W.Frag) (W : Wd) (v : V) : Vw → Prop
  | .non => v = .non
  | .bl b => v = .bl b
  | .int i => v = .int i
  | .str x => v = .str x
  | .lst xs => ∃ a vs, v = .ref a ∧ SqL K W.H a vs ∧ RepL K W xs vs
  | .tup xs => ∃ a vs, v = .ref a ∧ SqT K W.H a vs ∧ RepL K W xs vs
  | .dct _ => ∃ a kvs, v = .ref a ∧ Rd W.H a (.dK kvs)
  | .oth => True
theorem rep_vw {K : PySem.W.Frag} {W : Wd} {S : Store} (s : SRep K W S) {d : D} {v : V} (r : Rep K W d v) : VwOk K W v (vw S d) := by
  cases d <;> simp only [vw, Rep, VwOk] at r ⊢ <;> try exact r
  · obtain ⟨a, vs, h1, h2, h3⟩ := r
    exact ⟨a, vs, h1, h2.sq, h3⟩
  · obtain ⟨a, vs, h1, h2, _, h3⟩ := r
    exact ⟨a, vs, h1, .inl (.inl h2), h3⟩
  · obtain ⟨a, vs, h1, h2, h3⟩ := r
    exact ⟨a, vs, h1, h2.sq, h3⟩
  · obtain ⟨a, vs, h1, h2, h3⟩ := r
    exact ⟨a, _, h1, h2⟩
  · rename_i n
    obtain ⟨a, h1, h2⟩ := r
    cases e : S[n]? with
    | none => trivial
    | some c =>
      cases c <;> simp only [VwOk] <;> try trivial
      · obtain ⟨vs, q1, q2, q3⟩ := s.at_ _ _ _ h2 e
        exact ⟨a, vs, h1, .inl (.inl q1), q3⟩
      · obtain ⟨vs, q1, q2, q3⟩ := s.at_ _ _ _ h2 e
        exact ⟨a, vs, h1, .inl (.inl q1), q3⟩
theorem eqs_at {f : D → D → Option Bool} : ∀ {xs ys : List D} {b : Bool}, eqs f xs ys = some b → ∃ e : Nat → Bool, (∀ j x y, xs[j]? = some x → ys[j]? = some y → f x y = some (e j)) ∧ (List.range (min xs.length ys.length)).all e = b
  | [], ys, b, h => by
    simp only [eqs, Option.some.injEq] at h
    subst h
    exact ⟨fun _ => true, fun j x y h => by simp at h, by simp⟩
  | x :: xs, [], b, h => by
    simp only [eqs, Option.some.injEq] at h
    subst h
    exact ⟨fun _ => true, fun j x y _ h => by simp at h, by simp⟩
  | x :: xs, y :: ys, b, h => by
    unfold eqs at h
    cases h1 : f x y with
    | none => rw [h1] at h; cases h
    | some a =>
      cases h2 : eqs f xs ys with
      | none => rw [h1, h2] at h; cases h
      | some c =>
        rw [h1, h2] at h
        simp only [Option.some.injEq] at h
        obtain ⟨e, he, hr⟩ := eqs_at h2
        refine ⟨fun j => match j with | 0 => a | j + 1 => e j, fun j u w hu hw => ?_, ?_⟩
        · cases j with
          | zero =>
            simp at hu hw
            subst hu hw
            exact h1
          | succ j => exact he j u w (by simpa using hu) (by simpa using hw)
        · rw [← h, ← hr]
          simp only [List.length_cons, Nat.succ_min_succ, List.range_succ_eq_map, List.all_cons, List.all_map]
          rfl
section
variable {X : Cx} {pins : List (Addr × Obj)} {σ : St} {s : Shared} {W : Wd} {S : Store}
theorem isD_of (I : Inv X pins σ W.H s) {a : Addr} {kvs : List (Key × V)} (h : Rd W.H a (.dK kvs)) : IsD s.heap a := by
  obtain ⟨_, _, vs, _, hd⟩ := h.ok I.hok
  obtain ⟨o, es, ep, e, c, d, _⟩ := hd
  exact ⟨o, es, ep, e, c.1, d⟩
theorem list_tup_ne (I : Inv X pins σ W.H s) {a : Addr} {vs us : List V} (h : SqL X.K W.H a vs) (h' : SqT X.K W.H a us) : False := by
  obtain ⟨its, _, p, _⟩ := I.list h
  obtain ⟨its', _, p', _⟩ := I.tuple h'
  obtain ⟨o, n, ho, hc, _, _⟩ := p
  obtain ⟨o', ho', hc', _⟩ := p'
  rw [ho] at ho'; cases ho'; rw [hc] at hc'; simp at hc'
theorem tup_inj (I : Inv X pins σ W.H s) {a : Addr} {vs us : List V} (h : SqT X.K W.H a vs) (h' : SqT X.K W.H a us) : vs = us := by
  obtain ⟨its, r, p, _⟩ := I.tuple h
  obtain ⟨its', r', p', _⟩ := I.tuple h'
  obtain ⟨o, ho, hc, n, hd⟩ := p
  obtain ⟨o', ho', hc', n', hd'⟩ := p'
  rw [ho] at ho'; cases ho'; rw [hd] at hd'
  cases hd'
  exact Vals.inj r r'
/-- the same value: == says True -/
theorem eq_self (I : Inv X pins σ W.H s) (sr : SRep X.K W S) : ∀ (n : Nat) (x y : D) (v : V) (b : Bool), Rep X.K W x v → Rep X.K W y v → eqD S n x y = some b → b = true
  | 0, _, _, _, _, _, _, h => by simp [eqD] at h
  | n + 1, x, y, v, b, rx, ry, h => by
    have vx := rep_vw sr rx
    have vy := rep_vw sr ry
    unfold eqD at h
    have key : ∀ {xs ys : List D} {vs : List V} {k : Bool}, RepL X.K W xs vs → RepL X.K W ys vs → eqs (eqD S n) xs ys = some k → k = true := by
      intro xs ys vs k r1 r2 hk
      obtain ⟨e, he, hr⟩ := eqs_at hk
      rw [← hr, List.all_eq_true]
      intro j hj
      have hj' := List.mem_range.mp hj
      have h1 : j < xs.length := by omega
      have h2 : j < ys.length := by omega
      obtain ⟨u1, e1, q1⟩ := r1.get (List.getElem?_eq_getElem h1)
      obtain ⟨u2, e2, q2⟩ := r2.get (List.getElem?_eq_getElem h2)
      rw [e1] at e2
      cases e2
      exact eq_self I sr n _ _ _ _ q1 q2 (he j _ _ (List.getElem?_eq_getElem h1) (List.getElem?_eq_getElem h2))
    cases e1 : vw S x <;> cases e2 : vw S y <;> rw [e1] at vx <;> rw [e2] at vy <;> simp only [e1, e2] at h <;> simp only [VwOk] at vx vy <;> try cases h
    all_goals first
      | rfl
      | (exfalso; obtain ⟨_, _, h1, _⟩ := vy; subst vx; cases h1; done)
      | (exfalso; obtain ⟨_, _, h1, _⟩ := vx; subst vy; cases h1; done)
      | (subst vx; cases vy; first | rfl | (simp; done))
      | (exfalso; subst vx; cases vy; done)
      | skip
    · obtain ⟨a, vs, rfl, q1, r1⟩ := vx
      obtain ⟨b', us, e, q2, r2⟩ := vy
      cases e
      obtain rfl := I.list_inj q1 q2
      split at h
      · exact key r1 r2 h
      · rename_i hz
        exact absurd (r1.length.trans r2.length.symm) hz
    · exfalso
      obtain ⟨a, vs, rfl, q1, r1⟩ := vx
      obtain ⟨b', us, e, q2, r2⟩ := vy
      cases e
      exact list_tup_ne I q1 q2
    · exfalso
      obtain ⟨a, vs, rfl, q1, r1⟩ := vx
      obtain ⟨b', us, e, q2⟩ := vy
      cases e
      obtain ⟨its, _, p, _⟩ := I.list q1
      obtain ⟨o, n, ho, hc, _, _⟩ := p
      obtain ⟨o', _, _, ho', hc', _⟩ := isD_of I q2
      rw [ho] at ho'; cases ho'; rw [hc] at hc'; simp at hc'
    · exfalso
      obtain ⟨a, vs, rfl, q1, r1⟩ := vx
      obtain ⟨b', us, e, q2, r2⟩ := vy
      cases e
      exact list_tup_ne I q2 q1
    · obtain ⟨a, vs, rfl, q1, r1⟩ := vx
      obtain ⟨b', us, e, q2, r2⟩ := vy
      cases e
      obtain rfl := tup_inj I q1 q2
      cases hk : eqs (eqD S n) _ _ with
      | none => rw [hk] at h; cases h
      | some k =>
        rw [hk] at h
        simp only [Option.map_some, Option.some.injEq] at h
        rw [← h, key r1 r2 hk, r1.length, r2.length]
        simp
    · exfalso
      obtain ⟨a, vs, rfl, q1, r1⟩ := vx
      obtain ⟨b', us, e, q2⟩ := vy
      cases e
      obtain ⟨its, _, p, _⟩ := I.tuple q1
      obtain ⟨o, ho, hc, _⟩ := p
      obtain ⟨o', _, _, ho', hc', _⟩ := isD_of I q2
      rw [ho] at ho'; cases ho'; rw [hc] at hc'; simp at hc'
    · exfalso
      obtain ⟨a, vs, rfl, q1⟩ := vx
      obtain ⟨b', us, e, q2, r2⟩ := vy
      cases e
      obtain ⟨its, _, p, _⟩ := I.list q2
      obtain ⟨o, n, ho, hc, _, _⟩ := p
      obtain ⟨o', _, _, ho', hc', _⟩ := isD_of I q1
      rw [ho] at ho'; cases ho'; rw [hc] at hc'; simp at hc'
    · exfalso
      obtain ⟨a, vs, rfl, q1⟩ := vx
      obtain ⟨b', us, e, q2, r2⟩ := vy
      cases e
      obtain ⟨its, _, p, _⟩ := I.tuple q2
      obtain ⟨o, ho, hc, _⟩ := p
      obtain ⟨o', _, _, ho', hc', _⟩ := isD_of I q1
      rw [ho] at ho'; cases ho'; rw [hc] at hc'; simp at hc'
/-- == by the machine -/
theorem eqAt_of_rc {A : Around} {v u : Value} {b : Bool} (h : SeqAt.RcAt A s v u b) (hf : ∀ x t, v ≠ .float x t) (hs : v = u → b = true) : SeqAt.EqAt A s v u b := fun prog w E Q hq => by
  unfold eqBool
  refine wpAny_holding ?_
  refine wpAny_ite_split (fun hab => ?_) (fun _ => ?_)
  · rw [hs (eq_of_beq hab)] at hq
    exact wpAny_bind (wpAny_rule (wpAny_pure hq))
  · cases v <;> first
      | exact absurd rfl (hf _ _)
      | exact wpAny_bind (h prog w E _ (wpAny_truthy_bool hq))
theorem nofloat {K : PySem.W.Frag} {W : Wd} {d : D} {v : V} {u : Value} (h : Rep K W d v) (r : RelV v u) : ∀ x t, u ≠ .float x t := by
  rintro x t rfl
  cases v <;> simp only [L2.RelV] at r <;> first
    | cases r; done
    | (obtain ⟨_, r⟩ := r; cases r; done)
    | (cases d <;> simp [Rep] at h)
theorem listIs {h : Heap} {a : Addr} {xs : Array Value} (p : PlainL h a xs) : h.IsList a xs := p.isList
theorem rc_at (I : Inv X pins σ W.H s) (sr : SRep X.K W S) : ∀ (n : Nat) (x y : D) (v u : V) (vv uu : Value) (b : Bool) (A : Around), Rep X.K W x v → Rep X.K W y u → RelV v vv → RelV u uu → eqD S n x y = some b → A.units + n < cLine → SeqAt.RcAt A s vv uu b
  | 0, _, _, _, _, _, _, _, _, _, _, _, _, h, _ => by simp [eqD] at h
  | n + 1, x, y, v, u, vv, uu, b, A, rx, ry, rv, ru, h, hn => by
    have hu : A.units < cLine := by omega
    have hn1 : A.in1.units + n < cLine := by
      show A.units + 1 + n < cLine
      omega
    have vx := rep_vw sr rx
    have vy := rep_vw sr ry
    unfold eqD at h
    have key : ∀ {xs ys : List D} {vs us : List V} {its jts : List Value} {e : Nat → Bool}, RepL X.K W xs vs → RepL X.K W ys us → Vals vs its → Vals us jts →
        (∀ j x y, xs[j]? = some x → ys[j]? = some y → eqD S n x y = some (e j)) → ∀ j (h1 : j < its.toArray.size) (h2 : j < jts.toArray.size), SeqAt.EqAt A.in1 s its.toArray[j] jts.toArray[j] (e j) := by
      intro xs ys vs us its jts e r1 r2 q1 q2 he j h1 h2
      have l1 := q1.length
      have l2 := q2.length
      have m1 := r1.length
      have m2 := r2.length
      have k1 : j < its.length := by simpa using h1
      have k2 : j < jts.length := by simpa using h2
      have h1' : j < xs.length := by omega
      have h2' : j < ys.length := by omega
      obtain ⟨v1, g1, p1⟩ := r1.get (List.getElem?_eq_getElem h1')
      obtain ⟨u1, g2, p2⟩ := r2.get (List.getElem?_eq_getElem h2')
      obtain ⟨w1, g3, p3⟩ := q1.get g1
      obtain ⟨w2, g4, p4⟩ := q2.get g2
      have e1 : its.toArray[j] = w1 := by
        have := List.getElem?_eq_getElem k1
        rw [g3] at this
        simpa using (Option.some.inj this).symm
      have e2 : jts.toArray[j] = w2 := by
        have := List.getElem?_eq_getElem k2
        rw [g4] at this
        simpa using (Option.some.inj this).symm
      rw [e1, e2]
      have hb := he j _ _ (List.getElem?_eq_getElem h1') (List.getElem?_eq_getElem h2')
      refine eqAt_of_rc (rc_at I sr n _ _ _ _ _ _ _ _ p1 p2 p3 p4 hb hn1) (nofloat p1 p3) fun ee => ?_
      subst ee
      obtain rfl := p3.inj p4
      exact eq_self I sr n _ _ _ _ p1 p2 hb
    cases e1 : vw S x <;> cases e2 : vw S y <;> rw [e1] at vx <;> rw [e2] at vy <;> simp only [e1, e2] at h <;> simp only [VwOk] at vx vy <;> try cases h
    · subst vx
      obtain rfl := rv
      subst vy
      obtain rfl := ru
      exact SeqAt.RcAt.none_none
    · subst vx
      obtain rfl := rv
      subst vy
      obtain rfl := ru
      exact SeqAt.RcAt.none_bool _
    · subst vx
      obtain rfl := rv
      subst vy
      obtain ⟨_, rfl⟩ := ru
      exact SeqAt.RcAt.none_int _ _
    · subst vx
      obtain rfl := rv
      subst vy
      obtain ⟨_, rfl⟩ := ru
      exact SeqAt.RcAt.none_str _ _
    · subst vx
      obtain rfl := rv
      obtain ⟨a2, vs2, rfl, q2, r2⟩ := vy
      obtain rfl := ru
      obtain ⟨its2, w2, p20, z2⟩ := I.list q2
      have p2 := listIs p20
      exact SeqAt.RcAt.none_list p2 hu
    · subst vx
      obtain rfl := rv
      obtain ⟨a2, vs2, rfl, q2, r2⟩ := vy
      obtain rfl := ru
      obtain ⟨its2, w2, p20, z2⟩ := I.tuple q2
      have p2 : s.heap.IsTuple a2 its2.toArray := p20
      exact SeqAt.RcAt.none_tuple p2 hu
    · subst vx
      obtain rfl := rv
      obtain ⟨a2, kvs2, rfl, q2⟩ := vy
      obtain rfl := ru
      exact rc_none_d (isD_of I q2) hu
    · subst vx
      obtain rfl := rv
      subst vy
      obtain rfl := ru
      exact SeqAt.RcAt.bool_none _
    · subst vx
      obtain rfl := rv
      subst vy
      obtain rfl := ru
      exact SeqAt.RcAt.bool_bool _ _
    · subst vx
      obtain rfl := rv
      subst vy
      obtain ⟨_, rfl⟩ := ru
      exact SeqAt.RcAt.bool_int _ _ _
    · subst vx
      obtain rfl := rv
      subst vy
      obtain ⟨_, rfl⟩ := ru
      exact SeqAt.RcAt.bool_str _ _ _
    · subst vx
      obtain rfl := rv
      obtain ⟨a2, vs2, rfl, q2, r2⟩ := vy
      obtain rfl := ru
      obtain ⟨its2, w2, p20, z2⟩ := I.list q2
      have p2 := listIs p20
      exact SeqAt.RcAt.bool_list _ p2 hu
    · subst vx
      obtain rfl := rv
      obtain ⟨a2, vs2, rfl, q2, r2⟩ := vy
      obtain rfl := ru
      obtain ⟨its2, w2, p20, z2⟩ := I.tuple q2
      have p2 : s.heap.IsTuple a2 its2.toArray := p20
      exact SeqAt.RcAt.bool_tuple _ p2 hu
    · subst vx
      obtain rfl := rv
      obtain ⟨a2, kvs2, rfl, q2⟩ := vy
      obtain rfl := ru
      exact rc_bool_d _ (isD_of I q2) hu
    · subst vx
      obtain ⟨_, rfl⟩ := rv
      subst vy
      obtain rfl := ru
      exact SeqAt.RcAt.int_none _ _
    · subst vx
      obtain ⟨_, rfl⟩ := rv
      subst vy
      obtain rfl := ru
      exact SeqAt.RcAt.int_bool _ _ _
    · subst vx
      obtain ⟨_, rfl⟩ := rv
      subst vy
      obtain ⟨_, rfl⟩ := ru
      exact SeqAt.RcAt.int_int _ _ _ _
    · subst vx
      obtain ⟨_, rfl⟩ := rv
      subst vy
      obtain ⟨_, rfl⟩ := ru
      exact SeqAt.RcAt.int_str _ _ _ _
    · subst vx
      obtain ⟨_, rfl⟩ := rv
      obtain ⟨a2, vs2, rfl, q2, r2⟩ := vy
      obtain rfl := ru
      obtain ⟨its2, w2, p20, z2⟩ := I.list q2
      have p2 := listIs p20
      exact SeqAt.RcAt.int_list _ _ p2 hu
    · subst vx
      obtain ⟨_, rfl⟩ := rv
      obtain ⟨a2, vs2, rfl, q2, r2⟩ := vy
      obtain rfl := ru
      obtain ⟨its2, w2, p20, z2⟩ := I.tuple q2
      have p2 : s.heap.IsTuple a2 its2.toArray := p20
      exact SeqAt.RcAt.int_tuple _ _ p2 hu
    · subst vx
      obtain ⟨_, rfl⟩ := rv
      obtain ⟨a2, kvs2, rfl, q2⟩ := vy
      obtain rfl := ru
      exact rc_int_d _ _ (isD_of I q2) hu
    · subst vx
      obtain ⟨_, rfl⟩ := rv
      subst vy
      obtain rfl := ru
      exact SeqAt.RcAt.str_none _ _
    · subst vx
      obtain ⟨_, rfl⟩ := rv
      subst vy
      obtain rfl := ru
      exact SeqAt.RcAt.str_bool _ _ _
    · subst vx
      obtain ⟨_, rfl⟩ := rv
      subst vy
      obtain ⟨_, rfl⟩ := ru
      exact SeqAt.RcAt.str_int _ _ _ _
    · subst vx
      obtain ⟨_, rfl⟩ := rv
      subst vy
      obtain ⟨_, rfl⟩ := ru
      exact SeqAt.RcAt.str_str _ _ _ _
    · subst vx
      obtain ⟨_, rfl⟩ := rv
      obtain ⟨a2, vs2, rfl, q2, r2⟩ := vy
      obtain rfl := ru
      obtain ⟨its2, w2, p20, z2⟩ := I.list q2
      have p2 := listIs p20
      exact SeqAt.RcAt.str_list _ _ p2 hu
    · subst vx
      obtain ⟨_, rfl⟩ := rv
      obtain ⟨a2, vs2, rfl, q2, r2⟩ := vy
      obtain rfl := ru
      obtain ⟨its2, w2, p20, z2⟩ := I.tuple q2
      have p2 : s.heap.IsTuple a2 its2.toArray := p20
      exact SeqAt.RcAt.str_tuple _ _ p2 hu
    · subst vx
      obtain ⟨_, rfl⟩ := rv
      obtain ⟨a2, kvs2, rfl, q2⟩ := vy
      obtain rfl := ru
      exact rc_str_d _ _ (isD_of I q2) hu
    · obtain ⟨a1, vs1, rfl, q1, r1⟩ := vx
      obtain rfl := rv
      obtain ⟨its1, w1, p10, z1⟩ := I.list q1
      have p1 := listIs p10
      subst vy
      obtain rfl := ru
      exact SeqAt.RcAt.list_none p1 hu
    · obtain ⟨a1, vs1, rfl, q1, r1⟩ := vx
      obtain rfl := rv
      obtain ⟨its1, w1, p10, z1⟩ := I.list q1
      have p1 := listIs p10
      subst vy
      obtain rfl := ru
      exact SeqAt.RcAt.list_bool _ p1 hu
    · obtain ⟨a1, vs1, rfl, q1, r1⟩ := vx
      obtain rfl := rv
      obtain ⟨its1, w1, p10, z1⟩ := I.list q1
      have p1 := listIs p10
      subst vy
      obtain ⟨_, rfl⟩ := ru
      exact SeqAt.RcAt.list_int _ _ p1 hu
    · obtain ⟨a1, vs1, rfl, q1, r1⟩ := vx
      obtain rfl := rv
      obtain ⟨its1, w1, p10, z1⟩ := I.list q1
      have p1 := listIs p10
      subst vy
      obtain ⟨_, rfl⟩ := ru
      exact SeqAt.RcAt.list_str _ _ p1 hu
    · obtain ⟨a1, vs1, rfl, q1, r1⟩ := vx
      obtain rfl := rv
      obtain ⟨its1, w1, p10, z1⟩ := I.list q1
      have p1 := listIs p10
      obtain ⟨a2, vs2, rfl, q2, r2⟩ := vy
      obtain rfl := ru
      obtain ⟨its2, w2, p20, z2⟩ := I.list q2
      have p2 := listIs p20
      split at h
      · rename_i hz
        obtain ⟨e, he, hr⟩ := eqs_at h
        have hsz : its1.toArray.size = its2.toArray.size := by
          have h1 := w1.length
          have h2 := w2.length
          have h3 := r1.length
          have h4 := r2.length
          simp only [List.size_toArray]
          omega
        have hb : (List.range its1.toArray.size).all e = b := by
          rw [← hr]
          congr 2
          have h1 := w1.length
          have h3 := r1.length
          simp only [List.size_toArray]
          omega
        rw [← hb]
        exact SeqAt.RcAt.lists p1 p2 hsz hu (key r1 r2 w1 w2 he)
      · rename_i hz
        cases h
        refine SeqAt.RcAt.lists_lengths p1 p2 ?_ hu
        have h1 := w1.length
        have h2 := w2.length
        have h3 := r1.length
        have h4 := r2.length
        simp only [List.size_toArray, bne_iff_ne, ne_eq]
        omega
    · obtain ⟨a1, vs1, rfl, q1, r1⟩ := vx
      obtain rfl := rv
      obtain ⟨its1, w1, p10, z1⟩ := I.list q1
      have p1 := listIs p10
      obtain ⟨a2, vs2, rfl, q2, r2⟩ := vy
      obtain rfl := ru
      obtain ⟨its2, w2, p20, z2⟩ := I.tuple q2
      have p2 : s.heap.IsTuple a2 its2.toArray := p20
      exact SeqAt.RcAt.list_tuple p1 p2 hu
    · obtain ⟨a1, vs1, rfl, q1, r1⟩ := vx
      obtain rfl := rv
      obtain ⟨its1, w1, p10, z1⟩ := I.list q1
      have p1 := listIs p10
      obtain ⟨a2, kvs2, rfl, q2⟩ := vy
      obtain rfl := ru
      exact rc_list_d p1 (isD_of I q2) hu
    · obtain ⟨a1, vs1, rfl, q1, r1⟩ := vx
      obtain rfl := rv
      obtain ⟨its1, w1, p10, z1⟩ := I.tuple q1
      have p1 : s.heap.IsTuple a1 its1.toArray := p10
      subst vy
      obtain rfl := ru
      exact SeqAt.RcAt.tuple_none p1 hu
    · obtain ⟨a1, vs1, rfl, q1, r1⟩ := vx
      obtain rfl := rv
      obtain ⟨its1, w1, p10, z1⟩ := I.tuple q1
      have p1 : s.heap.IsTuple a1 its1.toArray := p10
      subst vy
      obtain rfl := ru
      exact SeqAt.RcAt.tuple_bool _ p1 hu
    · obtain ⟨a1, vs1, rfl, q1, r1⟩ := vx
      obtain rfl := rv
      obtain ⟨its1, w1, p10, z1⟩ := I.tuple q1
      have p1 : s.heap.IsTuple a1 its1.toArray := p10
      subst vy
      obtain ⟨_, rfl⟩ := ru
      exact SeqAt.RcAt.tuple_int _ _ p1 hu
    · obtain ⟨a1, vs1, rfl, q1, r1⟩ := vx
      obtain rfl := rv
      obtain ⟨its1, w1, p10, z1⟩ := I.tuple q1
      have p1 : s.heap.IsTuple a1 its1.toArray := p10
      subst vy
      obtain ⟨_, rfl⟩ := ru
      exact SeqAt.RcAt.tuple_str _ _ p1 hu
    · obtain ⟨a1, vs1, rfl, q1, r1⟩ := vx
      obtain rfl := rv
      obtain ⟨its1, w1, p10, z1⟩ := I.tuple q1
      have p1 : s.heap.IsTuple a1 its1.toArray := p10
      obtain ⟨a2, vs2, rfl, q2, r2⟩ := vy
      obtain rfl := ru
      obtain ⟨its2, w2, p20, z2⟩ := I.list q2
      have p2 := listIs p20
      exact SeqAt.RcAt.tuple_list p1 p2 hu
    · obtain ⟨a1, vs1, rfl, q1, r1⟩ := vx
      obtain rfl := rv
      obtain ⟨its1, w1, p10, z1⟩ := I.tuple q1
      have p1 : s.heap.IsTuple a1 its1.toArray := p10
      obtain ⟨a2, vs2, rfl, q2, r2⟩ := vy
      obtain rfl := ru
      obtain ⟨its2, w2, p20, z2⟩ := I.tuple q2
      have p2 : s.heap.IsTuple a2 its2.toArray := p20
      cases hk : eqs (eqD S n) _ _ with
      | none => rw [hk] at h; cases h
      | some k =>
        rw [hk] at h
        simp only [Option.map_some, Option.some.injEq] at h
        obtain ⟨e, he, hr⟩ := eqs_at hk
        have h1 := w1.length
        have h2 := w2.length
        have h3 := r1.length
        have h4 := r2.length
        have := SeqAt.RcAt.tuples p1 p2 hu (key r1 r2 w1 w2 he)
        simp only [List.size_toArray] at this
        rw [← h1, ← h2, ← h3, ← h4, hr, h] at this
        exact this
    · obtain ⟨a1, vs1, rfl, q1, r1⟩ := vx
      obtain rfl := rv
      obtain ⟨its1, w1, p10, z1⟩ := I.tuple q1
      have p1 : s.heap.IsTuple a1 its1.toArray := p10
      obtain ⟨a2, kvs2, rfl, q2⟩ := vy
      obtain rfl := ru
      exact rc_tuple_d p1 (isD_of I q2) hu
    · obtain ⟨a1, kvs1, rfl, q1⟩ := vx
      obtain rfl := rv
      subst vy
      obtain rfl := ru
      exact rc_d_none (isD_of I q1) hu
    · obtain ⟨a1, kvs1, rfl, q1⟩ := vx
      obtain rfl := rv
      subst vy
      obtain rfl := ru
      exact rc_d_bool _ (isD_of I q1) hu
    · obtain ⟨a1, kvs1, rfl, q1⟩ := vx
      obtain rfl := rv
      subst vy
      obtain ⟨_, rfl⟩ := ru
      exact rc_d_int _ _ (isD_of I q1) hu
    · obtain ⟨a1, kvs1, rfl, q1⟩ := vx
      obtain rfl := rv
      subst vy
      obtain ⟨_, rfl⟩ := ru
      exact rc_d_str _ _ (isD_of I q1) hu
    · obtain ⟨a1, kvs1, rfl, q1⟩ := vx
      obtain rfl := rv
      obtain ⟨a2, vs2, rfl, q2, r2⟩ := vy
      obtain rfl := ru
      obtain ⟨its2, w2, p20, z2⟩ := I.list q2
      have p2 := listIs p20
      exact rc_d_list (isD_of I q1) p2 hu
    · obtain ⟨a1, kvs1, rfl, q1⟩ := vx
      obtain rfl := rv
      obtain ⟨a2, vs2, rfl, q2, r2⟩ := vy
      obtain rfl := ru
      obtain ⟨its2, w2, p20, z2⟩ := I.tuple q2
      have p2 : s.heap.IsTuple a2 its2.toArray := p20
      exact rc_d_tuple (isD_of I q1) p2 hu
theorem one_eq (I : Inv X pins σ W.H s) (sr : SRep X.K W S) (n : Nat) (x y : D) (v u : V) (vv uu : Value) (b : Bool) (A : Around) (rx : Rep X.K W x v) (ry : Rep X.K W y u) (rv : RelV v vv) (ru : RelV u uu) (h : eqD S n x y = some b) (hn : A.units + n < cLine) : SeqAt.EqAt A s vv uu b :=
  eqAt_of_rc (rc_at I sr n x y v u vv uu b A rx ry rv ru h hn) (nofloat rx rv) fun ee => by
    subst ee
    obtain rfl := rv.inj ru
    exact eq_self I sr n _ _ _ _ rx ry h
theorem items_eq (I : Inv X pins σ W.H s) (sr : SRep X.K W S) {A : Around} (n : Nat) (hn1 : A.units + n < cLine) {xs ys : List D} {vs us : List V} {its jts : List Value} {e : Nat → Bool} (r1 : RepL X.K W xs vs) (r2 : RepL X.K W ys us) (q1 : Vals vs its) (q2 : Vals us jts)
    (he : ∀ j x y, xs[j]? = some x → ys[j]? = some y → eqD S n x y = some (e j)) (j : Nat) (h1 : j < its.toArray.size) (h2 : j < jts.toArray.size) : SeqAt.EqAt A s its.toArray[j] jts.toArray[j] (e j) := by
  have l1 := q1.length
  have l2 := q2.length
  have m1 := r1.length
  have m2 := r2.length
  have k1 : j < its.length := by simpa using h1
  have k2 : j < jts.length := by simpa using h2
  have h1' : j < xs.length := by omega
  have h2' : j < ys.length := by omega
  obtain ⟨v1, g1, p1⟩ := r1.get (List.getElem?_eq_getElem h1')
  obtain ⟨u1, g2, p2⟩ := r2.get (List.getElem?_eq_getElem h2')
  obtain ⟨w1, g3, p3⟩ := q1.get g1
  obtain ⟨w2, g4, p4⟩ := q2.get g2
  have e1 : its.toArray[j] = w1 := by
    have := List.getElem?_eq_getElem k1
    rw [g3] at this
    simpa using (Option.some.inj this).symm
  have e2 : jts.toArray[j] = w2 := by
    have := List.getElem?_eq_getElem k2
    rw [g4] at this
    simpa using (Option.some.inj this).symm
  rw [e1, e2]
  exact one_eq I sr n _ _ _ _ _ _ _ _ p1 p2 p3 p4 (he j _ _ (List.getElem?_eq_getElem h1') (List.getElem?_eq_getElem h2')) hn1
/-- != : as ==, the other way round; dicts are left out -/
def neD (S : Store) (n : Nat) (x y : D) : Option Bool := match vw S x, vw S y with
  | .dct _, _ => none
  | _, .dct _ => none
  | _, _ => (eqD S n x y).map fun b => !b
theorem rcne_at (I : Inv X pins σ W.H s) (sr : SRep X.K W S) (n : Nat) (x y : D) (v u : V) (vv uu : Value) (b : Bool) (A : Around) (rx : Rep X.K W x v) (ry : Rep X.K W y u) (rv : RelV v vv) (ru : RelV u uu)
    (h : neD S (n + 1) x y = some b) (hn : A.units + (n + 1) < cLine) : SeqAt.RcNeAt A s vv uu b := by
  have hu : A.units < cLine := by omega
  have hn1 : A.in1.units + n < cLine := by
    show A.units + 1 + n < cLine
    omega
  have vx := rep_vw sr rx
  have vy := rep_vw sr ry
  unfold neD eqD at h
  have key : ∀ {xs ys : List D} {vs us : List V} {its jts : List Value} {e : Nat → Bool}, RepL X.K W xs vs → RepL X.K W ys us → Vals vs its → Vals us jts →
      (∀ j x y, xs[j]? = some x → ys[j]? = some y → eqD S n x y = some (e j)) → ∀ j (h1 : j < its.toArray.size) (h2 : j < jts.toArray.size), SeqAt.EqAt A.in1 s its.toArray[j] jts.toArray[j] (e j) := by
    intro xs ys vs us its jts e r1 r2 q1 q2 he j h1 h2
    exact items_eq I sr n hn1 r1 r2 q1 q2 he j h1 h2
  cases e1 : vw S x <;> cases e2 : vw S y <;> rw [e1] at vx <;> rw [e2] at vy <;> simp only [e1, e2, Option.map_some, Option.map_none] at h <;> simp only [VwOk] at vx vy <;> try cases h
  · subst vx
    obtain rfl := rv
    subst vy
    obtain rfl := ru
    exact SeqAt.RcNeAt.none_none
  · subst vx
    obtain rfl := rv
    subst vy
    obtain rfl := ru
    exact SeqAt.RcNeAt.none_bool _
  · subst vx
    obtain rfl := rv
    subst vy
    obtain ⟨_, rfl⟩ := ru
    exact SeqAt.RcNeAt.none_int _ _
  · subst vx
    obtain rfl := rv
    subst vy
    obtain ⟨_, rfl⟩ := ru
    exact SeqAt.RcNeAt.none_str _ _
  · subst vx
    obtain rfl := rv
    obtain ⟨a2, vs2, rfl, q2, r2⟩ := vy
    obtain rfl := ru
    obtain ⟨its2, w2, p20, z2⟩ := I.list q2
    have p2 := listIs p20
    exact SeqAt.RcNeAt.none_list p2 hu
  · subst vx
    obtain rfl := rv
    obtain ⟨a2, vs2, rfl, q2, r2⟩ := vy
    obtain rfl := ru
    obtain ⟨its2, w2, p20, z2⟩ := I.tuple q2
    have p2 : s.heap.IsTuple a2 its2.toArray := p20
    exact SeqAt.RcNeAt.none_tuple p2 hu
  · subst vx
    obtain rfl := rv
    subst vy
    obtain rfl := ru
    exact SeqAt.RcNeAt.bool_none _
  · subst vx
    obtain rfl := rv
    subst vy
    obtain rfl := ru
    exact SeqAt.RcNeAt.bool_bool _ _
  · subst vx
    obtain rfl := rv
    subst vy
    obtain ⟨_, rfl⟩ := ru
    exact SeqAt.RcNeAt.bool_int _ _ _
  · subst vx
    obtain rfl := rv
    subst vy
    obtain ⟨_, rfl⟩ := ru
    exact SeqAt.RcNeAt.bool_str _ _ _
  · subst vx
    obtain rfl := rv
    obtain ⟨a2, vs2, rfl, q2, r2⟩ := vy
    obtain rfl := ru
    obtain ⟨its2, w2, p20, z2⟩ := I.list q2
    have p2 := listIs p20
    exact SeqAt.RcNeAt.bool_list _ p2 hu
  · subst vx
    obtain rfl := rv
    obtain ⟨a2, vs2, rfl, q2, r2⟩ := vy
    obtain rfl := ru
    obtain ⟨its2, w2, p20, z2⟩ := I.tuple q2
    have p2 : s.heap.IsTuple a2 its2.toArray := p20
    exact SeqAt.RcNeAt.bool_tuple _ p2 hu
  · subst vx
    obtain ⟨_, rfl⟩ := rv
    subst vy
    obtain rfl := ru
    exact SeqAt.RcNeAt.int_none _ _
  · subst vx
    obtain ⟨_, rfl⟩ := rv
    subst vy
    obtain rfl := ru
    exact SeqAt.RcNeAt.int_bool _ _ _
  · subst vx
    obtain ⟨_, rfl⟩ := rv
    subst vy
    obtain ⟨_, rfl⟩ := ru
    exact SeqAt.RcNeAt.int_int _ _ _ _
  · subst vx
    obtain ⟨_, rfl⟩ := rv
    subst vy
    obtain ⟨_, rfl⟩ := ru
    exact SeqAt.RcNeAt.int_str _ _ _ _
  · subst vx
    obtain ⟨_, rfl⟩ := rv
    obtain ⟨a2, vs2, rfl, q2, r2⟩ := vy
    obtain rfl := ru
    obtain ⟨its2, w2, p20, z2⟩ := I.list q2
    have p2 := listIs p20
    exact SeqAt.RcNeAt.int_list _ _ p2 hu
  · subst vx
    obtain ⟨_, rfl⟩ := rv
    obtain ⟨a2, vs2, rfl, q2, r2⟩ := vy
    obtain rfl := ru
    obtain ⟨its2, w2, p20, z2⟩ := I.tuple q2
    have p2 : s.heap.IsTuple a2 its2.toArray := p20
    exact SeqAt.RcNeAt.int_tuple _ _ p2 hu
  · subst vx
    obtain ⟨_, rfl⟩ := rv
    subst vy
    obtain rfl := ru
    exact SeqAt.RcNeAt.str_none _ _
  · subst vx
    obtain ⟨_, rfl⟩ := rv
    subst vy
    obtain rfl := ru
    exact SeqAt.RcNeAt.str_bool _ _ _
  · subst vx
    obtain ⟨_, rfl⟩ := rv
    subst vy
    obtain ⟨_, rfl⟩ := ru
    exact SeqAt.RcNeAt.str_int _ _ _ _
  · subst vx
    obtain ⟨_, rfl⟩ := rv
    subst vy
    obtain ⟨_, rfl⟩ := ru
    exact SeqAt.RcNeAt.str_str _ _ _ _
  · subst vx
    obtain ⟨_, rfl⟩ := rv
    obtain ⟨a2, vs2, rfl, q2, r2⟩ := vy
    obtain rfl := ru
    obtain ⟨its2, w2, p20, z2⟩ := I.list q2
    have p2 := listIs p20
    exact SeqAt.RcNeAt.str_list _ _ p2 hu
  · subst vx
    obtain ⟨_, rfl⟩ := rv
    obtain ⟨a2, vs2, rfl, q2, r2⟩ := vy
    obtain rfl := ru
    obtain ⟨its2, w2, p20, z2⟩ := I.tuple q2
    have p2 : s.heap.IsTuple a2 its2.toArray := p20
    exact SeqAt.RcNeAt.str_tuple _ _ p2 hu
  · obtain ⟨a1, vs1, rfl, q1, r1⟩ := vx
    obtain rfl := rv
    obtain ⟨its1, w1, p10, z1⟩ := I.list q1
    have p1 := listIs p10
    subst vy
    obtain rfl := ru
    exact SeqAt.RcNeAt.list_none p1 hu
  · obtain ⟨a1, vs1, rfl, q1, r1⟩ := vx
    obtain rfl := rv
    obtain ⟨its1, w1, p10, z1⟩ := I.list q1
    have p1 := listIs p10
    subst vy
    obtain rfl := ru
    exact SeqAt.RcNeAt.list_bool _ p1 hu
  · obtain ⟨a1, vs1, rfl, q1, r1⟩ := vx
    obtain rfl := rv
    obtain ⟨its1, w1, p10, z1⟩ := I.list q1
    have p1 := listIs p10
    subst vy
    obtain ⟨_, rfl⟩ := ru
    exact SeqAt.RcNeAt.list_int _ _ p1 hu
  · obtain ⟨a1, vs1, rfl, q1, r1⟩ := vx
    obtain rfl := rv
    obtain ⟨its1, w1, p10, z1⟩ := I.list q1
    have p1 := listIs p10
    subst vy
    obtain ⟨_, rfl⟩ := ru
    exact SeqAt.RcNeAt.list_str _ _ p1 hu
  · obtain ⟨a1, vs1, rfl, q1, r1⟩ := vx
    obtain rfl := rv
    obtain ⟨its1, w1, p10, z1⟩ := I.list q1
    have p1 := listIs p10
    obtain ⟨a2, vs2, rfl, q2, r2⟩ := vy
    obtain rfl := ru
    obtain ⟨its2, w2, p20, z2⟩ := I.list q2
    have p2 := listIs p20
    split at h
    · rename_i hz
      cases hk : eqs (eqD S n) _ _ with
      | none => rw [hk] at h; cases h
      | some k =>
        rw [hk] at h
        simp only [Option.map_some, Option.some.injEq] at h
        obtain ⟨e, he, hr⟩ := eqs_at hk
        have hsz : its1.toArray.size = its2.toArray.size := by
          have h1 := w1.length
          have h2 := w2.length
          have h3 := r1.length
          have h4 := r2.length
          simp only [List.size_toArray]
          omega
        have hb : (List.range its1.toArray.size).all e = k := by
          rw [← hr]
          congr 2
          have h1 := w1.length
          have h3 := r1.length
          simp only [List.size_toArray]
          omega
        have := SeqAt.RcNeAt.lists p1 p2 hsz hu (key r1 r2 w1 w2 he)
        rw [hb, h] at this
        exact this
    · rename_i hz
      simp only [Option.map_some, Option.some.injEq, Bool.not_false] at h
      subst h
      refine SeqAt.RcNeAt.lists_lengths p1 p2 ?_ hu
      have h1 := w1.length
      have h2 := w2.length
      have h3 := r1.length
      have h4 := r2.length
      simp only [List.size_toArray, bne_iff_ne, ne_eq]
      omega
  · obtain ⟨a1, vs1, rfl, q1, r1⟩ := vx
    obtain rfl := rv
    obtain ⟨its1, w1, p10, z1⟩ := I.list q1
    have p1 := listIs p10
    obtain ⟨a2, vs2, rfl, q2, r2⟩ := vy
    obtain rfl := ru
    obtain ⟨its2, w2, p20, z2⟩ := I.tuple q2
    have p2 : s.heap.IsTuple a2 its2.toArray := p20
    exact SeqAt.RcNeAt.list_tuple p1 p2 hu
  · obtain ⟨a1, vs1, rfl, q1, r1⟩ := vx
    obtain rfl := rv
    obtain ⟨its1, w1, p10, z1⟩ := I.tuple q1
    have p1 : s.heap.IsTuple a1 its1.toArray := p10
    subst vy
    obtain rfl := ru
    exact SeqAt.RcNeAt.tuple_none p1 hu
  · obtain ⟨a1, vs1, rfl, q1, r1⟩ := vx
    obtain rfl := rv
    obtain ⟨its1, w1, p10, z1⟩ := I.tuple q1
    have p1 : s.heap.IsTuple a1 its1.toArray := p10
    subst vy
    obtain rfl := ru
    exact SeqAt.RcNeAt.tuple_bool _ p1 hu
  · obtain ⟨a1, vs1, rfl, q1, r1⟩ := vx
    obtain rfl := rv
    obtain ⟨its1, w1, p10, z1⟩ := I.tuple q1
    have p1 : s.heap.IsTuple a1 its1.toArray := p10
    subst vy
    obtain ⟨_, rfl⟩ := ru
    exact SeqAt.RcNeAt.tuple_int _ _ p1 hu
  · obtain ⟨a1, vs1, rfl, q1, r1⟩ := vx
    obtain rfl := rv
    obtain ⟨its1, w1, p10, z1⟩ := I.tuple q1
    have p1 : s.heap.IsTuple a1 its1.toArray := p10
    subst vy
    obtain ⟨_, rfl⟩ := ru
    exact SeqAt.RcNeAt.tuple_str _ _ p1 hu
  · obtain ⟨a1, vs1, rfl, q1, r1⟩ := vx
    obtain rfl := rv
    obtain ⟨its1, w1, p10, z1⟩ := I.tuple q1
    have p1 : s.heap.IsTuple a1 its1.toArray := p10
    obtain ⟨a2, vs2, rfl, q2, r2⟩ := vy
    obtain rfl := ru
    obtain ⟨its2, w2, p20, z2⟩ := I.list q2
    have p2 := listIs p20
    exact SeqAt.RcNeAt.tuple_list p1 p2 hu
  · obtain ⟨a1, vs1, rfl, q1, r1⟩ := vx
    obtain rfl := rv
    obtain ⟨its1, w1, p10, z1⟩ := I.tuple q1
    have p1 : s.heap.IsTuple a1 its1.toArray := p10
    obtain ⟨a2, vs2, rfl, q2, r2⟩ := vy
    obtain rfl := ru
    obtain ⟨its2, w2, p20, z2⟩ := I.tuple q2
    have p2 : s.heap.IsTuple a2 its2.toArray := p20
    cases hk : eqs (eqD S n) _ _ with
    | none => rw [hk] at h; cases h
    | some k =>
      rw [hk] at h
      simp only [Option.map_some, Option.some.injEq] at h
      obtain ⟨e, he, hr⟩ := eqs_at hk
      have h1 := w1.length
      have h2 := w2.length
      have h3 := r1.length
      have h4 := r2.length
      have := SeqAt.RcNeAt.tuples p1 p2 hu (key r1 r2 w1 w2 he)
      simp only [List.size_toArray] at this
      rw [← h1, ← h2, ← h3, ← h4, hr, h] at this
      exact this
/-- depth that is enough, and for which there is room -/
abbrev deep : Nat := 60
def gEq (x y : D) (S : Store) : Option D := (eqD S deep x y).map .bl
def gNe (x y : D) (S : Store) : Option D := (neD S deep x y).map .bl
def optAny (f : D → Option Bool) : List D → Option Bool
  | [] => some false
  | x :: xs => match f x, optAny f xs with
    | some a, some b => some (a || b)
    | _, _ => none
def asQ (S : Store) (d : D) : Option (List D) := match d with
  | .tup xs => some xs
  | d => asL S d
/-- x in y: a list, a tuple; a sign in a text -/
def inD (S : Store) (x y : D) : Option Bool := match x, y with
  | .str a, .str z => if a.cps.size = 1 then some (decide (a.cps.getD 0 0 ∈ z.cps.toList)) else none
  | x, y => (asQ S y).bind fun ys => optAny (fun z => eqD S deep z x) ys
def gIn (x y : D) (S : Store) : Option D := (inD S x y).map .bl
def gNotIn (x y : D) (S : Store) : Option D := (inD S x y).map fun b => .bl (!b)
theorem rep_blI {K : PySem.W.Frag} {W : Wd} (b : Bool) : Rep K W (.bl b) (.bl b) := by simp [Rep]
theorem op_eqK (hu : X.A.units + 64 < cLine) : OpD X (compareOp .Eq) gEq := by
  refine ⟨fun pins s σ H x y v u Q I rx ry q => ?_⟩
  obtain ⟨W, S, dx, dy, d, rfl, sr, r1, r2, e, q⟩ := q
  unfold gEq at e
  cases hb : eqD S deep dx dy with
  | none => rw [hb] at e; cases e
  | some b =>
    rw [hb] at e
    cases e
    exact rc_at I sr deep dx dy x y v u b X.A r1 r2 rx ry hb (by show X.A.units + 60 < cLine; omega) _ _ _ _ ⟨.bl b, W.H, I, rfl, q W _ (.refl W) sr (rep_blI b)⟩
theorem op_neK (hu : X.A.units + 64 < cLine) : OpD X (compareOp .NotEq) gNe := by
  refine ⟨fun pins s σ H x y v u Q I rx ry q => ?_⟩
  obtain ⟨W, S, dx, dy, d, rfl, sr, r1, r2, e, q⟩ := q
  unfold gNe at e
  cases hb : neD S deep dx dy with
  | none => rw [hb] at e; cases e
  | some b =>
    rw [hb] at e
    cases e
    exact rcne_at I sr 59 dx dy x y v u b X.A r1 r2 rx ry hb (by omega) _ _ _ _ ⟨.bl b, W.H, I, rfl, q W _ (.refl W) sr (rep_blI b)⟩
theorem optAny_at {f : D → Option Bool} : ∀ {xs : List D} {b : Bool}, optAny f xs = some b → ∃ e : Nat → Bool, (∀ j x, xs[j]? = some x → f x = some (e j)) ∧ (List.range xs.length).any e = b
  | [], b, h => by
    simp only [optAny, Option.some.injEq] at h
    subst h
    exact ⟨fun _ => true, fun j x h => by simp at h, by simp⟩
  | x :: xs, b, h => by
    unfold optAny at h
    cases h1 : f x with
    | none => rw [h1] at h; cases h
    | some a =>
      cases h2 : optAny f xs with
      | none => rw [h1, h2] at h; cases h
      | some c =>
        rw [h1, h2] at h
        simp only [Option.some.injEq] at h
        obtain ⟨e, he, hr⟩ := optAny_at h2
        refine ⟨fun j => match j with | 0 => a | j + 1 => e j, fun j u hu => ?_, ?_⟩
        · cases j with
          | zero =>
            simp at hu
            subst hu
            exact h1
          | succ j => exact he j u (by simpa using hu)
        · rw [← h, ← hr]
          simp only [List.length_cons, List.range_succ_eq_map, List.any_cons, List.any_map]
          rfl
/-- the items of the container, each asked -/
theorem any_items (I : Inv X pins σ W.H s) (sr : SRep X.K W S) {A : Around} (hn : A.units + deep < cLine) {x : D} {v : V} {vv : Value} {ys : List D} {vs : List V} {its : List Value} {b : Bool} (rx : Rep X.K W x v) (rv : RelV v vv) (r : RepL X.K W ys vs) (q : Vals vs its)
    (h : optAny (fun z => eqD S deep z x) ys = some b) : ∃ e : Value → Bool, (∀ u, u ∈ its.toArray → SeqAt.EqAt A s u vv (e u)) ∧ its.toArray.any e = b := by
  classical
  obtain ⟨e0, he, hb⟩ := optAny_at h
  have ask : ∀ j u, its[j]? = some u → SeqAt.EqAt A s u vv (e0 j) := fun j u hj => by
    have l1 := q.length
    have l2 := r.length
    have hj1 := (List.getElem?_eq_some_iff.mp hj).1
    have hj2 : j < ys.length := by omega
    obtain ⟨w, g1, p1⟩ := r.get (List.getElem?_eq_getElem hj2)
    obtain ⟨w', g2, p2⟩ := q.get g1
    rw [hj] at g2
    cases g2
    exact one_eq I sr deep _ _ _ _ _ _ _ _ p1 rx p2 rv (he j _ (List.getElem?_eq_getElem hj2)) hn
  have hlen : its.length = ys.length := by rw [← q.length, r.length]
  refine ⟨fun u => decide (∃ j : Nat, its[j]? = some u ∧ e0 j = true), fun u hu => ?_, ?_⟩
  · obtain ⟨j, hj, hju⟩ := List.getElem_of_mem (show u ∈ its by simpa using hu)
    have hj' : its[j]? = some u := by rw [List.getElem?_eq_getElem hj, hju]
    show SeqAt.EqAt A s u vv (decide (∃ j : Nat, its[j]? = some u ∧ e0 j = true))
    by_cases hh : ∃ j : Nat, its[j]? = some u ∧ e0 j = true
    · rw [decide_eq_true hh]
      obtain ⟨k, hk, ek⟩ := hh
      have := ask k u hk
      rw [ek] at this
      exact this
    · rw [decide_eq_false hh]
      have := ask j u hj'
      cases ej : e0 j with
      | true => exact absurd ⟨j, hj', ej⟩ hh
      | false => rw [ej] at this; exact this
  · rw [← hb, Bool.eq_iff_iff, List.any_eq_true]
    rw [Array.any_eq_true]
    constructor
    · rintro ⟨i, hi, h⟩
      obtain ⟨j, hj, ej⟩ := of_decide_eq_true h
      exact ⟨j, List.mem_range.mpr (by have := (List.getElem?_eq_some_iff.mp hj).1; omega), ej⟩
    · rintro ⟨j, hj, ej⟩
      have hj' : j < its.length := by have := List.mem_range.mp hj; omega
      exact ⟨j, by simpa using hj', decide_eq_true ⟨j, by simp [hj'], ej⟩⟩
theorem inD_str {x z : Str} {S : Store} {b : Bool} (h : inD S (.str x) (.str z) = some b) : ∃ c : Nat, x = ⟨#[c]⟩ ∧ b = decide (c ∈ z.cps.toList) := by
  unfold inD at h
  simp only at h
  split at h
  · rename_i hx
    obtain ⟨⟨l⟩⟩ := x
    match l, hx with
    | [c], _ => exact ⟨c, rfl, by simpa using (Option.some.inj h).symm⟩
  · cases h
theorem in_go (hu : X.A.units + 70 < cLine) {pins : List (Addr × Obj)} {s : Shared} {σ : St} {W : Wd} {S : Store} {dx dy : D} {x y : V} {v u : Value} {b : Bool} {Q : Value → Shared → Prop} (I : Inv X pins σ W.H s) (sr : SRep X.K W S) (r1 : Rep X.K W dx x) (r2 : Rep X.K W dy y) (rx : RelV x v) (ry : RelV y u)
    (e : (asQ S dy).bind (fun ys => optAny (fun z => eqD S deep z dx) ys) = some b) : (Q (.bool b) s → wpAny (model X.prog X.w) X.A (compareOp .In v u) Q X.xe s) ∧ (Q (.bool (!b)) s → wpAny (model X.prog X.w) X.A (compareOp .NotIn v u) Q X.xe s) := by
  cases h : asQ S dy with
  | none => rw [h] at e; cases e
  | some ys =>
    rw [h] at e
    simp only [Option.bind_some] at e
    have hn : X.A.in1.units + deep < cLine := by
      show X.A.units + 1 + 60 < cLine
      omega
    cases dy <;> simp only [asQ] at h
    case tup zs =>
      cases h
      simp only [Rep] at r2
      obtain ⟨a, vs, rfl, h1, h2⟩ := r2
      obtain rfl : u = Value.ref a := ry
      obtain ⟨its, rv, p, _⟩ := I.tuple h1.sq
      obtain ⟨f, hf, hb⟩ := any_items I sr hn r1 rx h2 rv e
      rw [← hb]
      exact ⟨fun q => SeqAt.in_tupleAt f p hf q, fun q => SeqAt.notIn_tupleAt f p hf q⟩
    all_goals
      obtain ⟨a, vs, rfl, h1, h2⟩ := asL_rep sr r2 h
      obtain rfl : u = Value.ref a := ry
      obtain ⟨its, rv, p, _⟩ := I.list h1
      obtain ⟨f, hf, hb⟩ := any_items I sr hn r1 rx h2 rv e
      rw [← hb]
      exact ⟨fun q => SeqAt.in_listAt f p.isList hf q, fun q => SeqAt.notIn_listAt f p.isList hf q⟩
theorem inD_cases {S : Store} {x y : D} {b : Bool} (h : inD S x y = some b) : (∃ c z, x = .str ⟨#[c]⟩ ∧ y = .str z ∧ b = decide (c ∈ z.cps.toList)) ∨ (asQ S y).bind (fun ys => optAny (fun z => eqD S deep z x) ys) = some b := by
  cases x <;> cases y <;> first
    | exact .inr h
    | (obtain ⟨c, rfl, hb⟩ := inD_str h; exact .inl ⟨c, _, rfl, rfl, hb⟩)
theorem op_inK (hu : X.A.units + 70 < cLine) : OpD X (compareOp .In) gIn := by
  refine ⟨fun pins s σ H x y v u Q I rx ry q => ?_⟩
  obtain ⟨W, S, dx, dy, d, rfl, sr, r1, r2, e, q⟩ := q
  unfold gIn at e
  cases hb : inD S dx dy with
  | none => rw [hb] at e; cases e
  | some b =>
    rw [hb] at e
    cases e
    have q' := q W _ (.refl W) sr (rep_blI b)
    rcases inD_cases hb with ⟨c, z, rfl, rfl, rfl⟩ | h
    · obtain rfl : x = .str ⟨#[c]⟩ := by simpa [Rep] using r1
      obtain rfl : y = .str z := by simpa [Rep] using r2
      exact op_in_sign pins s σ W.H _ _ v u Q I rx ry ⟨c, z, rfl, rfl, q'⟩
    · exact (in_go hu I sr r1 r2 rx ry h).1 ⟨.bl b, W.H, I, rfl, q'⟩
theorem op_notInK (hu : X.A.units + 70 < cLine) : OpD X (compareOp .NotIn) gNotIn := by
  refine ⟨fun pins s σ H x y v u Q I rx ry q => ?_⟩
  obtain ⟨W, S, dx, dy, d, rfl, sr, r1, r2, e, q⟩ := q
  unfold gNotIn at e
  cases hb : inD S dx dy with
  | none => rw [hb] at e; cases e
  | some b =>
    rw [hb] at e
    cases e
    have q' := q W _ (.refl W) sr (rep_blI (!b))
    rcases inD_cases hb with ⟨c, z, rfl, rfl, rfl⟩ | h
    · obtain rfl : x = .str ⟨#[c]⟩ := by simpa [Rep] using r1
      obtain rfl : y = .str z := by simpa [Rep] using r2
      exact op_notIn_sign pins s σ W.H _ _ v u Q I rx ry ⟨c, z, rfl, rfl, q'⟩
    · exact (in_go hu I sr r1 r2 rx ry h).2 ⟨.bl (!b), W.H, I, rfl, q'⟩
end
end KF

set_option Elab.async false
set_option linter.all false
set_option maxRecDepth 100000
set_option maxHeartbeats 4000000
/-! KFE: operators, slices, built-in functions. -/
namespace KF
open PySem PySem.Spec PyProof.Rows L2
section
variable {X : Cx} {Wx : WX} {a b c e : Expr} {ma mb mc : EM D} {pos : Pos} {es : List Expr} {ml : EM (List D)}

/-! ### arithmetic -/
def catL (a b : Option (List D)) : Option D := match a, b with
  | some xs, some ys => if xs.length + ys.length ≤ sizeLine then some (.lst (xs ++ ys)) else none
  | _, _ => none
def gAdd (x y : D) (S : Store) : Option D := match x, y with
  | .int i, .int j => some (.int (i + j))
  | .str a, .str b => if a.length + b.length ≤ sizeLine then some (.str (a ++ b)) else none
  | .tup xs, .tup ys => if xs.length + ys.length ≤ sizeLine then some (.tup (xs ++ ys)) else none
  | x, y => catL (asO S x) (asO S y)
theorem rep_i {K : PySem.W.Frag} {W : Wd} {i : Int} {v : V} (h : Rep K W (.int i) v) : v = .int i := by simpa [Rep] using h
theorem rep_s {K : PySem.W.Frag} {W : Wd} {x : Str} {v : V} (h : Rep K W (.str x) v) : v = .str x := by simpa [Rep] using h
theorem rep_iI {K : PySem.W.Frag} {W : Wd} {i : Int} : Rep K W (.int i) (.int i) := by simp [Rep]
theorem rep_sI {K : PySem.W.Frag} {W : Wd} {x : Str} : Rep K W (.str x) (.str x) := by simp [Rep]
theorem rep_nI {K : PySem.W.Frag} {W : Wd} : Rep K W .non .non := by simp [Rep]
theorem gAdd_list {x y : D} {S : Store} {d : D} (h : catL (asO S x) (asO S y) = some d) : ∃ xs ys, asO S x = some xs ∧ asO S y = some ys ∧ xs.length + ys.length ≤ sizeLine ∧ d = .lst (xs ++ ys) := by
  unfold catL at h
  split at h
  · rename_i xs ys h1 h2
    split at h
    · rename_i hl
      cases h
      exact ⟨xs, ys, h1, h2, hl, rfl⟩
    · cases h
  · cases h
theorem kp {K : PySem.W.Frag} {W : Wd} {S : Store} {d : D} {Q : VK} (k : ∀ W' v, W.le W' → SRep K W' S → Rep K W' d v → Q v W'.H) : VQ K W Q (fun _ _ _ => False) (.ok d S) := k
def rCatF (K : PySem.W.Frag) : R2 := fun x y H Q => ∃ a b xs ys, x = .ref a ∧ y = .ref b ∧ SqT K H a xs ∧ SqT K H b ys ∧ xs.length + ys.length ≤ sizeLine ∧
  (xs = [] → Q (.ref b) H) ∧ (xs ≠ [] → ys = [] → Q (.ref a) H) ∧ (xs ≠ [] → ys ≠ [] → ∀ (p : Addr) (o : Obj), H p = none → o.dict = none → Q (.ref p) (upd H p (.frz o (.tup (xs ++ ys)))))
theorem op_catF : OpR X (binaryOp .Add) (rCatF X.K) := by
  intro pins s σ H x y v u Q I rx ry ⟨a, b, xs, ys, ex, ey, ha, hb, hz, q0, q1, q2⟩
  subst ex; subst ey
  by_cases hx : xs = []
  · exact op_catA pins s σ H _ _ v u Q I rx ry ⟨a, b, xs, ys, rfl, rfl, ha, hb, hz, q0, fun h => absurd hx h, fun h => absurd hx h⟩
  · by_cases hy : ys = []
    · exact op_catA pins s σ H _ _ v u Q I rx ry ⟨a, b, xs, ys, rfl, rfl, ha, hb, hz, q0, fun _ _ => q1 hx hy, fun _ h => absurd hy h⟩
    · cases rx; cases ry
      obtain ⟨its, r1, p1, _⟩ := I.tuple ha; obtain ⟨its2, r2, p2, _⟩ := I.tuple hb
      exact HT.cat_tup p1 p2 (fun z => hx (r1.nil_iff.mp z)) (fun z => absurd (r2.nil_iff.mp z) hy) (fun z => ⟨.ref s.heap.objs.size, _, laidT I (r1.append r2) (by rw [List.length_append]; exact hz), rfl, q2 hx hy _ _ (I.hok.fresh (Nat.le_refl _)) rfl⟩) (by rw [← r1.length, ← r2.length]; exact hz)
theorem op_addK : OpD X (binaryOp .Add) gAdd := by
  refine opD_of (OpR.or op_add (OpR.or op_add_str (OpR.or op_catF op_cat))) fun W S dx dy d x y Q sr rx ry e k => ?_
  have lists : ∀ {xs ys : List D}, asO S dx = some xs → asO S dy = some ys → xs.length + ys.length ≤ sizeLine → d = .lst (xs ++ ys) → rCat x y W.H Q := by
    intro xs ys h1 h2 hl hd
    subst hd
    obtain ⟨p, vs, rfl, q1, r1⟩ := asO_rep sr rx h1
    obtain ⟨q, us, rfl, q2, r2⟩ := asO_rep sr ry h2
    exact ⟨p, q, vs, us, rfl, rfl, q1, q2, by rw [← r1.length, ← r2.length]; exact hl, new_lst sr (repL_append r1 r2) (kp k)⟩
  unfold gAdd at e
  cases dx <;> cases dy <;> simp only at e
  case int.int i j =>
    cases e
    obtain rfl := rep_i rx
    obtain rfl := rep_i ry
    exact .inl ⟨i, j, rfl, rfl, k W _ (.refl W) sr rep_iI⟩
  case str.str i j =>
    split at e
    · rename_i hl
      cases e
      obtain rfl := rep_s rx
      obtain rfl := rep_s ry
      exact .inr (.inl ⟨i, j, rfl, rfl, hl, k W _ (.refl W) sr rep_sI⟩)
    · cases e
  case tup.tup xs ys =>
    split at e
    · rename_i hl
      cases e
      obtain ⟨p, vs, rfl, q1, r1⟩ := asT_rep (d := .tup xs) rx rfl
      obtain ⟨q, us, rfl, q2, r2⟩ := asT_rep (d := .tup ys) ry rfl
      refine .inr (.inr (.inl ⟨p, q, vs, us, rfl, rfl, q1, q2, by rw [← r1.length, ← r2.length]; exact hl, fun hv => ?_, fun hv hu => ?_, fun _ _ => new_tup sr (repL_append r1 r2) (kp k)⟩))
      · have e1 : xs = [] := List.eq_nil_of_length_eq_zero (by rw [r1.length, hv]; rfl)
        subst e1
        exact k W _ (.refl W) sr (by simpa using ry)
      · have e1 : ys = [] := List.eq_nil_of_length_eq_zero (by rw [r2.length, hu]; rfl)
        subst e1
        exact k W _ (.refl W) sr (by simpa using rx)
    · cases e
  all_goals
    obtain ⟨xs, ys, h1, h2, hl, hd⟩ := gAdd_list e
    exact .inr (.inr (.inr (lists h1 h2 hl hd)))
/-- two ints -/
def g2I (f : Int → Int → Option D) (x y : D) (_ : Store) : Option D := match x, y with
  | .int i, .int j => f i j
  | _, _ => none
theorem op_I {f : Value → Value → Sem Value} {C : Int → Int → Prop} {g : Int → Int → V} {h : Int → Int → Option D} (ho : OpR X f (rI C g))
    (hh : ∀ i j d, h i j = some d → C i j ∧ ∀ W, Rep X.K W d (g i j)) : OpD X f (g2I h) := by
  refine opD_of ho fun W S dx dy d x y Q sr rx ry e k => ?_
  unfold g2I at e
  cases dx <;> cases dy <;> simp only at e <;> try cases e
  obtain rfl := rep_i rx
  obtain rfl := rep_i ry
  obtain ⟨h1, h2⟩ := hh _ _ _ e
  exact ⟨_, _, rfl, rfl, h1, k W _ (.refl W) sr (h2 W)⟩
theorem op_I0 {f : Value → Value → Sem Value} {g : Int → Int → V} {h : Int → Int → Option D} (ho : OpR X f (rI0 g))
    (hh : ∀ i j d, h i j = some d → ∀ W, Rep X.K W d (g i j)) : OpD X f (g2I h) := by
  refine opD_of ho fun W S dx dy d x y Q sr rx ry e k => ?_
  unfold g2I at e
  cases dx <;> cases dy <;> simp only at e <;> try cases e
  obtain rfl := rep_i rx
  obtain rfl := rep_i ry
  exact ⟨_, _, rfl, rfl, k W _ (.refl W) sr (hh _ _ _ e W)⟩
abbrev gSub := g2I fun i j => some (.int (i - j))
abbrev gDiv := g2I fun i j => if 0 < j ∧ j.natAbs.log2 < 9000 then some (.int (i / j)) else none
abbrev gMod := g2I fun i j => if 0 < j then some (.int (i % j)) else none
abbrev gPow := g2I fun i j => if 0 ≤ j ∧ j ≤ 1000000 ∧ i.natAbs < 2 ^ 64 then some (.int (i ^ j.toNat)) else none
abbrev gLt := g2I fun i j => some (.bl (decide (i < j)))
abbrev gLe := g2I fun i j => some (.bl (decide (i ≤ j)))
abbrev gGt := g2I fun i j => some (.bl (decide (j < i)))
abbrev gGe := g2I fun i j => some (.bl (decide (j ≤ i)))
theorem op_subK : OpD X (binaryOp .Sub) gSub := op_I0 op_sub fun i j d h W => by cases h; exact rep_iI
theorem op_divK : OpD X (binaryOp .FloorDiv) gDiv := op_I op_fdivW fun i j d h => by
  split at h
  · rename_i c; cases h; exact ⟨c, fun W => rep_iI⟩
  · cases h
theorem op_modK : OpD X (binaryOp .Mod) gMod := op_I op_mod fun i j d h => by
  split at h
  · rename_i c; cases h; exact ⟨c, fun W => rep_iI⟩
  · cases h
theorem op_powK : OpD X (binaryOp .Pow) gPow := op_I op_pow fun i j d h => by
  split at h
  · rename_i c; cases h; exact ⟨c, fun W => rep_iI⟩
  · cases h
theorem op_ltK : OpD X (compareOp .Lt) gLt := op_I0 op_lt fun i j d h W => by cases h; exact rep_blI _
theorem op_leK : OpD X (compareOp .LtE) gLe := op_I0 op_le fun i j d h W => by cases h; exact rep_blI _
theorem op_gtK : OpD X (compareOp .Gt) gGt := op_I0 op_gt fun i j d h W => by cases h; exact rep_blI _
theorem op_geK : OpD X (compareOp .GtE) gGe := op_I0 op_ge fun i j d h W => by cases h; exact rep_blI _
/-- int * int; list * int -/
def gMul (x y : D) (S : Store) : Option D := match x, y with
  | .int i, .int j => if i.natAbs.log2 + j.natAbs.log2 < 1000000 then some (.int (i * j)) else none
  | x, .int k => (asO S x).bind fun xs => if -(2 ^ 63) ≤ k ∧ k < 2 ^ 63 ∧ xs.length * k.toNat ≤ sizeLine then some (.lst (List.replicate k.toNat xs).flatten) else none
  | _, _ => none
theorem repL_flat {K : PySem.W.Frag} {W : Wd} {xs : List D} {vs : List V} (r : RepL K W xs vs) : ∀ n : Nat, RepL K W (List.replicate n xs).flatten (List.replicate n vs).flatten
  | 0 => by simp [RepL]
  | n + 1 => by
    rw [List.replicate_succ, List.replicate_succ, List.flatten_cons, List.flatten_cons]
    exact repL_append r (repL_flat r n)
theorem op_mulK : OpD X (binaryOp .Mult) gMul := by
  refine opD_of (OpR.or op_mulW op_rep) fun W S dx dy d x y Q sr rx ry e k => ?_
  unfold gMul at e
  have ls : ∀ {n : Int}, dy = .int n → ((asO S dx).bind fun xs => if -(2 ^ 63) ≤ n ∧ n < 2 ^ 63 ∧ xs.length * n.toNat ≤ sizeLine then some (D.lst (List.replicate n.toNat xs).flatten) else none) = some d → rRep x y W.H Q := by
    intro n hy e2
    clear e
    subst hy
    cases h : asO S dx with
    | none => rw [h] at e2; cases e2
    | some xs =>
      rw [h] at e2
      simp only [Option.bind_some] at e2
      split at e2
      · rename_i hh
        cases e2
        obtain ⟨p, vs, rfl, q1, r1⟩ := asO_rep sr rx h
        obtain rfl := rep_i ry
        exact ⟨p, n, vs, rfl, rfl, q1, hh.1, hh.2.1, by rw [← r1.length]; exact hh.2.2, new_lst sr (repL_flat r1 _) (kp k)⟩
      · cases e2
  cases dy <;> try (cases dx <;> simp only at e <;> cases e; done)
  rename_i n
  cases dx <;> simp only at e
  case int i =>
    split at e
    · rename_i hh
      cases e
      obtain rfl := rep_i rx
      obtain rfl := rep_i ry
      exact .inl ⟨i, n, rfl, rfl, hh, k W _ (.refl W) sr rep_iI⟩
    · cases e
  all_goals exact .inr (ls rfl e)
/-! ### is None -/
def isNon : D → Bool
  | .non => true
  | _ => false
theorem non_iff {K : PySem.W.Frag} {W : Wd} {d : D} {v : V} (h : Rep K W d v) : decide (v = .non) = isNon d := by
  cases d <;> simp only [Rep] at h <;> simp only [isNon]
  case non => simp [h]
  all_goals first
    | (subst h; simp; done)
    | (obtain ⟨_, _, rfl, _⟩ := h; simp; done)
    | (obtain ⟨_, rfl, _⟩ := h; simp; done)
    | (obtain ⟨_, _, _, rfl, _⟩ := h; simp; done)
    | (obtain ⟨rfl, _⟩ := h; simp; done)
def gIsN (x y : D) (_ : Store) : Option D := match y with
  | .non => some (.bl (isNon x))
  | _ => none
def gNotN (x y : D) (_ : Store) : Option D := match y with
  | .non => some (.bl (!isNon x))
  | _ => none
theorem op_isK : OpD X (compareOp .Is) gIsN := by
  refine opD_of op_isN fun W S dx dy d x y Q sr rx ry e k => ?_
  unfold gIsN at e
  cases dy <;> simp only at e <;> cases e
  have hx := non_iff rx
  have hy : y = .non := by simpa [Rep] using ry
  refine ⟨hy, ?_⟩
  rw [hx]
  exact k W _ (.refl W) sr (rep_blI _)
theorem op_notK : OpD X (compareOp .IsNot) gNotN := by
  refine opD_of op_notN fun W S dx dy d x y Q sr rx ry e k => ?_
  unfold gNotN at e
  cases dy <;> simp only at e <;> cases e
  have hx := non_iff rx
  have hy : y = .non := by simpa [Rep] using ry
  refine ⟨hy, ?_⟩
  rw [hx]
  exact k W _ (.refl W) sr (rep_blI _)
/-! ### -n -/
def negE (a : EM D) : EM D := fun st S => (a st S).bind fun x S1 => match x with
  | .int i => .ok (.int (-i)) S1
  | _ => .bad
theorem de_neg (ha : DE X Wx a ma) : DE X Wx (.UnaryOp .USub a pos) (negE ma) := by
  refine de_of (pe_un un_neg ha.p) fun W st S σ Q at_ q => ?_
  refine goE at_ q fun W1 d S1 v l a1 r q1 => ?_
  cases d <;> try exact q1.elim
  exact ⟨_, rep_i r, q1 W1 _ (.refl W1) a1.s rep_iI⟩
/-! ### slices -/
def cutX {α : Type} (xs : List α) (lo hi : Option Int) : List α := (xs.drop (HT.sIx xs.length 0 lo)).take (HT.sIx xs.length xs.length hi - HT.sIx xs.length 0 lo)
theorem RepL.cut {K : PySem.W.Frag} {W : Wd} {ds : List D} {vs : List V} (r : RepL K W ds vs) (lo hi : Option Int) : RepL K W (cutX ds lo hi) (cutV vs lo hi) := by
  unfold cutX cutV
  rw [r.length]
  exact (r.drop _).take _
def iRes (d : D) (S : Store) : Res (Option Int) := match d with
  | .int i => .ok (some i) S
  | _ => .bad
def optE : Option (EM D) → EM (Option Int)
  | none => fun _ S => .ok none S
  | some m => fun st S => (m st S).bind iRes
def gSl (x : D) (lo hi : Option Int) (S : Store) : Option D := match x with
  | .str z => if z.length ≤ sizeLine then some (.str (cutS z lo hi)) else none
  | .tup xs => some (.tup (cutX xs lo hi))
  | x => (asL S x).map fun xs => .lst (cutX xs lo hi)
def slE (a : EM D) (lo hi : Option (EM D)) : EM D := fun st S => (a st S).bind fun x S1 => (optE lo st S1).bind fun l S2 => (optE hi st S2).bind fun h S3 => .of (gSl x l h S3) S3
/-- a slice that is a list which may be changed -/
def slC (a : EM D) (lo hi : Option (EM D)) : EM D := fun st S => (a st S).bind fun x S1 => (optE lo st S1).bind fun l S2 => (optE hi st S2).bind fun h S3 => match asL S3 x with
  | some xs => .ok (.cell S3.length) (S3 ++ [.lst (cutX xs l h)])
  | none => .bad
inductive DO (X : Cx) (Wx : WX) : Option Expr → Option (EM D) → Prop where
  | none : DO X Wx none none
  | some {e : Expr} {m : EM D} (h : DE X Wx e m) : DO X Wx (some e) (some m)
def tDO (K : PySem.W.Frag) (Wx : WX) : Option (EM D) → TO
  | none => tNoPart
  | some m => tPart (tD K Wx m)
theorem DO.p {o : Option Expr} {m : Option (EM D)} (h : DO X Wx o m) : PO X o (tDO X.K Wx m) := by
  cases h with
  | none => exact po_none
  | some h => exact po_some h.p
theorem goO {K : PySem.W.Frag} {W : Wd} {st : DSt} {S : Store} {σ : St} {Q : VK} {m : Option (EM D)} {f : Option Int → Store → Res D} {R : Option Int → Hp → Prop} (at_ : At K W st S σ W.H) (q : VQ K W Q (fun c d H' => Wx c d σ H') ((optE m st S).bind f))
    (h : ∀ W1 o S1, W.le W1 → At K W1 st S1 σ W1.H → VQ K W1 Q (fun c d H' => Wx c d σ H') (f o S1) → R o W1.H) : tDO K Wx m σ W.H R := by
  cases m with
  | none => exact h W none S (.refl W) at_ q
  | some m =>
    have q' : VQ K W Q (fun c d H' => Wx c d σ H') ((m st S).bind fun d S1 => (iRes d S1).bind f) := by
      have e : (optE (some m) st S).bind f = ((m st S).bind fun d S1 => (iRes d S1).bind f) := by
        show ((m st S).bind iRes).bind f = _
        cases m st S <;> rfl
      rw [← e]
      exact q
    refine goE at_ q' fun W1 d S1 v l a1 r q1 => ?_
    cases d <;> try exact q1.elim
    exact ⟨_, rep_i r, h W1 _ S1 l a1 q1⟩
def rSlF (K : PySem.W.Frag) : V → Option Int → Option Int → Hp → VK → Prop := fun x lo hi H Q => ∃ a xs, x = .ref a ∧ SqT K H a xs ∧
  (HT.sIx xs.length 0 lo = 0 ∧ HT.sIx xs.length xs.length hi = xs.length → Q (.ref a) H) ∧ (¬ (HT.sIx xs.length 0 lo = 0 ∧ HT.sIx xs.length xs.length hi = xs.length) → ∀ (p : Addr) (o : Obj), H p = none → o.dict = none → Q (.ref p) (upd H p (.frz o (.tup (cutV xs lo hi)))))
theorem sl_tupF : SlR X (rSlF X.K) := by
  intro pins s σ H x v vl vu lo hi sl Q I rx hs pl pu ⟨a, xs, ex, hx, q1, q2⟩
  subst ex
  by_cases hw : HT.sIx xs.length 0 lo = 0 ∧ HT.sIx xs.length xs.length hi = xs.length
  · exact sl_tupA pins s σ H _ v vl vu lo hi sl Q I rx hs pl pu ⟨a, xs, rfl, hx, q1, fun h => absurd hw h⟩
  · cases rx
    obtain ⟨its, r, ht, hz⟩ := I.tuple hx
    have hlen : its.toArray.size = xs.length := by rw [List.size_toArray]; exact r.length.symm
    refine ⟨"tuple", _, PyProof.Rows.slot_tuple_getitem.lookup, ht.typeIs, HT.getItem_tuple_cut ht hs pl pu (by rw [hlen]; exact hw) ?_ (by rw [hlen]; exact hz)⟩
    rw [hlen]
    exact ⟨.ref s.heap.objs.size, _, laidT I ((r.drop (HT.sIx xs.length 0 lo)).take (HT.sIx xs.length xs.length hi - HT.sIx xs.length 0 lo)) (Nat.le_trans (cutV_length xs lo hi) hz), rfl, q2 hw _ _ (I.hok.fresh (Nat.le_refl _)) rfl⟩
theorem de_sl {lo hi : Option Expr} {ol oh : Option (EM D)} {p2 : Pos} (ha : DE X Wx a ma) (hl : DO X Wx lo ol) (hh : DO X Wx hi oh) : DE X Wx (.Subscript a (.Slice lo hi none p2) pos) (slE ma ol oh) := by
  refine de_of (pe_slice (SlR.or sl_list (SlR.or sl_tupF sl_str)) ha.p hl.p hh.p) fun W st S σ Q at_ q => ?_
  refine goE at_ q fun W1 dx S1 x l1 a1 r1 q1 => ?_
  refine goO a1 q1 fun W2 l S2 l2 a2 q2 => ?_
  refine goO a2 q2 fun W3 h S3 l3 a3 q3 => ?_
  obtain ⟨d, e, k⟩ := of_go q3
  have r3 := (r1.mono l2 _ _).mono l3 _ _
  unfold gSl at e
  cases dx <;> simp only at e
  case str z =>
    split at e
    · rename_i hz
      cases e
      obtain rfl := rep_s r3
      exact .inr (.inr ⟨z, rfl, hz, k W3 _ (.refl W3) a3.s rep_sI⟩)
    · cases e
  case tup xs =>
    cases e
    obtain ⟨p, vs, rfl, q1, r1⟩ := asT_rep (d := .tup xs) r3 rfl
    refine .inr (.inl ⟨p, vs, rfl, q1, fun hw => ?_, fun _ => new_tup a3.s (r1.cut l h) (kp k)⟩)
    have e1 : cutX xs l h = xs := by
      unfold cutX
      rw [r1.length, hw.1, hw.2, List.drop_zero, Nat.sub_zero, ← r1.length, List.take_length]
    rw [e1] at k
    exact k W3 _ (.refl W3) a3.s r3
  all_goals
    cases hh : asL S3 _ with
    | none => rw [hh] at e; cases e
    | some xs =>
      rw [hh] at e
      cases e
      obtain ⟨p, vs, rfl, q1, r1⟩ := asL_rep a3.s r3 hh
      exact .inl ⟨p, vs, rfl, q1, new_lst a3.s (r1.cut l h) (kp k)⟩
theorem de_slC {lo hi : Option Expr} {ol oh : Option (EM D)} {p2 : Pos} (ha : DE X Wx a ma) (hl : DO X Wx lo ol) (hh : DO X Wx hi oh) : DE X Wx (.Subscript a (.Slice lo hi none p2) pos) (slC ma ol oh) := by
  refine de_of (pe_slice sl_list ha.p hl.p hh.p) fun W st S σ Q at_ q => ?_
  refine goE at_ q fun W1 dx S1 x l1 a1 r1 q1 => ?_
  refine goO a1 q1 fun W2 l S2 l2 a2 q2 => ?_
  refine goO a2 q2 fun W3 h S3 l3 a3 q3 => ?_
  have r3 := (r1.mono l2 _ _).mono l3 _ _
  cases hh : asL S3 dx with
  | none => rw [hh] at q3; exact q3.elim
  | some xs =>
    rw [hh] at q3
    obtain ⟨p, vs, rfl, q1, r1⟩ := asL_rep a3.s r3 hh
    exact ⟨p, vs, rfl, q1, new_cel a3.s (r1.cut l h) q3⟩

/-! ### built-in functions -/
def rDL (K : PySem.W.Frag) (g : List D → Store → Option (D × Store)) : List V → Hp → VK → Prop := fun vs H Q => ∃ W S ds d S', W.H = H ∧ SRep K W S ∧ RepL K W ds vs ∧ g ds S = some (d, S') ∧ ∀ W' v, W.le W' → SRep K W' S' → Rep K W' d v → Q v W'.H
structure CallD (X : Cx) (f : Value) (g : List D → Store → Option (D × Store)) : Prop where
  p : CallR X f (rDL X.K g)
theorem callR_imp {f : Value} {r r' : List V → Hp → VK → Prop} (h : CallR X f r) (i : ∀ xs H Q, r' xs H Q → r xs H Q) : CallR X f r' :=
  fun pins s σ H xs us Q I rx q => h pins s σ H xs us Q I rx (i xs H Q q)
theorem callD_of {f : Value} {r : List V → Hp → VK → Prop} {g : List D → Store → Option (D × Store)} (h : CallR X f r)
    (i : ∀ W S ds d S' vs Q, SRep X.K W S → RepL X.K W ds vs → g ds S = some (d, S') → (∀ W' v, W.le W' → SRep X.K W' S' → Rep X.K W' d v → Q v W'.H) → r vs W.H Q) : CallD X f g :=
  ⟨callR_imp h fun vs H Q ⟨W, S, ds, d, S', e, s, r, eg, k⟩ => by subst e; exact i W S ds d S' vs Q s r eg k⟩
theorem callR_or {f : Value} {r r' : List V → Hp → VK → Prop} (h : CallR X f r) (h' : CallR X f r') : CallR X f (fun xs H Q => r xs H Q ∨ r' xs H Q) :=
  fun pins s σ H xs us Q I rx q => q.elim (h pins s σ H xs us Q I rx) (h' pins s σ H xs us Q I rx)
def Res.of2 (o : Option (D × Store)) : Res D := match o with
  | some (d, S) => .ok d S
  | none => .bad
@[simp] theorem of2_some (d : D) (S : Store) : Res.of2 (some (d, S)) = .ok d S := rfl
@[simp] theorem of2_none : Res.of2 none = .bad := rfl
theorem of2_go {K : PySem.W.Frag} {W : Wd} {Q : VK} {E : XK} {o : Option (D × Store)} (q : VQ K W Q E (.of2 o)) : ∃ d S', o = some (d, S') ∧ ∀ W' v, W.le W' → SRep K W' S' → Rep K W' d v → Q v W'.H := by
  cases o with
  | none => exact q.elim
  | some p => exact ⟨p.1, p.2, rfl, q⟩
def callE (g : List D → Store → Option (D × Store)) (ml : EM (List D)) : EM D := fun st S => (ml st S).bind fun ds S1 => .of2 (g ds S1)
theorem call_go {g : List D → Store → Option (D × Store)} {W : Wd} {st : DSt} {S : Store} {σ : St} {Q : VK} (at_ : At X.K W st S σ W.H) (q : VQ X.K W Q (fun c d H' => Wx c d σ H') (callE g ml st S)) : tDL X.K Wx ml σ W.H fun vs H1 => rDL X.K g vs H1 Q := by
  refine goAE at_ q fun W1 ds S1 vs l a1 r q1 => ?_
  obtain ⟨d, S', e, k⟩ := of2_go q1
  exact ⟨W1, S1, ds, d, S', rfl, a1.s, r, e, k⟩
theorem de_callB {id : String} {x : Str} {p : Pos} {g : List D → Store → Option (D × Store)} (hc : CallD X (.builtin id) g) (hg : Gl X x) (hm : X.mg x = none) (hv : bootBuiltins x = some (.builtin id)) (ha : DA X Wx (e :: es) ml) (hn : x ≠ "__name__" := by decide) (hdb : (x == ("__debug__" : Str)) = false := by decide)
    (he : starEach (e :: es) X.env = (false, eval e X.env) :: starEach es X.env := by rfl) (hpl : (backTo pos (starEach es X.env)).any (·.1) = false := by rfl) : DE X Wx (.Call (.Name x p) (e :: es) [] pos) (callE g ml) :=
  de_of (pe_callB hc.p hg hm hv ha.p hn hdb he hpl) fun W st S σ Q at_ q => call_go at_ q
theorem de_callT {id : String} {x : Str} {p : Pos} {g : List D → Store → Option (D × Store)} (hc : CallD X (.type id) g) (hg : Gl X x) (hm : X.mg x = none) (hv : bootBuiltins x = some (.type id)) (ha : DA X Wx (e :: es) ml) (hn : x ≠ "__name__" := by decide) (hdb : (x == ("__debug__" : Str)) = false := by decide)
    (he : starEach (e :: es) X.env = (false, eval e X.env) :: starEach es X.env := by rfl) (hpl : (backTo pos (starEach es X.env)).any (·.1) = false := by rfl) : DE X Wx (.Call (.Name x p) (e :: es) [] pos) (callE g ml) :=
  de_of (pe_callTy hc.p hg hm hv ha.p hn hdb he hpl) fun W st S σ Q at_ q => call_go at_ q
/-- one argument, the store as it was -/
def g1 (f : D → Store → Option D) : List D → Store → Option (D × Store) := fun ds S => match ds with
  | [x] => (f x S).map fun d => (d, S)
  | _ => none
def g2 (f : D → D → Store → Option D) : List D → Store → Option (D × Store) := fun ds S => match ds with
  | [x, y] => (f x y S).map fun d => (d, S)
  | _ => none
theorem repL_1 {K : PySem.W.Frag} {W : Wd} {x : D} {vs : List V} (h : RepL K W [x] vs) : ∃ v, vs = [v] ∧ Rep K W x v := by
  simp only [RepL] at h
  obtain ⟨v, r, rfl, h1, rfl⟩ := h
  exact ⟨v, rfl, h1⟩
theorem repL_2 {K : PySem.W.Frag} {W : Wd} {x y : D} {vs : List V} (h : RepL K W [x, y] vs) : ∃ v u, vs = [v, u] ∧ Rep K W x v ∧ Rep K W y u := by
  simp only [RepL] at h
  obtain ⟨v, r, rfl, h1, u, r', rfl, h2, rfl⟩ := h
  exact ⟨v, u, rfl, h1, h2⟩
theorem call1 {f : Value} {r : List V → Hp → VK → Prop} {g : D → Store → Option D} (h : CallR X f r)
    (i : ∀ W S x d v Q, SRep X.K W S → Rep X.K W x v → g x S = some d → (∀ W' v, W.le W' → SRep X.K W' S → Rep X.K W' d v → Q v W'.H) → r [v] W.H Q) : CallD X f (g1 g) := by
  refine callD_of h fun W S ds d S' vs Q s rl e k => ?_
  match ds, e with
  | [x], e =>
    obtain ⟨v, rfl, rx⟩ := repL_1 rl
    unfold g1 at e
    cases hg : g x S with
    | none => simp [hg] at e
    | some d' =>
      simp only [hg, Option.map_some, Option.some.injEq, Prod.mk.injEq] at e
      obtain ⟨rfl, rfl⟩ := e
      exact i W S x d' v Q s rx hg k
  | [], e => cases e
  | _ :: _ :: _, e => cases e
theorem call2 {f : Value} {r : List V → Hp → VK → Prop} {g : D → D → Store → Option D} (h : CallR X f r)
    (i : ∀ W S x y d v u Q, SRep X.K W S → Rep X.K W x v → Rep X.K W y u → g x y S = some d → (∀ W' v, W.le W' → SRep X.K W' S → Rep X.K W' d v → Q v W'.H) → r [v, u] W.H Q) : CallD X f (g2 g) := by
  refine callD_of h fun W S ds d S' vs Q s rl e k => ?_
  match ds, e with
  | [x, y], e =>
    obtain ⟨v, u, rfl, rx, ry⟩ := repL_2 rl
    unfold g2 at e
    cases hg : g x y S with
    | none => simp [hg] at e
    | some d' =>
      simp only [hg, Option.map_some, Option.some.injEq, Prod.mk.injEq] at e
      obtain ⟨rfl, rfl⟩ := e
      exact i W S x y d' v u Q s rx ry hg k
  | [], e => cases e
  | [_], e => cases e
  | _ :: _ :: _ :: _, e => cases e
/-- len -/
def gLen (x : D) (S : Store) : Option D := match x with
  | .str z => if z.length ≤ sizeLine then some (.int z.length) else none
  | x => (asQ S x).map fun xs => .int xs.length
theorem call_lenK : CallD X (.builtin "len") (g1 gLen) := by
  refine call1 (callR_or call_len_seq call_len) fun W S x d v Q s rx e k => ?_
  have sq : ∀ x, (asQ S x).map (fun xs => D.int xs.length) = some d → Rep X.K W x v → ∃ p ys, [v] = [V.ref p] ∧ (SqL X.K W.H p ys ∨ SqT X.K W.H p ys) ∧ Q (.int ys.length) W.H := by
    intro x e rx
    cases h : asQ S x with
    | none => rw [h] at e; cases e
    | some xs =>
      rw [h] at e
      cases e
      cases x <;> simp only [asQ] at h
      case tup zs =>
        cases h
        obtain ⟨p, vs, rfl, q1, r1⟩ := asT_rep (d := .tup xs) rx rfl
        exact ⟨p, vs, rfl, .inr q1, by rw [← r1.length]; exact k W _ (.refl W) s rep_iI⟩
      all_goals
        obtain ⟨p, vs, rfl, q1, r1⟩ := asL_rep s rx h
        exact ⟨p, vs, rfl, .inl q1, by rw [← r1.length]; exact k W _ (.refl W) s rep_iI⟩
  unfold gLen at e
  cases x <;> simp only at e
  case str z =>
    split at e
    · rename_i hz
      cases e
      obtain rfl := rep_s rx
      exact .inr ⟨_, z.length, rfl, ⟨hz, rfl⟩, k W _ (.refl W) s rep_iI⟩
    · cases e
  all_goals exact .inl (sq _ e rx)
end
end KF

set_option Elab.async false
set_option linter.all false
set_option maxRecDepth 100000
set_option maxHeartbeats 4000000
/-! KFF: more built-in functions and methods. -/
namespace KF
open PySem PySem.Spec PyProof.Rows L2
section
variable {X : Cx} {Wx : WX} {a b c e o : Expr} {ma mb mc mo : EM D} {pos : Pos} {es : List Expr} {ml : EM (List D)}
/-! ### isinstance -/
def tys : List String := ["int", "bool", "str", "tuple", "list", "dict", "NoneType"]
/-- what the written part says of the own classes cs -/
structure Kits (K : PySem.W.Frag) (cs : List Addr) : Prop where
  a : ∀ C ∈ cs, ∀ T ∈ tys, PySem.W.kitOne K (.ref C) (.type T) = some false
  b : ∀ C ∈ cs, ∀ T ∈ tys, PySem.W.kitOne K (.type T) (.ref C) = some false
  c : ∀ C ∈ cs, ∀ C' ∈ cs, C ≠ C' → PySem.W.kitOne K (.ref C) (.ref C') = some false
  cl : ∀ C ∈ cs, Cls K C
  d : ∀ C ∈ cs, PySem.W.findIn K (.ref C) "__class__" = some (some (.builtin "object.__class__"))
  e : PySem.W.specialIn K (.builtin "object.__class__") "__get__" = some (some (.builtin "getset_descriptor.__get__"))
  f : PySem.W.takesIn K (.builtin "object.__class__") = some true
  g : ∀ C ∈ cs, PySem.W.mroIn K C (.type "object") = some true
/-- the class: a built-in one's name, or an own one -/
inductive Ty where
  | b (n : String) | o (C : Addr)
def tyD (S : Store) : D → Option Ty
  | .non => some (.b "NoneType")
  | .bl _ => some (.b "bool")
  | .int _ => some (.b "int")
  | .str _ => some (.b "str")
  | .tup _ => some (.b "tuple")
  | .lst _ => some (.b "list")
  | .dct _ _ => some (.b "dict")
  | .ins C _ _ => some (.o C)
  | .cell n => match S[n]? with
    | some (.lst _) => some (.b "list")
    | some (.fro _) => some (.b "list")
    | some (.ins C _ _) => some (.o C)
    | some (.fins C _ _) => some (.o C)
    | _ => none
  | _ => none
def isiTy (cs : List Addr) (t u : Ty) : Option Bool := match t, u with
  | .b n, .b m => kitB n m
  | .o C, .b m => if C ∈ cs ∧ m ∈ tys then some false else none
  | .b n, .o C => if C ∈ cs ∧ n ∈ tys then some false else none
  | .o C, .o C' => if C = C' then some true else if C ∈ cs ∧ C' ∈ cs then some false else none
def clsTy : D → Option Ty
  | .ty n => some (.b n)
  | .obj C => some (.o C)
  | _ => none
def tyIn (cs : List Addr) : Ty → Bool
  | .o C => decide (C ∈ cs)
  | _ => true
def gIsi (cs : List Addr) (x c : D) (S : Store) : Option D := match tyD S x, clsTy c with
  | some t, some u => if tyIn cs t then (isiTy cs t u).map .bl else none
  | _, _ => none
def tyV (t : Ty) : Value := match t with
  | .b n => .type n
  | .o C => .ref C
theorem kit_isi {K : PySem.W.Frag} {cs : List Addr} (k : Kits K cs) {t u : Ty} {b : Bool} (h : isiTy cs t u = some b) : PySem.W.kitOne K (tyV t) (tyV u) = some b := by
  cases t <;> cases u <;> simp only [isiTy] at h
  · exact kit_ty h
  · split at h
    · rename_i hh; cases h; exact k.b _ hh.1 _ hh.2
    · cases h
  · split at h
    · rename_i hh; cases h; exact k.a _ hh.1 _ hh.2
    · cases h
  · split at h
    · rename_i hh
      subst hh
      cases h
      unfold PySem.W.kitOne
      rw [if_pos (beq_self_eq_true _)]
    · split at h
      · rename_i h1 hh; cases h; exact k.c _ hh.1 _ hh.2 h1
      · cases h
theorem tyX_of {K : PySem.W.Frag} {cs : List Addr} (k : Kits K cs) {W : Wd} {S : Store} {x : D} {v : V} {t : Ty} (s : SRep K W S) (r : Rep K W x v) (h : tyD S x = some t) (hc : tyIn cs t = true) : TyX K W.H v (tyV t) := by
  have ins : ∀ {a dx C : Addr} {fs : List (Str × V)}, t = .o C → W.H a = some (.ins C dx fs) → TyX K W.H (.ref a) (tyV t) := by
    intro a dx C fs ht e
    subst ht
    have hc := of_decide_eq_true hc
    exact .base (.ins e (k.cl C hc) (k.d C hc) k.e k.f (k.g C hc))
  cases x <;> simp only [tyD, Rep] at h r
  case non => cases h; subst r; exact .base .non
  case bl => cases h; subst r; exact .base (.bl _)
  case int => cases h; subst r; exact .base (.int _)
  case str => cases h; subst r; exact .base (.str _)
  case tup xs =>
    cases h
    obtain ⟨a, vs, rfl, q, _⟩ := r
    rcases q with ⟨⟨o, q, _⟩, _⟩ | ⟨o, its, n, h1, h2, _⟩
    · exact .fTuple q
    · exact .kTuple h1 h2
  case lst xs =>
    cases h
    obtain ⟨a, vs, rfl, q, _⟩ := r
    exact .base (.lst q)
  case dct ks xs =>
    cases h
    obtain ⟨a, vs, rfl, q, _⟩ := r
    rcases q with q | ⟨o, q⟩
    · exact .base (.dK q)
    · exact .fDict q
  case ins C ks xs =>
    obtain ⟨a, dx, vs, rfl, q, _⟩ := r
    exact ins (Option.some.inj h).symm q
  case cell n =>
    obtain ⟨a, rfl, h2⟩ := r
    split at h <;> try cases h
    · rename_i xs hs
      obtain ⟨vs, q, _⟩ := s.at_ _ _ _ h2 hs
      exact .base (.lst q)
    · rename_i xs hs
      obtain ⟨vs, q, _⟩ := s.at_ _ _ _ h2 hs
      exact .base (.lst q)
    · rename_i C ks xs hs
      obtain ⟨dx, vs, q, _⟩ := s.at_ _ _ _ h2 hs
      exact ins rfl q
    · rename_i C ks xs hs
      obtain ⟨dx, vs, q, _⟩ := s.at_ _ _ _ h2 hs
      exact ins rfl q
  all_goals cases h
theorem call_isiK {cs : List Addr} (k : Kits X.K cs) : CallD X (.builtin "isinstance") (g2 (gIsi cs)) := by
  refine call2 call_isi fun W S x c d v u Q s rx rc e kk => ?_
  unfold gIsi at e
  cases h1 : tyD S x with
  | none => rw [h1] at e; cases e
  | some t =>
    cases h2 : clsTy c with
    | none => rw [h1, h2] at e; cases e
    | some w =>
      rw [h1, h2] at e
      simp only at e
      split at e
      · rename_i hc
        cases h3 : isiTy cs t w with
        | none => rw [h3] at e; cases e
        | some b =>
          rw [h3] at e
          cases e
          refine ⟨v, u, tyV t, tyV w, b, rfl, ?_, tyX_of k s rx h1 hc, kit_isi k h3, kk W _ (.refl W) s (rep_blI b)⟩
          cases c <;> simp only [clsTy] at h2 <;> cases h2
          · obtain rfl : u = .ty _ := by simpa [Rep] using rc
            exact .ty _
          · obtain rfl : u = .ref _ := by simpa [Rep] using rc
            exact .own _
      · cases e
/-! ### numbers -/
def gInt (x : D) (_ : Store) : Option D := match x with
  | .int i => some (.int i)
  | .bl k => some (.int (if k then 1 else 0))
  | _ => none
theorem call_intK : CallD X (.type "int") (g1 gInt) := by
  refine call1 call_int1 fun W S x d v Q s rx e k => ?_
  unfold gInt at e
  cases x <;> simp only at e <;> cases e
  · obtain rfl := rep_b rx
    exact .inr ⟨_, rfl, k W _ (.refl W) s rep_iI⟩
  · obtain rfl := rep_i rx
    exact .inl ⟨_, rfl, k W _ (.refl W) s rep_iI⟩
def gAbs (x : D) (_ : Store) : Option D := match x with
  | .int i => some (.int (if i < 0 then -i else i))
  | _ => none
theorem call_absK : CallD X (.builtin "abs") (g1 gAbs) := by
  refine call1 call_abs fun W S x d v Q s rx e k => ?_
  unfold gAbs at e
  cases x <;> simp only at e <;> cases e
  obtain rfl := rep_i rx
  exact ⟨_, rfl, k W _ (.refl W) s rep_iI⟩
def gStr (x : D) (_ : Store) : Option D := match x with
  | .int i => if i.natAbs.log2 < 1920 then some (.str (toString i)) else none
  | _ => none
theorem call_strK : CallD X (.type "str") (g1 gStr) := by
  refine call1 call_str_int fun W S x d v Q s rx e k => ?_
  unfold gStr at e
  cases x <;> simp only at e <;> try cases e
  split at e
  · rename_i hh
    cases e
    obtain rfl := rep_i rx
    exact ⟨_, rfl, hh, k W _ (.refl W) s rep_sI⟩
  · cases e
abbrev gMax := g2I fun i j => some (.int (if j > i then j else i))
abbrev gMin := g2I fun i j => some (.int (if j < i then j else i))
theorem call_maxK (hc : X.calm = true) : CallD X (.builtin "max") (g2 gMax) := by
  refine call2 (call_max2 hc) fun W S x y d v u Q s rx ry e k => ?_
  unfold gMax g2I at e
  cases x <;> cases y <;> simp only at e <;> cases e
  obtain rfl := rep_i rx
  obtain rfl := rep_i ry
  exact ⟨_, _, rfl, k W _ (.refl W) s rep_iI⟩
theorem call_minK (hc : X.calm = true) : CallD X (.builtin "min") (g2 gMin) := by
  refine call2 (call_min2 hc) fun W S x y d v u Q s rx ry e k => ?_
  unfold gMin g2I at e
  cases x <;> cases y <;> simp only at e <;> cases e
  obtain rfl := rep_i rx
  obtain rfl := rep_i ry
  exact ⟨_, _, rfl, k W _ (.refl W) s rep_iI⟩
def gDivmod (x y : D) (_ : Store) : Option D := match x, y with
  | .int i, .int j => if 0 < j ∧ j.natAbs.log2 < 9000 then some (.tup [.int (i / j), .int (i % j)]) else none
  | _, _ => none
theorem call_divmodF : CallR X (.builtin "divmod") (fun xs H Q => ∃ i j, xs = [.int i, .int j] ∧ CDivP i j ∧ ∀ (p : Addr) (o : Obj), H p = none → o.dict = none → Q (.ref p) (upd H p (.frz o (.tup [.int (i / j), .int (i % j)])))) := by
  intro pins s σ H xs us Q I r ⟨i, j, ex, ⟨h1, h2⟩, q⟩
  subst ex
  obtain ⟨u, w', rfl, ⟨t, rfl⟩, ⟨t', rfl⟩⟩ := vals2 r
  refine divmod_int (by omega) ?_ (.inl h2)
  rw [Int.fdiv_eq_ediv_of_nonneg i (by omega), Int.fmod_eq_emod_of_nonneg i (by omega)]
  refine ⟨.ref s.heap.objs.size, _, ?_, rfl, q _ { cls := .type "tuple", data := .seq #[.int (i / j) s.toks, .int (i % j) (s.toks + 1)] } (I.hok.fresh (Nat.le_refl _)) rfl⟩
  exact I.laid (fun b o e => Heap.get?_push_of_some _ e) (Nat.le_refl _) ⟨Heap.get?_push_size s.heap rfl, by simp only [List.length_cons, List.length_nil]; rw [sizeLine_eq]; decide, [.int (i / j) s.toks, .int (i % j) (s.toks + 1)], .cons ⟨_, rfl⟩ (.cons ⟨_, rfl⟩ .nil), ⟨_, Heap.get?_push_size s.heap rfl, rfl, 0, rfl⟩⟩
theorem call_tupleF : CallR X (.type "tuple") (fun xs H Q => ∃ p ys, xs = [.ref p] ∧ ((SqL X.K H p ys ∧ ∀ (l : Addr) (o : Obj), H l = none → o.dict = none → Q (.ref l) (upd H l (.frz o (.tup ys)))) ∨ (SqT X.K H p ys ∧ Q (.ref p) H))) := by
  intro pins s σ H xs us Q I r ⟨p, ys, ex, h⟩
  subst ex
  rcases h with ⟨hq, q⟩ | ⟨hq, q⟩
  · obtain ⟨u, rfl, rx⟩ := vals1 r
    cases rx
    obtain ⟨its, r', pl, hz⟩ := I.list hq
    have hlen := r'.length
    exact call_tuple_list pl.isList (fun h' kp => ⟨.ref h'.objs.size, _, laidT (I.kept (t' := s.toks) kp) r' hz, rfl, q _ _ ((I.kept (t' := s.toks) kp).hok.fresh (Nat.le_refl _)) rfl⟩) (by simp only [List.size_toArray] <;> omega)
  · exact call_tuple_of pins s σ H _ us Q I r ⟨p, ys, rfl, .inr ⟨hq, q⟩⟩
theorem call_divmodK : CallD X (.builtin "divmod") (g2 gDivmod) := by
  refine call2 call_divmodF fun W S x y d v u Q s rx ry e k => ?_
  unfold gDivmod at e
  cases x <;> cases y <;> simp only at e <;> try cases e
  split at e
  · rename_i hh
    cases e
    obtain rfl := rep_i rx
    obtain rfl := rep_i ry
    exact ⟨_, _, rfl, ⟨hh.1, PyProof.noPylong_of_log2 hh.2⟩, new_tup s (repL_cons rep_iI (repL_cons rep_iI repL_nil)) (kp k)⟩
  · cases e
/-! ### lists of ints, of truths, of texts -/
def intsD : List D → Option (List Int)
  | [] => some []
  | .int i :: ds => (intsD ds).map (i :: ·)
  | _ :: _ => none
def boolsD : List D → Option (List Bool)
  | [] => some []
  | .bl i :: ds => (boolsD ds).map (i :: ·)
  | _ :: _ => none
def strsD : List D → Option (List Str)
  | [] => some []
  | .str i :: ds => (strsD ds).map (i :: ·)
  | _ :: _ => none
theorem ints_rep {K : PySem.W.Frag} {W : Wd} : ∀ {ds : List D} {vs : List V} {ns : List Int}, RepL K W ds vs → intsD ds = some ns → vs = ns.map V.int
  | [], vs, ns, r, h => by
    simp only [intsD] at h
    cases h
    simpa [RepL] using r
  | d :: ds, vs, ns, r, h => by
    simp only [RepL] at r
    obtain ⟨v, u, rfl, r1, r2⟩ := r
    cases d <;> simp only [intsD] at h <;> try cases h
    cases hh : intsD ds with
    | none => rw [hh] at h; cases h
    | some ms =>
      rw [hh] at h
      cases h
      rw [rep_i r1, ints_rep r2 hh]
      rfl
theorem bools_rep {K : PySem.W.Frag} {W : Wd} : ∀ {ds : List D} {vs : List V} {ns : List Bool}, RepL K W ds vs → boolsD ds = some ns → vs = ns.map V.bl
  | [], vs, ns, r, h => by
    simp only [boolsD] at h
    cases h
    simpa [RepL] using r
  | d :: ds, vs, ns, r, h => by
    simp only [RepL] at r
    obtain ⟨v, u, rfl, r1, r2⟩ := r
    cases d <;> simp only [boolsD] at h <;> try cases h
    cases hh : boolsD ds with
    | none => rw [hh] at h; cases h
    | some ms =>
      rw [hh] at h
      cases h
      rw [rep_b r1, bools_rep r2 hh]
      rfl
theorem strs_rep {K : PySem.W.Frag} {W : Wd} : ∀ {ds : List D} {vs : List V} {ns : List Str}, RepL K W ds vs → strsD ds = some ns → vs = ns.map V.str
  | [], vs, ns, r, h => by
    simp only [strsD] at h
    cases h
    simpa [RepL] using r
  | d :: ds, vs, ns, r, h => by
    simp only [RepL] at r
    obtain ⟨v, u, rfl, r1, r2⟩ := r
    cases d <;> simp only [strsD] at h <;> try cases h
    cases hh : strsD ds with
    | none => rw [hh] at h; cases h
    | some ms =>
      rw [hh] at h
      cases h
      rw [rep_s r1, strs_rep r2 hh]
      rfl
theorem strs_repI {K : PySem.W.Frag} {W : Wd} : ∀ ns : List Str, RepL K W (ns.map D.str) (ns.map V.str)
  | [] => repL_nil
  | n :: ns => repL_cons rep_sI (strs_repI ns)
def gSum (x : D) (S : Store) : Option D := ((asL S x).bind intsD).map fun ns => .int ns.sum
def gAll (x : D) (S : Store) : Option D := ((asL S x).bind boolsD).map fun bs => .bl (bs.all id)
def gAny (x : D) (S : Store) : Option D := ((asL S x).bind boolsD).map fun bs => .bl (bs.any id)
theorem bind_map {α β γ : Type} {o : Option α} {f : α → Option β} {g : β → γ} {d : γ} (h : (o.bind f).map g = some d) : ∃ x y, o = some x ∧ f x = some y ∧ g y = d := by
  cases o with
  | none => cases h
  | some x =>
    simp only [Option.bind_some] at h
    cases e : f x with
    | none => rw [e] at h; cases h
    | some y =>
      rw [e] at h
      exact ⟨x, y, rfl, e, Option.some.inj h⟩
theorem call_sumK (hc : X.calm = true) : CallD X (.builtin "sum") (g1 gSum) := by
  refine call1 (cr_sum hc) fun W S x d v Q s rx e k => ?_
  obtain ⟨ds, ns, h1, h2, rfl⟩ := bind_map e
  obtain ⟨p, vs, rfl, q, r⟩ := asL_rep s rx h1
  obtain rfl := ints_rep r h2
  exact ⟨p, ns, rfl, q, k W _ (.refl W) s rep_iI⟩
theorem call_allK (hc : X.calm = true) : CallD X (.builtin "all") (g1 gAll) := by
  refine call1 (cr_all hc) fun W S x d v Q s rx e k => ?_
  obtain ⟨ds, ns, h1, h2, rfl⟩ := bind_map e
  obtain ⟨p, vs, rfl, q, r⟩ := asL_rep s rx h1
  obtain rfl := bools_rep r h2
  exact ⟨p, ns, rfl, q, k W _ (.refl W) s (rep_blI _)⟩
theorem call_anyK (hc : X.calm = true) : CallD X (.builtin "any") (g1 gAny) := by
  refine call1 (cr_any hc) fun W S x d v Q s rx e k => ?_
  obtain ⟨ds, ns, h1, h2, rfl⟩ := bind_map e
  obtain ⟨p, vs, rfl, q, r⟩ := asL_rep s rx h1
  obtain rfl := bools_rep r h2
  exact ⟨p, ns, rfl, q, k W _ (.refl W) s (rep_blI _)⟩
/-- list(x), tuple(x) -/
def gList (x : D) (S : Store) : Option D := (asQ S x).map .lst
def gTuple (x : D) (S : Store) : Option D := (asQ S x).map .tup
def gListC : List D → Store → Option (D × Store) := fun ds S => match ds with
  | [x] => (asQ S x).map fun xs => (.cell S.length, S ++ [.lst xs])
  | _ => none
theorem asQ_cases {K : PySem.W.Frag} {W : Wd} {S : Store} {x : D} {v : V} {xs : List D} (s : SRep K W S) (r : Rep K W x v) (h : asQ S x = some xs) : ∃ p vs, v = .ref p ∧ RepL K W xs vs ∧ ((SqL K W.H p vs) ∨ (SqT K W.H p vs ∧ x = .tup xs)) := by
  cases x <;> simp only [asQ] at h
  case tup zs =>
    cases h
    obtain ⟨p, vs, rfl, q1, r1⟩ := asT_rep (d := .tup xs) r rfl
    exact ⟨p, vs, rfl, r1, .inr ⟨q1, rfl⟩⟩
  all_goals
    obtain ⟨p, vs, rfl, q1, r1⟩ := asL_rep s r h
    exact ⟨p, vs, rfl, r1, .inl q1⟩
theorem call_listK : CallD X (.type "list") (g1 gList) := by
  refine call1 call_list_of fun W S x d v Q s rx e k => ?_
  unfold gList at e
  cases h : asQ S x with
  | none => rw [h] at e; cases e
  | some xs =>
    rw [h] at e
    cases e
    obtain ⟨p, vs, rfl, r1, q⟩ := asQ_cases s rx h
    exact ⟨p, vs, rfl, q.imp id fun z => z.1, new_lst s r1 (kp k)⟩
theorem call_listC : CallD X (.type "list") gListC := by
  refine callD_of call_list_of fun W S ds d S' vs Q s rl e k => ?_
  unfold gListC at e
  match ds, e with
  | [x], e =>
    obtain ⟨v, rfl, rx⟩ := repL_1 rl
    cases h : asQ S x with
    | none => simp [h] at e
    | some xs =>
      simp only [h, Option.map_some, Option.some.injEq, Prod.mk.injEq] at e
      obtain ⟨rfl, rfl⟩ := e
      obtain ⟨p, vs, rfl, r1, q⟩ := asQ_cases s rx h
      exact ⟨p, vs, rfl, q.imp id fun z => z.1, new_cel (Q := Q) (E := fun _ _ _ => False) s r1 k⟩
  | [], e => cases e
  | _ :: _ :: _, e => cases e
theorem call_tupleK : CallD X (.type "tuple") (g1 gTuple) := by
  refine call1 call_tupleF fun W S x d v Q s rx e k => ?_
  unfold gTuple at e
  cases h : asQ S x with
  | none => rw [h] at e; cases e
  | some xs =>
    rw [h] at e
    cases e
    obtain ⟨p, vs, rfl, r1, q⟩ := asQ_cases s rx h
    refine ⟨p, vs, rfl, ?_⟩
    rcases q with q | ⟨q, rfl⟩
    · exact .inl ⟨q, new_tup s r1 (kp k)⟩
    · exact .inr ⟨q, k W _ (.refl W) s rx⟩

/-! ### methods -/
def rDM (K : PySem.W.Frag) (g : D → List D → Store → Option (D × Store)) : V → List V → Hp → VK → Prop := fun x vs H Q => ∃ W S dx ds d S', W.H = H ∧ SRep K W S ∧ Rep K W dx x ∧ RepL K W ds vs ∧ g dx ds S = some (d, S') ∧ ∀ W' v, W.le W' → SRep K W' S' → Rep K W' d v → Q v W'.H
structure MethD (X : Cx) (id : String) (g : D → List D → Store → Option (D × Store)) : Prop where
  p : MtR X id (rDM X.K g)
theorem mtR_imp {id : String} {r r' : V → List V → Hp → VK → Prop} (h : MtR X id r) (i : ∀ x xs H Q, r' x xs H Q → r x xs H Q) : MtR X id r' :=
  fun pins s σ H x xs v us Q I rx r q => h pins s σ H x xs v us Q I rx r (i x xs H Q q)
theorem methD_of {id : String} {r : V → List V → Hp → VK → Prop} {g : D → List D → Store → Option (D × Store)} (h : MtR X id r)
    (i : ∀ W S dx ds d S' x vs Q, SRep X.K W S → Rep X.K W dx x → RepL X.K W ds vs → g dx ds S = some (d, S') → (∀ W' v, W.le W' → SRep X.K W' S' → Rep X.K W' d v → Q v W'.H) → r x vs W.H Q) : MethD X id g :=
  ⟨mtR_imp h fun x vs H Q ⟨W, S, dx, ds, d, S', e, s, rx, r, eg, k⟩ => by subst e; exact i W S dx ds d S' x vs Q s rx r eg k⟩
def methE (ok : Store → D → Bool) (g : D → List D → Store → Option (D × Store)) (o : EM D) (ml : EM (List D)) : EM D := fun st S => (o st S).bind fun x S1 => if ok S1 x then (ml st S1).bind fun ds S2 => .of2 (g x ds S2) else .bad
/-- the receiver is a text, a list -/
def okS : Store → D → Bool
  | _, .str _ => true
  | _, _ => false
def okL (S : Store) (d : D) : Bool := (asL S d).isSome
theorem okS_ty {K : PySem.W.Frag} {W : Wd} {S : Store} {d : D} {v : V} (s : SRep K W S) (r : Rep K W d v) (h : okS S d = true) : L2.tyV K "str" v W.H := by
  cases d <;> simp only [okS] at h <;> try cases h
  obtain rfl := rep_s r
  exact rfl
theorem okL_ty {K : PySem.W.Frag} {W : Wd} {S : Store} {d : D} {v : V} (s : SRep K W S) (r : Rep K W d v) (h : okL S d = true) : L2.tyV K "list" v W.H := by
  unfold okL at h
  obtain ⟨xs, hx⟩ := Option.isSome_iff_exists.mp h
  obtain ⟨p, vs, rfl, q, _⟩ := asL_rep s r hx
  exact .inl ⟨rfl, vs, q⟩
theorem de_m {T id : String} {name : Str} {apos cpos : Pos} {ok : Store → D → Bool} {g : D → List D → Store → Option (D × Store)} (pa : PlainAttrs T) (slot : Slot T name id) (hty : typeOf (.builtin id) = pure (.type "method_descriptor")) (hm : MethD X id g)
    (hok : ∀ {K : PySem.W.Frag} {W : Wd} {S : Store} {d : D} {v : V}, SRep K W S → Rep K W d v → ok S d = true → L2.tyV K T v W.H)
    {t : TE} (ho : DE X Wx o mo) (ha : DA X Wx (e :: es) ml) (hp : PE X (.Call (.Attribute o name apos) (e :: es) [] cpos) (tBM X.K T (rDM X.K g) (tD X.K Wx mo) (tDL X.K Wx ml))) :
    DE X Wx (.Call (.Attribute o name apos) (e :: es) [] cpos) (methE ok g mo ml) := by
  refine de_of hp fun W st S σ Q at_ q => ?_
  refine goE at_ q fun W1 dx S1 x l1 a1 r1 q1 => ?_
  by_cases h : ok S1 dx = true
  · rw [if_pos h] at q1
    refine ⟨hok a1.s r1 h, ?_⟩
    refine goAE a1 q1 fun W2 ds S2 vs l2 a2 r2 q2 => ?_
    obtain ⟨d, S', e, k⟩ := of2_go q2
    exact ⟨W2, S2, dx, ds, d, S', rfl, a2.s, r1.mono l2 _ _, r2, e, k⟩
  · rw [if_neg h] at q1
    exact q1.elim
theorem de_m0 {T id : String} {name : Str} {apos cpos : Pos} {ok : Store → D → Bool} {g : D → List D → Store → Option (D × Store)} (hm : MethD X id g)
    (hok : ∀ {K : PySem.W.Frag} {W : Wd} {S : Store} {d : D} {v : V}, SRep K W S → Rep K W d v → ok S d = true → L2.tyV K T v W.H)
    (ho : DE X Wx o mo) (hp : PE X (.Call (.Attribute o name apos) [] [] cpos) (tBM0 X.K T (rDM X.K g) (tD X.K Wx mo))) :
    DE X Wx (.Call (.Attribute o name apos) [] [] cpos) (methE ok g mo (seqE [])) := by
  refine de_of hp fun W st S σ Q at_ q => ?_
  refine goE at_ q fun W1 dx S1 x l1 a1 r1 q1 => ?_
  by_cases h : ok S1 dx = true
  · rw [if_pos h] at q1
    refine ⟨hok a1.s r1 h, ?_⟩
    obtain ⟨d, S', e, k⟩ := of2_go (o := g dx [] S1) q1
    exact ⟨W1, S1, dx, [], d, S', rfl, a1.s, r1, repL_nil, e, k⟩
  · rw [if_neg h] at q1
    exact q1.elim
/-- the list at a cell that may be changed -/
def mutL (S : Store) : D → Option (Nat × List D)
  | .cell n => match S[n]? with
    | some (.lst xs) => some (n, xs)
    | _ => none
  | _ => none
theorem mutL_rep {K : PySem.W.Frag} {W : Wd} {S : Store} {d : D} {v : V} {n : Nat} {xs : List D} (s : SRep K W S) (r : Rep K W d v) (h : mutL S d = some (n, xs)) : ∃ a vs, v = .ref a ∧ W.N[n]? = some a ∧ W.M a ∧ W.H a = some (.lst vs) ∧ RepL K W xs vs := by
  cases d <;> simp only [mutL] at h <;> try cases h
  simp only [Rep] at r
  obtain ⟨a, rfl, h2⟩ := r
  split at h <;> cases h
  rename_i hs
  obtain ⟨vs, q1, q2, q3⟩ := s.at_ _ _ _ h2 hs
  exact ⟨a, vs, rfl, h2, q2, q1, q3⟩
/-- the cell's list is another one now -/
theorem put_lst {K : PySem.W.Frag} {W : Wd} {S : Store} {n : Nat} {a : Addr} {ds : List D} {vs : List V} {d : D} {v : V} {Q : VK} (s : SRep K W S) (hn : W.N[n]? = some a) (hm : W.M a) (r : RepL K W ds vs) (rd : Rep K W d v)
    (k : ∀ W' v, W.le W' → SRep K W' (S.set n (.lst ds)) → Rep K W' d v → Q v W'.H) : Q v (upd W.H a (.lst vs)) := by
  have l := Wd.wr_le (W := W) (o := .lst vs) (b := True) hm (s.nl hn)
  refine k (W.wr a (.lst vs) True) v l (s.wr hn hm ⟨vs, upd_same, ⟨hm, fun _ => trivial⟩, r.mono l _ _⟩) (rd.mono l _ _)
def mAppend (x : D) (ds : List D) (S : Store) : Option (D × Store) := match mutL S x, ds with
  | some (n, xs), [d] => if xs.length < sizeLine then some (.non, S.set n (.lst (xs ++ [d]))) else none
  | _, _ => none
theorem mt_appendK : MethD X "list.append" mAppend := by
  refine methD_of mt_append fun W S dx ds d S' x vs Q s rx r e k => ?_
  unfold mAppend at e
  split at e
  · rename_i n xs y h1
    split at e
    · rename_i hl
      cases e
      obtain ⟨a, vs', rfl, h2, h3, h4, h5⟩ := mutL_rep s rx h1
      obtain ⟨u, rfl, ru⟩ := repL_1 r
      exact ⟨a, vs', u, rfl, rfl, h4, by rw [← h5.length]; exact hl, put_lst s h2 h3 (repL_append h5 (repL_cons ru repL_nil)) rep_nI k⟩
    · cases e
  · cases e
def mInsert (x : D) (ds : List D) (S : Store) : Option (D × Store) := match mutL S x, ds with
  | some (n, xs), [.int i, d] => if xs.length < sizeLine ∧ 0 ≤ i ∧ i < 2 ^ 63 then some (.non, S.set n (.lst (xs.take i.toNat ++ [d] ++ xs.drop i.toNat))) else none
  | _, _ => none
theorem mt_insertK : MethD X "list.insert" mInsert := by
  refine methD_of mt_insert fun W S dx ds d S' x vs Q s rx r e k => ?_
  unfold mInsert at e
  split at e
  · rename_i n xs i y h1
    split at e
    · rename_i hl
      cases e
      obtain ⟨a, vs', rfl, h2, h3, h4, h5⟩ := mutL_rep s rx h1
      obtain ⟨u, w, rfl, ru, rw'⟩ := repL_2 r
      obtain rfl := rep_i ru
      exact ⟨a, vs', i, w, rfl, rfl, h4, by rw [← h5.length]; exact hl.1, hl.2.1, hl.2.2, put_lst s h2 h3 (repL_append (repL_append (h5.take _) (repL_cons rw' repL_nil)) (h5.drop _)) rep_nI k⟩
    · cases e
  · cases e
def mSplit (x : D) (ds : List D) (S : Store) : Option (D × Store) := match x, ds with
  | .str a, [.str b] => if (b.length == 0) = false ∧ a.length + 2 ≤ sizeLine then some (.lst ((Txt.split a b).map .str), S) else none
  | _, _ => none
theorem mt_splitK : MethD X "str.split" mSplit := by
  refine methD_of mt_split fun W S dx ds d S' x vs Q s rx r e k => ?_
  unfold mSplit at e
  split at e
  · rename_i a b
    split at e
    · rename_i hl
      cases e
      obtain rfl := rep_s rx
      obtain ⟨u, rfl, ru⟩ := repL_1 r
      obtain rfl := rep_s ru
      exact ⟨a, b, rfl, rfl, hl.1, hl.2, new_lst s (strs_repI _) (kp k)⟩
    · cases e
  · cases e
def mJoin (x : D) (ds : List D) (S : Store) : Option (D × Store) := match x, ds with
  | .str a, [y] => ((asQ S y).bind strsD).bind fun ys => if (ys.map (·.length)).sum + ys.length * a.length ≤ 16777216 then some (.str (Txt.join a ys), S) else none
  | _, _ => none
theorem mt_joinK : MethD X "str.join" mJoin := by
  refine methD_of mt_join fun W S dx ds d S' x vs Q s rx r e k => ?_
  unfold mJoin at e
  split at e
  · rename_i a y
    cases h : asQ S y with
    | none => rw [h] at e; cases e
    | some xs =>
      rw [h] at e
      simp only [Option.bind_some] at e
      cases h2 : strsD xs with
      | none => rw [h2] at e; cases e
      | some ys =>
        rw [h2] at e
        simp only [Option.bind_some] at e
        split at e
        · rename_i hl
          cases e
          obtain rfl := rep_s rx
          obtain ⟨u, rfl, ru⟩ := repL_1 r
          obtain ⟨p, vs, rfl, r1, q⟩ := asQ_cases s ru h
          obtain rfl := strs_rep r1 h2
          exact ⟨a, p, ys, rfl, rfl, q.imp id fun z => z.1, hl, k W _ (.refl W) s rep_sI⟩
        · cases e
  · cases e
def mStarts (x : D) (ds : List D) (S : Store) : Option (D × Store) := match x, ds with
  | .str a, [.str b] => some (.bl (Txt.startswith a b), S)
  | _, _ => none
theorem mt_startsK : MethD X "str.startswith" mStarts := by
  refine methD_of mt_startswith fun W S dx ds d S' x vs Q s rx r e k => ?_
  unfold mStarts at e
  split at e
  · cases e
    obtain rfl := rep_s rx
    obtain ⟨u, rfl, ru⟩ := repL_1 r
    obtain rfl := rep_s ru
    exact ⟨_, _, rfl, rfl, k W _ (.refl W) s (rep_blI _)⟩
  · cases e
end
end KF

set_option Elab.async false
set_option linter.all false
set_option maxRecDepth 100000
set_option maxHeartbeats 4000000
/-! KFG: statements, targets, loops, comprehensions. -/
namespace KF
open PySem PySem.Spec PyProof.Rows L2
section
variable {X : Cx} {Wx : WX} {a b c e o : Expr} {ma mb mc me mo : EM D} {pos : Pos} {es : List Expr} {ml : EM (List D)} {s1 : Stmt} {ss : List Stmt} {m1 m2 : SM}
/-! ### statements -/
def nextS : SM := fun st S => .nx st S
def seqS (a b : SM) : SM := fun st S => match a st S with
  | .nx st1 S1 => b st1 S1
  | r => r
theorem dss_nil : DSs X Wx [] nextS := dss_of pss_nil fun W st S σ D at_ q => q W σ (.refl W) at_.s at_.e
theorem dss_cons (h1 : DS X Wx s1 m1) (h2 : DSs X Wx ss m2) : DSs X Wx (s1 :: ss) (seqS m1 m2) := by
  refine dss_of (pss_cons h1.p h2.p) fun W st S σ D at_ q => ?_
  refine ⟨W, st, S, at_, ?_⟩
  unfold seqS at q
  cases h : m1 st S with
  | nx st1 S1 =>
    rw [h] at q
    exact fun W' σ' l s e => ⟨W', st1, S1, ⟨rfl, s, e⟩, SQ.mono l q⟩
  | rt d S1 => rw [h] at q; exact q
  | bk st1 S1 => rw [h] at q; exact q
  | ct st1 S1 => rw [h] at q; exact q
  | err x st1 S1 => rw [h] at q; exact q
  | bad => rw [h] at q; exact q
theorem dss_one (h1 : DS X Wx s1 m1) : DSs X Wx [s1] m1 := ⟨pss_one h1.p⟩
/-- an expression in a statement -/
def exS (m : EM D) (f : D → DSt → Store → SRes) : SM := fun st S => match m st S with
  | .ok d S1 => f d st S1
  | .err e S1 => .err e st S1
  | .bad => .bad
def setS (i : Nat) (m : EM D) : SM := exS m fun d st S => .nx (st.set i (some (.v d))) S
def retS (m : EM D) : SM := exS m fun d _ S => .rt d S
def exprS (m : EM D) : SM := exS m fun _ st S => .nx st S
theorem ds_ret (h : DE X Wx e me) : DS X Wx (.Return (some e) pos) (retS me) := by
  refine ds_of (ps_ret h.p) fun W st S σ D at_ q => ?_
  exact goS at_ q fun W1 d S1 v l a1 r q1 => q1 W1 v (.refl W1) a1.s r
theorem ds_expr (h : DE X Wx e me) (hs : swapsWith e none pos.line X.env = pure false := by rfl) : DS X Wx (.Expr e pos) (exprS me) := by
  refine ds_of (ps_expr h.p hs) fun W st S σ D at_ q => ?_
  exact goS at_ q fun W1 d S1 v l a1 r q1 => q1 W1 σ (.refl W1) a1.s a1.e
theorem ds_set {i : Nat} {x : Str} {pos' : Pos} (hN : X.N.Nodup) (h : DE X Wx e me) (hi : X.N[i]? = some x := by rfl) (hx : Loc X.env.scope x := by first | exact Or.inl rfl | exact Or.inr rfl) (hs : swapsWith e (some (.Name x pos')) pos.line X.env = pure false := by rfl)
    (hf : X.fn x = true ∨ X.env.scope.names.lookup x = some .local := by first | exact .inl rfl | exact .inr rfl | assumption) : DS X Wx (.Assign [.Name x pos'] e pos) (setS i me) := by
  refine ds_of (ps_set hN hi hx h.p hs hf) fun W st S σ D at_ q => ?_
  exact goS at_ q fun W1 d S1 v l a1 r q1 => q1 W1 _ (.refl W1) a1.s (a1.e.set i r)
def ifS (c : EM Bool) (a b : SM) : SM := fun st S => match c st S with
  | .ok k S1 => if k then a st S1 else b st S1
  | .err e S1 => .err e st S1
  | .bad => .bad
theorem ds_if {tc : EM Bool} {aa bb : List Stmt} (hc : DT X Wx c tc) (ha : DSs X Wx aa m1) (hb : DSs X Wx bb m2) : DS X Wx (.If c aa bb pos) (ifS tc m1 m2) := by
  refine ds_of (ps_if hc.p ha.p hb.p) fun W st S σ D at_ q => ?_
  refine goTS at_ q fun W1 k S1 l a1 q1 => ?_
  cases k with
  | true => exact ⟨W1, st, S1, a1, q1⟩
  | false => exact ⟨W1, st, S1, a1, q1⟩
theorem ds_pass : DS X Wx (.Pass pos) nextS := ds_of ps_pass fun W st S σ D at_ q => q W σ (.refl W) at_.s at_.e
def breakS : SM := fun st S => .bk st S
def contS : SM := fun st S => .ct st S
def badS : SM := fun _ _ => .bad
theorem ds_break : DS X Wx (.Break pos) breakS := ds_of ps_break fun W st S σ D at_ q => q W σ (.refl W) at_.s at_.e
theorem ds_cont : DS X Wx (.Continue pos) contS := ds_of ps_continue fun W st S σ D at_ q => q W σ (.refl W) at_.s at_.e
/-- a statement that is never reached -/
theorem ds_never {s : Stmt} : DS X Wx s badS := ds_of ps_never fun W st S σ D at_ q => q
/-! ### targets -/
abbrev GM := D → DSt → Store → SRes
def tDG (K : PySem.W.Frag) (Wx : WX) (g : GM) : TG := fun v σ H Q => ∃ W st S d, At K W st S σ H ∧ Rep K W d v ∧ SQ K W { nx := Q, rt := fun _ _ => False } Wx (g d st S)
structure DG (X : Cx) (Wx : WX) (e : Expr) (g : GM) : Prop where
  p : PG X e (tDG X.K Wx g)
def tDGs (K : PySem.W.Frag) (Wx : WX) (g : List D → DSt → Store → SRes) : TGs := fun vs σ H Q => ∃ W st S ds, At K W st S σ H ∧ RepL K W ds vs ∧ SQ K W { nx := Q, rt := fun _ _ => False } Wx (g ds st S)
structure DGs (X : Cx) (Wx : WX) (es : List Expr) (g : List D → DSt → Store → SRes) : Prop where
  p : PGs X es (tDGs X.K Wx g)
theorem pg_imp {e : Expr} {t t' : TG} (h : PG X e t) (i : ∀ v σ H Q, t' v σ H Q → t v σ H Q) : PG X e t' := ⟨fun pins s σ H v u Q I r q => h.run pins s σ H v u Q I r (i v σ H Q q)⟩
theorem pgs_imp {e : List Expr} {t t' : TGs} (h : PGs X e t) (i : ∀ v σ H Q, t' v σ H Q → t v σ H Q) : PGs X e t' := ⟨fun pins s σ H v u Q I r q => h.run pins s σ H v u Q I r (i v σ H Q q)⟩
def nameG (i : Nat) : GM := fun d st S => .nx (st.set i (some (.v d))) S
theorem dg_name (i : Nat) {x : Str} (hN : X.N.Nodup) (hi : X.N[i]? = some x := by rfl) (hx : Loc X.env.scope x := by first | exact Or.inl rfl | exact Or.inr rfl) (hf : X.fn x = true ∨ X.env.scope.names.lookup x = some .local := by first | exact .inl rfl | exact .inr rfl | assumption) : DG X Wx (.Name x pos) (nameG i) :=
  ⟨pg_imp (pg_name hN hi hx hf) fun v σ H Q ⟨W, st, S, d, at_, r, q⟩ => by
    obtain ⟨rfl, s, e⟩ := at_
    exact q W _ (.refl W) s (e.set i r)⟩
def nilG : List D → DSt → Store → SRes := fun ds st S => match ds with
  | [] => .nx st S
  | _ => .bad
def consG (g : GM) (gs : List D → DSt → Store → SRes) : List D → DSt → Store → SRes := fun ds st S => match ds with
  | [] => .bad
  | d :: ds => match g d st S with
    | .nx st1 S1 => gs ds st1 S1
    | .err e st1 S1 => .err e st1 S1
    | _ => .bad
theorem dgs_nil : DGs X Wx [] nilG :=
  ⟨pgs_imp pgs_nil fun v σ H Q ⟨W, st, S, ds, at_, r, q⟩ => by
    obtain ⟨rfl, s, e⟩ := at_
    match ds, q with
    | [], q =>
      simp only [RepL] at r
      exact ⟨r, q W σ (.refl W) s e⟩
    | _ :: _, q => exact q.elim⟩
theorem dgs_cons {g : GM} {gs : List D → DSt → Store → SRes} (h1 : DG X Wx e g) (h2 : DGs X Wx es gs) (hs : (assignEach (e :: es) X.env).map (·.2) = assign e X.env :: (assignEach es X.env).map (·.2) := by rfl) : DGs X Wx (e :: es) (consG g gs) :=
  ⟨pgs_imp (pgs_cons h1.p h2.p hs) fun v σ H Q ⟨W, st, S, ds, at_, r, q⟩ => by
    obtain ⟨rfl, s, e⟩ := at_
    match ds, q with
    | [], q => exact q.elim
    | d :: ds, q =>
      simp only [RepL] at r
      obtain ⟨u, us, rfl, r1, r2⟩ := r
      refine ⟨u, us, rfl, W, st, S, d, ⟨rfl, s, e⟩, r1, ?_⟩
      unfold consG at q
      simp only at q
      cases h : g d st S with
      | nx st1 S1 =>
        rw [h] at q
        exact fun W' σ' l s' e' => ⟨W', st1, S1, ds, ⟨rfl, s', e'⟩, r2.mono l _ _, SQ.mono l q⟩
      | err x st1 S1 => rw [h] at q; exact q
      | rt _ _ => rw [h] at q; exact q.elim
      | bk _ _ => rw [h] at q; exact q.elim
      | ct _ _ => rw [h] at q; exact q.elim
      | bad => rw [h] at q; exact q.elim⟩
def tupG (n : Nat) (gs : List D → DSt → Store → SRes) : GM := fun d st S => match d with
  | .tup ds => if ds.length = n then gs ds st S else .bad
  | _ => .bad
theorem dg_tup {k : Nat} {gs : List D → DSt → Store → SRes} {n : Nat} (hc : X.calm = true) (h : DGs X Wx es gs) (hn : (assignEach es X.env).length = n := by rfl) (hst : (assignEach es X.env).findIdx? (·.1) = none := by rfl) : DG X Wx (.Tuple es k pos) (tupG n gs) :=
  ⟨pg_imp (pg_tup hc h.p hn hst) fun v σ H Q ⟨W, st, S, d, at_, r, q⟩ => by
    obtain ⟨rfl, s, e⟩ := at_
    cases d <;> try exact q.elim
    rename_i ds
    unfold tupG at q
    simp only at q
    split at q
    · rename_i hl
      obtain ⟨p, vs, rfl, q1, r1⟩ := asT_rep (d := .tup ds) r rfl
      exact ⟨p, vs, rfl, q1, by rw [← r1.length]; exact hl, W, st, S, ds, ⟨rfl, s, e⟩, r1, q⟩
    · exact q.elim⟩
/-- o[i] = v -/
def setIt (o i v : D) (S : Store) : Option Store := match mutL S o, i with
  | some (n, xs), .int k => (ixN xs.length k).map fun j => S.set n (.lst (xs.set j v))
  | _, _ => none
def subG (o i : EM D) : GM := fun v st S => match o st S with
  | .ok x S1 => match i st S1 with
    | .ok y S2 => match setIt x y v S2 with
      | some S3 => .nx st S3
      | none => .bad
    | .err e S2 => .err e st S2
    | .bad => .bad
  | .err e S1 => .err e st S1
  | .bad => .bad
theorem SQ.imp {K : PySem.W.Frag} {W : Wd} {D D' : Ends} {r : SRes} (hn : ∀ σ H, D.nx σ H → D'.nx σ H) (hr : ∀ v H, D.rt v H → D'.rt v H) (hb : ∀ σ H, D.bk σ H → D'.bk σ H) (hc : ∀ σ H, D.ct σ H → D'.ct σ H) (h : SQ K W D Wx r) : SQ K W D' Wx r := by
  cases r with
  | nx st S => exact fun W' σ l s q => hn _ _ (h W' σ l s q)
  | bk st S => exact fun W' σ l s q => hb _ _ (h W' σ l s q)
  | ct st S => exact fun W' σ l s q => hc _ _ (h W' σ l s q)
  | rt d S => exact fun W' v l s q => hr _ _ (h W' v l s q)
  | err e st S => exact h
  | bad => exact h
theorem dg_sub (ho : DE X Wx o mo) (hi : DE X Wx e me) (ha : ∀ v, assign (.Subscript o e pos) X.env v = (do
      let ov ← holding [v] (eval o X.env)
      let iv ← holding [v, ov] (eval e X.env)
      standAt pos
      holding [v, ov, iv] (setItem ov iv v)
      release [v, ov, iv] []) := by intro _; rfl) : DG X Wx (.Subscript o e pos) (subG mo me) :=
  ⟨pg_imp (pg_sub ho.p hi.p set_list ha) fun v σ H Q ⟨W, st, S, d, at_, r, q⟩ => by
    obtain ⟨rfl, s, ee⟩ := at_
    unfold subG at q
    refine goS (f := fun x S1 => match me st S1 with | .ok y S2 => (match setIt x y d S2 with | some S3 => .nx st S3 | none => .bad) | .err e S2 => .err e st S2 | .bad => .bad) ⟨rfl, s, ee⟩ q fun W1 x S1 xv l1 a1 r1 q1 => ?_
    refine goS (f := fun y S2 => match setIt x y d S2 with | some S3 => .nx st S3 | none => .bad) a1 q1 fun W2 y S2 yv l2 a2 r2 q2 => ?_
    cases h : setIt x y d S2 with
    | none => rw [h] at q2; exact q2.elim
    | some S3 =>
      rw [h] at q2
      unfold setIt at h
      split at h
      · rename_i n xs k hm
        cases hx : ixN xs.length k with
        | none => rw [hx] at h; cases h
        | some j =>
          rw [hx] at h
          cases h
          obtain ⟨p, vs, rfl, h2, h3, h4, h5⟩ := mutL_rep a2.s (r1.mono l2 _ _) hm
          obtain rfl := rep_i r2
          have l := Wd.wr_le (W := W2) (o := .lst (vs.set j v)) (b := True) h3 (a2.s.nl h2)
          have rd := (r.mono l1 _ _).mono l2 _ _
          refine ⟨p, vs, k, j, rfl, rfl, h4, by rw [← h5.length]; exact hx, ?_⟩
          exact q2 (W2.wr p (.lst (vs.set j v)) True) σ l (a2.s.wr h2 h3 ⟨_, upd_same, ⟨h3, fun _ => trivial⟩, (RepL.set rd j h5).mono l _ _⟩) (a2.e.mono l)
      · cases h⟩
def onlyNx : SRes → SRes
  | .nx st S => .nx st S
  | .err e st S => .err e st S
  | _ => .bad
def asgS (m : EM D) (g : GM) : SM := exS m fun d st S => onlyNx (g d st S)
theorem ds_asg {tg : Expr} {g : GM} (h : DE X Wx e me) (hg : DG X Wx tg g) (hs : swapsWithSole [tg] e pos.line X.env = pure false := by rfl) (hw : swappedStores [tg] e X.env = pure none := by rfl)
    (h1 : (assignEach [tg] X.env).map (·.2) = [assign tg X.env] := by rfl) : DS X Wx (.Assign [tg] e pos) (asgS me g) := by
  refine ds_of (ps_asg h.p hg.p hs hw h1) fun W st S σ D at_ q => ?_
  refine goS at_ q fun W1 d S1 v l a1 r q1 => ?_
  refine ⟨W1, st, S1, d, a1, r, ?_⟩
  replace q1 : SQ X.K W1 D Wx (onlyNx (g d st S1)) := q1
  generalize g d st S1 = rr at q1 ⊢
  cases rr <;> first | exact q1 | exact q1.elim
/-- a, b = e1, e2; a, b, c = e1, e2, e3: names -/
def exL (m : EM (List D)) (f : List D → DSt → Store → SRes) : SM := fun st S => match m st S with
  | .ok d S1 => f d st S1
  | .err e S1 => .err e st S1
  | .bad => .bad
def setsS (is : List Nat) (m : EM (List D)) : SM := exL m fun ds st S => if ds.length = is.length then .nx ((is.zip ds).foldl (fun st p => st.set p.1 (some (.v p.2))) st) S else .bad
theorem goLS {K : PySem.W.Frag} {σ : St} {W : Wd} {st : DSt} {S : Store} {ml : EM (List KF.D)} {D : Ends} {f : List KF.D → Store → SRes} {R : List V → Hp → Prop} (a : At K W st S σ W.H)
    (q : SQ K W D Wx (match ml st S with | .ok d S1 => f d S1 | .err e S1 => .err e st S1 | .bad => .bad))
    (h : ∀ W1 ds S1 vs, W.le W1 → At K W1 st S1 σ W1.H → RepL K W1 ds vs → SQ K W1 D Wx (f ds S1) → R vs W1.H) : tDL K Wx ml σ W.H R := by
  refine ⟨W, st, S, a, ?_⟩
  cases e : ml st S with
  | ok d S1 =>
    rw [e] at q
    exact fun W1 v l s r => h W1 d S1 v l (a.to l s) r (SQ.mono l q)
  | err x S1 =>
    rw [e] at q
    exact fun W' od l s z => q W' σ od l s (a.e.mono l) z
  | bad =>
    rw [e] at q
    exact q
theorem ds_par {i j : Nat} {x y : Str} {ms : List (EM D)} {px py pt : Pos} {kt k2 pt2} (hc : X.calm = true) (hN : X.N.Nodup) (ha : DA X Wx [a, b] (seqE ms)) (hi : X.N[i]? = some x := by rfl) (hj : X.N[j]? = some y := by rfl) (hij : i ≠ j := by decide)
    (hx : X.env.scope.names.lookup x = some .local := by rfl) (hy : X.env.scope.names.lookup y = some .local := by rfl)
    (hw : swappedStores [.Tuple [.Name x px, .Name y py] kt pt] (.Tuple [a, b] k2 pt2) X.env = pure (some [x, y]) := by rfl)
    (hs : swapsWithSole [.Tuple [.Name x px, .Name y py] kt pt] (.Tuple [a, b] k2 pt2) pos.line X.env = pure false := by rfl) :
    DS X Wx (.Assign [.Tuple [.Name x px, .Name y py] kt pt] (.Tuple [a, b] k2 pt2) pos) (setsS [i, j] (seqE ms)) := by
  refine ds_of (ps_par hc hN hi hj hij hx hy ha.p hw hs) fun W st S σ D at_ q => ?_
  refine goLS at_ q fun W1 ds S1 vs l a1 r q1 => ?_
  match ds, q1 with
  | [d, d'], q1 =>
    obtain ⟨v, u, rfl, r1, r2⟩ := repL_2 r
    exact ⟨v, u, rfl, q1 W1 _ (.refl W1) a1.s ((a1.e.set i r1).set j r2)⟩
  | [], q1 => exact q1.elim
  | [_], q1 => exact q1.elim
  | _ :: _ :: _ :: _, q1 => exact (by simpa using q1 : SQ X.K W1 D Wx .bad).elim
theorem ds_par3 {i j l : Nat} {x y z : Str} {ms : List (EM D)} {px py pz pt : Pos} {kt k2 pt2} (hc : X.calm = true) (hN : X.N.Nodup) (ha : DA X Wx [a, b, c] (seqE ms)) (hi : X.N[i]? = some x := by rfl) (hj : X.N[j]? = some y := by rfl) (hl : X.N[l]? = some z := by rfl)
    (hij : i ≠ j := by decide) (hil : i ≠ l := by decide) (hjl : j ≠ l := by decide)
    (hx : X.env.scope.names.lookup x = some .local := by rfl) (hy : X.env.scope.names.lookup y = some .local := by rfl) (hz : X.env.scope.names.lookup z = some .local := by rfl)
    (hw : swappedStores [.Tuple [.Name x px, .Name y py, .Name z pz] kt pt] (.Tuple [a, b, c] k2 pt2) X.env = pure (some [x, y, z]) := by rfl)
    (hs : swapsWithSole [.Tuple [.Name x px, .Name y py, .Name z pz] kt pt] (.Tuple [a, b, c] k2 pt2) pos.line X.env = pure false := by rfl) :
    DS X Wx (.Assign [.Tuple [.Name x px, .Name y py, .Name z pz] kt pt] (.Tuple [a, b, c] k2 pt2) pos) (setsS [i, j, l] (seqE ms)) := by
  refine ds_of (ps_par3 hc hN hi hj hl hij hil hjl hx hy hz ha.p hw hs) fun W st S σ D at_ q => ?_
  refine goLS at_ q fun W1 ds S1 vs l0 a1 r q1 => ?_
  match ds, q1 with
  | [d, d', d2], q1 =>
    simp only [RepL] at r
    obtain ⟨v, _, rfl, r1, u, _, rfl, r2, t, _, rfl, r3, rfl⟩ := r
    exact ⟨v, u, t, rfl, q1 W1 _ (.refl W1) a1.s (((a1.e.set i r1).set j r2).set l r3)⟩
  | [], q1 => exact q1.elim
  | [_], q1 => exact q1.elim
  | [_, _], q1 => exact q1.elim
  | _ :: _ :: _ :: _ :: _, q1 => exact (by simpa using q1 : SQ X.K W1 D Wx .bad).elim
/-- x op= e, ints -/
def augS (i : Nat) (f : Int → Int → Int) (m : EM D) : SM := fun st S => match st[i]? with
  | some (some (.v (.int x))) => match m st S with
    | .ok (.int y) S1 => .nx (st.set i (some (.v (.int (f x y))))) S1
    | .ok _ _ => .bad
    | .err e S1 => .err e st S1
    | .bad => .bad
  | _ => .bad
theorem ds_aug {i : Nat} {x : Str} {op : Operator} {f : Int → Int → Int} {pos' : Pos} (hN : X.N.Nodup) (h : DE X Wx e me) (ho : PIp X op (ipI f)) (hi : X.N[i]? = some x := by rfl) (hx : Loc X.env.scope x := by first | exact Or.inl rfl | exact Or.inr rfl)
    (hf : X.fn x = true ∨ X.env.scope.names.lookup x = some .local := by first | exact .inl rfl | exact .inr rfl | assumption) : DS X Wx (.AugAssign (.Name x pos') op e pos) (augS i f me) := by
  refine ds_of (ps_aug hN hi hx h.p ho hf) fun W st S σ D at_ q => ?_
  unfold augS at q
  split at q
  · rename_i x hx
    obtain ⟨v, e1, r1⟩ := at_.e.get hx
    obtain rfl := rep_i r1
    refine ⟨_, e1, ?_⟩
    refine goS (D := D) (f := fun d S1 => match d with | .int y => .nx (st.set i (some (.v (.int (f x y))))) S1 | _ => .bad) at_ ?_ fun W1 d S1 v l a1 r q1 => ?_
    · cases hm : me st S with
      | ok d S1 => rw [hm] at q; cases d <;> exact q
      | err _ _ => rw [hm] at q; exact q
      | bad => rw [hm] at q; exact q
    · cases d <;> try exact q1.elim
      obtain rfl := rep_i r
      exact ⟨_, _, rfl, rfl, q1 W1 _ (.refl W1) a1.s (a1.e.set i rep_iI)⟩
  · exact q.elim
/-! ### what is walked -/
/-- the walk gives these data, from the world W1 on -/
structure Wk (K : PySem.W.Frag) (W1 : Wd) (J : It) (ds : List D) : Prop where
  w : ∃ G Y, Walk J ds.length G Y ∧ (∀ W2, W1.ev W2 → G W2.H) ∧
    ∀ W2 S2 (i : Nat) (x : V) (H' : Hp) (d : KF.D), W1.ev W2 → SRep K W2 S2 → ds[i]? = some d → Y i W2.H x H' → ∃ W3, W3.H = H' ∧ W2.le W3 ∧ SRep K W3 S2 ∧ Rep K W3 d x
/-- what is wanted of an iterable's items -/
def IQ (K : PySem.W.Frag) (W : Wd) (σ : St) (st : DSt) (R : It → Hp → Prop) (E : XK) : Res (List D) → Prop
  | .ok ds S' => ∀ W' J, W.le W' → At K W' st S' σ W'.H → Wk K W' J ds → R J W'.H
  | .err e S' => ∀ W' od, W.le W' → SRep K W' S' → ERep K W' e od → E e.c od W'.H
  | .bad => False
def tDI (K : PySem.W.Frag) (Wx : WX) (m : EM (List D)) : TI := fun σ H R => ∃ W st S, At K W st S σ H ∧ IQ K W σ st R (fun c d H' => Wx c d σ H') (m st S)
structure DI (X : Cx) (Wx : WX) (tg iter : Expr) (m : EM (List D)) : Prop where
  p : PI X tg iter (tDI X.K Wx m)
theorem pi_imp {tg iter : Expr} {t t' : TI} (h : PI X tg iter t) (i : ∀ σ H R, t' σ H R → t σ H R) : PI X tg iter t' := ⟨fun pins s σ H R I q => h.run pins s σ H R I (i σ H R q)⟩
theorem di_of {tg iter : Expr} {t : TI} {m : EM (List D)} (h : PI X tg iter t) (i : ∀ W st S σ R, At X.K W st S σ W.H → IQ X.K W σ st R (fun c d H' => Wx c d σ H') (m st S) → t σ W.H R) : DI X Wx tg iter m :=
  ⟨pi_imp h fun σ H R ⟨W, st, S, at_, q⟩ => by
    obtain ⟨rfl, s, e⟩ := at_
    exact i W st S σ R ⟨rfl, s, e⟩ q⟩
/-- the same, where what is locked stays, too (within a comprehension) -/
structure WkL (K : PySem.W.Frag) (W1 : Wd) (J : It) (ds : List D) : Prop where
  w : ∃ G Y, Walk J ds.length G Y ∧ (∀ W2, W1.le W2 → G W2.H) ∧
    ∀ W2 S2 (i : Nat) (x : V) (H' : Hp) (d : KF.D), W1.le W2 → SRep K W2 S2 → ds[i]? = some d → Y i W2.H x H' → ∃ W3, W3.H = H' ∧ W2.le W3 ∧ SRep K W3 S2 ∧ Rep K W3 d x
theorem Wk.toL {K : PySem.W.Frag} {W1 : Wd} {J : It} {ds : List D} (k : Wk K W1 J ds) : WkL K W1 J ds := by
  obtain ⟨G, Y, h1, h2, h3⟩ := k.w
  exact ⟨G, Y, h1, fun W2 l => h2 W2 l.toev, fun W2 S2 i x H' d l => h3 W2 S2 i x H' d l.toev⟩
def IQL (K : PySem.W.Frag) (W : Wd) (σ : St) (st : DSt) (R : It → Hp → Prop) (E : XK) : Res (List D) → Prop
  | .ok ds S' => ∀ W' J, W.le W' → At K W' st S' σ W'.H → WkL K W' J ds → R J W'.H
  | .err e S' => ∀ W' od, W.le W' → SRep K W' S' → ERep K W' e od → E e.c od W'.H
  | .bad => False
def tDIL (K : PySem.W.Frag) (Wx : WX) (m : EM (List D)) : TI := fun σ H R => ∃ W st S, At K W st S σ H ∧ IQL K W σ st R (fun c d H' => Wx c d σ H') (m st S)
structure DIL (X : Cx) (Wx : WX) (tg iter : Expr) (m : EM (List D)) : Prop where
  p : PI X tg iter (tDIL X.K Wx m)
theorem DI.toL {X : Cx} {Wx : WX} {tg iter : Expr} {m : EM (List D)} (h : DI X Wx tg iter m) : DIL X Wx tg iter m :=
  ⟨pi_imp h.p fun σ H R ⟨W, st, S, a, q⟩ => ⟨W, st, S, a, by
    cases e : m st S with
    | ok ds S' => rw [e] at q; exact fun W' J l a k => q W' J l a k.toL
    | err x S' => rw [e] at q; exact q
    | bad => rw [e] at q; exact q⟩⟩
/-- a value, then its items: a cell's list is frozen by it -/
def seqOf (d : D) (S : Store) : Res (List D) := match d with
  | .tup xs => .ok xs S
  | .lst xs => .ok xs S
  | .scr xs => .ok xs S
  | .str z => .ok (z.cps.toList.map fun c => .str ⟨#[c]⟩) S
  | .cell n => match S[n]? with
    | some (.lst xs) => .ok xs (S.set n (.fro xs))
    | some (.fro xs) => .ok xs S
    | _ => .bad
  | _ => .bad
def itE (m : EM D) : EM (List D) := fun st S => (m st S).bind seqOf
theorem goI {K : PySem.W.Frag} {σ : St} {W : Wd} {st : DSt} {S : Store} {m : EM D} {R' : It → Hp → Prop} {f : KF.D → Store → Res (List KF.D)} {R : VK} (a : At K W st S σ W.H) (q : IQ K W σ st R' (fun c d H' => Wx c d σ H') ((m st S).bind f))
    (h : ∀ W1 d S1 v, m st S = .ok d S1 → W.le W1 → At K W1 st S1 σ W1.H → Rep K W1 d v → IQ K W1 σ st R' (fun c d H' => Wx c d σ H') (f d S1) → R v W1.H) : tD K Wx m σ W.H R := by
  refine runE a ?_
  cases e : m st S with
  | ok d S1 =>
    rw [e] at q
    intro W1 v l s r
    refine h W1 d S1 v e l (a.to l s) r ?_
    have q2 : IQ K W σ st R' (fun c d H' => Wx c d σ H') (f d S1) := q
    generalize f d S1 = rr at q2
    cases rr with
    | ok ds S2 => exact fun W' J l' at2 k => q2 W' J (l.trans l') at2 k
    | err x S2 => exact fun W' od l' s' z => q2 W' od (l.trans l') s' z
    | bad => exact q2
  | err x S1 =>
    rw [e] at q
    exact q
  | bad =>
    rw [e] at q
    exact q
theorem wk_list {K : PySem.W.Frag} {W1 : Wd} {a : Addr} {vs : List V} {ds : List D} (hq : ∀ W2, W1.ev W2 → SqL K W2.H a vs) (r : RepL K W1 ds vs) : Wk K W1 (Itl K a) ds := by
  refine ⟨_, _, by rw [r.length]; exact walk_list (K := K) (a := a) (xs := vs), hq, fun W2 S2 i x H' d l s e y => ?_⟩
  obtain ⟨rfl, hx⟩ := y
  obtain ⟨v, h1, h2⟩ := r.get e
  rw [hx] at h1
  cases h1
  exact ⟨W2, rfl, .refl W2, s, h2.monoE l _ _⟩
theorem wk_tup {K : PySem.W.Frag} {W1 : Wd} {a : Addr} {vs : List V} {ds : List D} (hq : ∀ W2, W1.ev W2 → SqT K W2.H a vs) (r : RepL K W1 ds vs) : Wk K W1 (Itt K a) ds := by
  refine ⟨_, _, by rw [r.length]; exact walk_tup (K := K) (a := a) (xs := vs), hq, fun W2 S2 i x H' d l s e y => ?_⟩
  obtain ⟨rfl, hx⟩ := y
  obtain ⟨v, h1, h2⟩ := r.get e
  rw [hx] at h1
  cases h1
  exact ⟨W2, rfl, .refl W2, s, h2.monoE l _ _⟩
theorem upd_id {H : Hp} {a : Addr} {o : HO} (h : H a = some o) : upd H a o = H := by
  funext b
  by_cases e : b = a
  · subst e; rw [upd_same, h]
  · rw [upd_ne e]
/-- a list's items, and that they stay: the cell is frozen -/
theorem fro_at {K : PySem.W.Frag} {σ : St} {W : Wd} {st : DSt} {S S' : Store} {d : D} {v : V} {xs : List D} (a : At K W st S σ W.H) (r : Rep K W d v) (h : seqOf d S = .ok xs S') (hn : ∀ ys, d ≠ .tup ys) (hs : ∀ z, d ≠ .str z) :
    ∃ W' p vs, W.le W' ∧ W'.H = W.H ∧ At K W' st S' σ W'.H ∧ v = .ref p ∧ (∀ W2, W'.ev W2 → SqL K W2.H p vs) ∧ RepL K W' xs vs := by
  cases d <;> simp only [seqOf] at h <;> try cases h
  case tup => exact absurd rfl (hn _)
  case lst =>
    simp only [Rep] at r
    obtain ⟨p, vs, rfl, q, m, rl⟩ := r
    exact ⟨W, p, vs, .refl W, rfl, a, rfl, fun W2 l => .inl (.inl (l.h _ _ q m).1), rl⟩
  case scr =>
    simp only [Rep] at r
    obtain ⟨p, vs, rfl, q, rl⟩ := r
    exact ⟨W, p, vs, .refl W, rfl, a, rfl, fun W2 l => (q.monoE l).sq, rl⟩
  case str => exact absurd rfl (hs _)
  case cell n =>
    simp only [Rep] at r
    obtain ⟨p, rfl, hp⟩ := r
    split at h <;> try cases h
    · rename_i ys hc
      obtain ⟨vs, q1, q2, q3⟩ := a.s.at_ _ _ _ hp hc
      have l := Wd.wr_le (W := W) (o := .lst vs) (b := False) q2 (a.s.nl hp)
      have hH : (W.wr p (.lst vs) False).H = W.H := upd_id q1
      have nm : ¬ (W.wr p (.lst vs) False).M p := fun z => z.2 rfl
      refine ⟨W.wr p (.lst vs) False, p, vs, l, hH, ⟨rfl, a.s.wr hp q2 ⟨vs, by rw [hH]; exact q1, nm, q3.mono l _ _⟩, a.e.mono l⟩, rfl, fun W2 l2 => ?_, q3.mono l _ _⟩
      exact .inl (.inl (l2.h _ _ (by rw [hH]; exact q1) nm).1)
    · rename_i ys hc
      obtain ⟨vs, q1, q2, q3⟩ := a.s.at_ _ _ _ hp hc
      exact ⟨W, p, vs, .refl W, rfl, a, rfl, fun W2 l => .inl (.inl (l.h _ _ q1 q2).1), q3⟩
theorem pi_or {tg iter : Expr} {t t' : TI} (h : PI X tg iter t) (h' : PI X tg iter t') : PI X tg iter (fun σ H R => t σ H R ∨ t' σ H R) :=
  ⟨fun pins s σ H R I q => q.elim (h.run pins s σ H R I) (h'.run pins s σ H R I)⟩
/-- the items of a str, a tuple, a list -/
theorem di_val {tg : Expr} (h : DE X Wx e me) : DI X Wx tg e (itE me) := by
  refine di_of (pi_or (pi_tup h.p) (pi_or (pi_str h.p) (pi_list h.p))) fun W st S σ R at_ q => ?_
  cases hm : me st S with
  | bad =>
    unfold itE at q
    rw [hm] at q
    exact q.elim
  | err x S1 =>
    unfold itE at q
    rw [hm] at q
    exact .inl ⟨W, st, S, at_, by rw [hm]; exact q⟩
  | ok d0 S0 =>
    by_cases ht : ∃ ys, d0 = .tup ys
    · obtain ⟨ys, rfl⟩ := ht
      refine .inl (goI at_ q fun W1 d S1 v e l a1 r q1 => ?_)
      rw [hm] at e
      cases e
      simp only [Rep] at r
      obtain ⟨p, vs, rfl, q2, r2⟩ := r
      exact ⟨p, rfl, ⟨_, q2.sq⟩, q1 W1 _ (.refl W1) a1 (wk_tup (fun W2 l2 => (q2.monoE l2).sq) r2)⟩
    · by_cases hs : ∃ z, d0 = .str z
      · obtain ⟨z, rfl⟩ := hs
        refine .inr (.inl (goI at_ q fun W1 d S1 v e l a1 r q1 => ?_))
        rw [hm] at e
        cases e
        obtain rfl := rep_s r
        refine ⟨z, rfl, q1 W1 _ (.refl W1) a1 ⟨_, _, by rw [List.length_map, Array.length_toList]; exact walk_str (z := z), fun W2 l2 => trivial, fun W2 S2 i x H' d l2 s2 e2 y => ?_⟩⟩
        obtain ⟨rfl, c, hc, rfl⟩ := y
        rw [List.getElem?_map] at e2
        have hc' : z.cps.toList[i]? = some c := by simpa using hc
        rw [hc'] at e2
        cases e2
        exact ⟨W2, rfl, .refl W2, s2, rep_sI⟩
      · refine .inr (.inr (goI at_ q fun W1 d S1 v e l a1 r q1 => ?_))
        rw [hm] at e
        cases e
        cases hq : seqOf d0 S0 with
        | bad => rw [hq] at q1; exact q1.elim
        | err x S2 =>
          exfalso
          cases d0 <;> simp only [seqOf] at hq <;> try cases hq
          split at hq <;> cases hq
        | ok xs S2 =>
          rw [hq] at q1
          obtain ⟨W', p, vs, l', hH, a', rfl, hl, rl⟩ := fro_at a1 r hq (fun ys e => ht ⟨ys, e⟩) (fun z e => hs ⟨z, e⟩)
          refine ⟨p, rfl, ⟨vs, by rw [← hH]; exact hl W' (Wd.le.refl W').toev⟩, ?_⟩
          rw [← hH]
          exact q1 W' _ l' a' (wk_list hl rl)
/-- range -/
def rangeI (lo hi : Int) : List D := (List.range (hi - lo).toNat).map fun (i : Nat) => .int (lo + i)
def rng1E (m : EM D) : EM (List D) := fun st S => (m st S).bind fun d S1 => match d with
  | .int n => if -(2 ^ 62) ≤ n ∧ n < 2 ^ 62 then .ok (rangeI 0 n) S1 else .bad
  | _ => .bad
def rng2E (ml : EM (List D)) : EM (List D) := fun st S => (ml st S).bind fun ds S1 => match ds with
  | [.int a, .int b] => if (-(2 ^ 62) ≤ a ∧ a < 2 ^ 62) ∧ (-(2 ^ 62) ≤ b ∧ b < 2 ^ 62) then .ok (rangeI a b) S1 else .bad
  | _ => .bad
theorem wk_range {K : PySem.W.Frag} {W1 : Wd} {lo hi : Int} : Wk K W1 (Itr lo (hi - lo).toNat) (rangeI lo hi) := by
  refine ⟨_, _, by unfold rangeI; rw [List.length_map, List.length_range]; exact walk_range (lo := lo) (n := (hi - lo).toNat), fun W2 l => trivial, fun W2 S2 i x H' d l s e y => ?_⟩
  obtain ⟨rfl, rfl⟩ := y
  unfold rangeI at e
  rw [List.getElem?_map] at e
  cases hr : (List.range (hi - lo).toNat)[i]? with
  | none => rw [hr] at e; cases e
  | some j =>
    rw [hr] at e
    cases e
    have : j = i := by
      have := List.getElem?_eq_some_iff.mp hr
      obtain ⟨h1, h2⟩ := this
      simpa using h2.symm
    subst this
    exact ⟨W2, rfl, .refl W2, s, rep_iI⟩
theorem goIA {K : PySem.W.Frag} {σ : St} {W : Wd} {st : DSt} {S : Store} {ml : EM (List KF.D)} {R' : It → Hp → Prop} {f : List KF.D → Store → Res (List KF.D)} {R : List V → Hp → Prop} (a : At K W st S σ W.H) (q : IQ K W σ st R' (fun c d H' => Wx c d σ H') ((ml st S).bind f))
    (h : ∀ W1 ds S1 vs, ml st S = .ok ds S1 → W.le W1 → At K W1 st S1 σ W1.H → RepL K W1 ds vs → IQ K W1 σ st R' (fun c d H' => Wx c d σ H') (f ds S1) → R vs W1.H) : tDL K Wx ml σ W.H R := by
  refine ⟨W, st, S, a, ?_⟩
  cases e : ml st S with
  | ok ds S1 =>
    rw [e] at q
    intro W1 vs l s r
    refine h W1 ds S1 vs e l (a.to l s) r ?_
    have q2 : IQ K W σ st R' (fun c d H' => Wx c d σ H') (f ds S1) := q
    generalize f ds S1 = rr at q2
    cases rr with
    | ok ds S2 => exact fun W' J l' at2 k => q2 W' J (l.trans l') at2 k
    | err x S2 => exact fun W' od l' s' z => q2 W' od (l.trans l') s' z
    | bad => exact q2
  | err x S1 =>
    rw [e] at q
    exact q
  | bad =>
    rw [e] at q
    exact q
theorem di_range1 {tg : Expr} {p : Pos} (hg : Gl X "range") (hm : X.mg "range" = none) (ha : DE X Wx a ma) (hs : starEach [a] X.env = [(false, eval a X.env)] := by rfl) (hn : starEach [a] X.env = (false, eval a X.env) :: starEach [] X.env := by rfl) : DI X Wx tg (.Call (.Name "range" p) [a] [] pos) (rng1E ma) := by
  refine di_of (pi_range1 hg hm (pa_cons ha.p pa_nil hn) hs) fun W st S σ R at_ q => ?_
  refine goI at_ q fun W1 d S1 v e l a1 r q1 => ?_
  cases d <;> try exact q1.elim
  rename_i n
  obtain rfl := rep_i r
  simp only at q1
  split at q1
  · rename_i hh
    refine ⟨n, rfl, hh.1, hh.2, q1 W1 _ (.refl W1) a1 ?_⟩
    have := wk_range (K := X.K) (W1 := W1) (lo := 0) (hi := n)
    rw [Int.sub_zero] at this
    exact this
  · exact q1.elim
theorem di_range2 {tg : Expr} {p : Pos} {ms : List (EM D)} (hg : Gl X "range") (hm : X.mg "range" = none) (ha : DA X Wx [a, b] (seqE ms)) (hs : starEach [a, b] X.env = [(false, eval a X.env), (false, eval b X.env)] := by rfl) (hs2 : starEach [b] X.env = [(false, eval b X.env)] := by rfl) :
    DI X Wx tg (.Call (.Name "range" p) [a, b] [] pos) (rng2E (seqE ms)) := by
  refine di_of (pi_range2 hg hm ha.p hs hs2) fun W st S σ R at_ q => ?_
  refine goIA at_ q fun W1 ds S1 vs e l a1 r q1 => ?_
  split at q1
  · split at q1
    · rename_i hh
      obtain ⟨v, u, rfl, r1, r2⟩ := repL_2 r
      obtain rfl := rep_i r1
      obtain rfl := rep_i r2
      exact ⟨_, _, rfl, ⟨hh.1.1, hh.1.2, hh.2.1, hh.2.2⟩, q1 W1 _ (.refl W1) a1 wk_range⟩
    · exact q1.elim
  · exact q1.elim
/-! ### for -/
/-- behind a target; behind a turn -/
def thenG (r : SRes) (f : DSt → Store → SRes) : SRes := match r with
  | .nx st S => f st S
  | .err e st S => .err e st S
  | _ => .bad
def loopK (r : SRes) (f : DSt → Store → SRes) : SRes := match r with
  | .nx st S => f st S
  | .ct st S => f st S
  | .bk st S => .nx st S
  | r => r
/-- turn by turn -/
def forL (g : GM) (b : SM) : List D → SM
  | [] => nextS
  | d :: ds => fun st S => thenG (g d st S) fun st1 S1 => loopK (b st1 S1) (forL g b ds)
def forS (mi : EM (List D)) (g : GM) (b : SM) : SM := exL mi fun ds st S => forL g b ds st S
theorem thenG_go {K : PySem.W.Frag} {W : Wd} {Q : St → Hp → Prop} {D : Ends} {r : SRes} {f : DSt → Store → SRes} (h : SQ K W D Wx (thenG r f))
    (hf : ∀ W' σ st S, W.le W' → SRep K W' S → RepE K W' st σ → SQ K W' D Wx (f st S) → Q σ W'.H) : SQ K W { nx := Q, rt := fun _ _ => False } Wx r := by
  cases r with
  | nx st S => exact fun W' σ l s e => hf W' σ st S l s e (SQ.mono l h)
  | err e st S => exact h
  | bk _ _ => exact h.elim
  | ct _ _ => exact h.elim
  | rt _ _ => exact h.elim
  | bad => exact h.elim
theorem loopK_go {K : PySem.W.Frag} {W : Wd} {N : St → Hp → Prop} {D : Ends} {r : SRes} {f : DSt → Store → SRes} (h : SQ K W D Wx (loopK r f))
    (hf : ∀ W' σ st S, W.le W' → SRep K W' S → RepE K W' st σ → SQ K W' D Wx (f st S) → N σ W'.H) : SQ K W { D with nx := N, ct := N, bk := D.nx } Wx r := by
  cases r with
  | nx st S => exact fun W' σ l s e => hf W' σ st S l s e (SQ.mono l h)
  | ct st S => exact fun W' σ l s e => hf W' σ st S l s e (SQ.mono l h)
  | bk st S => exact h
  | err e st S => exact h
  | rt _ _ => exact h
  | bad => exact h.elim
theorem ds_for {tg iter : Expr} {body : List Stmt} {mi : EM (List D)} {g : GM} {mb : SM} (hp : PassesOwn (model X.prog X.w) X.A X.env X.xe) (hc : X.calm = true) (hi : DI X Wx tg iter mi) (hg : DG X Wx tg g) (hb : DSs X Wx body mb)
    (hs : ∀ x, foldedSetIterable iter X.env x = pure x := by intro _; rfl) : DS X Wx (.For tg iter body [] pos) (forS mi g mb) := by
  refine ds_of (ps_for hp hc hi.p hg.p hb.p hs) fun W st S σ D at_ q => ?_
  refine ⟨W, st, S, at_, ?_⟩
  unfold forS exL at q
  cases e : mi st S with
  | bad => rw [e] at q; exact q.elim
  | err x S1 =>
    rw [e] at q
    exact fun W' od l s z => q W' σ od l s (at_.e.mono l) z
  | ok ds S1 =>
    rw [e] at q
    intro W1 J l a1 k
    obtain ⟨G, Y, w, hG, hY⟩ := k.w
    refine for_it w (fun i σ H => ∃ W2 st2 S2, W1.le W2 ∧ At X.K W2 st2 S2 σ H ∧ SQ X.K W2 D Wx (forL g mb (ds.drop i) st2 S2)) ⟨W1, st, S1, .refl W1, a1, SQ.mono l q⟩ ?_ ?_ ?_
    · rintro i σ H hi ⟨W2, st2, S2, l2, a2, _⟩
      rw [← a2.h]
      exact hG W2 l2.toev
    · rintro i x σ H H' hi ⟨W2, st2, S2, l2, a2, q2⟩ y
      obtain ⟨rfl, s2, e2⟩ := a2
      have hd : ds[i]? = some ds[i] := List.getElem?_eq_getElem hi
      obtain ⟨W3, rfl, l3, s3, r3⟩ := hY W2 S2 i x H' _ l2.toev s2 hd y
      refine ⟨W3, st2, S2, ds[i], ⟨rfl, s3, e2.mono l3⟩, r3, ?_⟩
      rw [List.drop_eq_getElem_cons hi] at q2
      refine thenG_go (SQ.mono l3 q2) fun W4 σ4 st4 S4 l4 s4 e4 q4 => ?_
      refine ⟨W4, st4, S4, ⟨rfl, s4, e4⟩, loopK_go q4 fun W5 σ5 st5 S5 l5 s5 e5 q5 => ⟨W5, st5, S5, ((l2.trans l3).trans l4).trans l5, ⟨rfl, s5, e5⟩, q5⟩⟩
    · rintro σ H ⟨W2, st2, S2, l2, a2, q2⟩
      obtain ⟨rfl, s2, e2⟩ := a2
      rw [List.drop_of_length_le (Nat.le_refl _)] at q2
      exact q2 W2 σ (.refl W2) s2 e2
end
end KF

set_option Elab.async false
set_option linter.all false
set_option maxRecDepth 100000
set_option maxHeartbeats 4000000
/-! KFH: comprehensions. -/
namespace KF
open PySem PySem.Spec PyProof.Rows L2
section
variable {X : Cx} {Wx : WX} {a b c e o : Expr} {ma mb mc me mo : EM D} {pos : Pos} {es : List Expr}
/-! ### targets that are names, or tuples of such -/
abbrev TP := D → DSt → Option DSt
abbrev TPs := List D → DSt → Option DSt
def tDX (K : PySem.W.Frag) (vs : List Nat) (g : TP) : TG := fun v σ H Q => ∃ W st S d st', At K W st S σ H ∧ Rep K W d v ∧ g d st = some st' ∧ ∀ σ', RepE K W st' σ' → σ'.length = σ.length → (∀ j, j ∉ vs → σ'[j]? = σ[j]?) → Q σ' H
structure DX (X : Cx) (vs : List Nat) (e : Expr) (g : TP) : Prop where
  p : PG X e (tDX X.K vs g)
def tDXs (K : PySem.W.Frag) (vs : List Nat) (g : TPs) : TGs := fun us σ H Q => ∃ W st S ds st', At K W st S σ H ∧ RepL K W ds us ∧ g ds st = some st' ∧ ∀ σ', RepE K W st' σ' → σ'.length = σ.length → (∀ j, j ∉ vs → σ'[j]? = σ[j]?) → Q σ' H
structure DXs (X : Cx) (vs : List Nat) (es : List Expr) (g : TPs) : Prop where
  p : PGs X es (tDXs X.K vs g)
def nameP (i : Nat) : TP := fun d st => some (st.set i (some (.v d)))
def nilP : TPs := fun ds st => match ds with
  | [] => some st
  | _ => none
def consP (g : TP) (gs : TPs) : TPs := fun ds st => match ds with
  | [] => none
  | d :: ds => (g d st).bind fun st1 => gs ds st1
def tupP (n : Nat) (gs : TPs) : TP := fun d st => match d with
  | .tup ds => if ds.length = n then gs ds st else none
  | _ => none
theorem dx_name (i : Nat) {vs : List Nat} {x : Str} (hN : X.N.Nodup) (hv : i ∈ vs := by decide) (hi : X.N[i]? = some x := by rfl) (hx : Loc X.env.scope x := by first | exact Or.inl rfl | exact Or.inr rfl) (hf : X.fn x = true ∨ X.env.scope.names.lookup x = some .local := by first | exact .inl rfl | exact .inr rfl | assumption) : DX X vs (.Name x pos) (nameP i) :=
  ⟨pg_imp (pg_name hN hi hx hf) fun v σ H Q ⟨W, st, S, d, st', at_, r, eg, q⟩ => by
    cases eg
    exact q _ (at_.e.set i r) (by simp) fun j hj => List.getElem?_set_ne (fun e : i = j => hj (by rw [← e]; exact hv))⟩
theorem dxs_nil {vs : List Nat} : DXs X vs [] nilP :=
  ⟨pgs_imp pgs_nil fun v σ H Q ⟨W, st, S, ds, st', at_, r, eg, q⟩ => by
    match ds, eg with
    | [], eg =>
      cases eg
      simp only [RepL] at r
      exact ⟨r, q σ at_.e rfl fun _ _ => rfl⟩
    | _ :: _, eg => cases eg⟩
theorem dxs_cons {vs : List Nat} {g : TP} {gs : TPs} (h1 : DX X vs e g) (h2 : DXs X vs es gs) (hs : (assignEach (e :: es) X.env).map (·.2) = assign e X.env :: (assignEach es X.env).map (·.2) := by rfl) : DXs X vs (e :: es) (consP g gs) :=
  ⟨pgs_imp (pgs_cons h1.p h2.p hs) fun v σ H Q ⟨W, st, S, ds, st', at_, r, eg, q⟩ => by
    obtain ⟨rfl, s, e⟩ := at_
    match ds, eg with
    | [], eg => cases eg
    | d :: ds, eg =>
      simp only [RepL] at r
      obtain ⟨u, us, rfl, r1, r2⟩ := r
      unfold consP at eg
      simp only at eg
      cases h : g d st with
      | none => rw [h] at eg; cases eg
      | some st1 =>
        rw [h] at eg
        exact ⟨u, us, rfl, W, st, S, d, st1, ⟨rfl, s, e⟩, r1, h, fun σ1 e1 z1 k1 => ⟨W, st1, S, ds, st', ⟨rfl, s, e1⟩, r2, eg, fun σ2 e2 z2 k2 => q σ2 e2 (z2.trans z1) fun j hj => (k2 j hj).trans (k1 j hj)⟩⟩⟩
theorem dx_tup {vs : List Nat} {k : Nat} {gs : TPs} {n : Nat} (hc : X.calm = true) (h : DXs X vs es gs) (hn : (assignEach es X.env).length = n := by rfl) (hst : (assignEach es X.env).findIdx? (·.1) = none := by rfl) : DX X vs (.Tuple es k pos) (tupP n gs) :=
  ⟨pg_imp (pg_tup hc h.p hn hst) fun v σ H Q ⟨W, st, S, d, st', at_, r, eg, q⟩ => by
    cases d <;> try cases eg
    rename_i ds
    unfold tupP at eg
    simp only at eg
    split at eg
    · rename_i hl
      obtain ⟨p, vs', rfl, q1, r1⟩ := asT_rep (d := .tup ds) r rfl
      rw [at_.h] at q1
      exact ⟨p, vs', rfl, q1, by rw [← r1.length]; exact hl, W, st, S, ds, st', at_, r1, eg, q⟩
    · cases eg⟩
/-! ### the loop -/
def wipeD (st : DSt) : List Nat → DSt
  | [] => st
  | v :: vs => (wipeD st vs).set v none
theorem wipe_rep {K : PySem.W.Frag} {W : Wd} {st : DSt} {σ : St} (h : RepE K W st σ) : ∀ vs : List Nat, RepE K W (wipeD st vs) (wipe σ vs)
  | [] => h
  | v :: vs => (wipe_rep h vs).unset v
theorem wipe_get (σ : St) (j : Nat) : ∀ vs : List Nat, (wipe σ vs)[j]? = if j ∈ vs then (if j < σ.length then some none else none) else σ[j]?
  | [] => by simp [wipe]
  | v :: vs => by
    unfold wipe
    by_cases h : v = j
    · subst h
      rw [if_pos List.mem_cons_self]
      by_cases hl : v < (wipe σ vs).length
      · rw [List.getElem?_set_self hl, if_pos (by rw [wipe_length] at hl; exact hl)]
      · rw [List.getElem?_eq_none (by simpa using hl), if_neg (by rw [wipe_length] at hl; exact hl)]
    · rw [List.getElem?_set_ne h, wipe_get σ j vs]
      by_cases hm : j ∈ vs
      · rw [if_pos hm, if_pos (List.mem_cons_of_mem _ hm)]
      · rw [if_neg hm, if_neg (fun z => (List.mem_cons.mp z).elim (fun e => h e.symm) hm)]
theorem wipe_same {σ σ2 : St} {vs : List Nat} (hl : σ2.length = σ.length) (h : ∀ j, j ∉ vs → σ2[j]? = (wipe σ vs)[j]?) : wipe σ2 vs = wipe σ vs := by
  apply List.ext_getElem?
  intro j
  rw [wipe_get, wipe_get]
  by_cases hj : j ∈ vs
  · rw [if_pos hj, if_pos hj, hl]
  · rw [if_neg hj, if_neg hj, h j hj, wipe_get, if_neg hj]
/-- item by item; st: the slots with the own names wiped -/
def lcL (g : TP) (t : EM Bool) (m : EM D) : List D → DSt → Store → Res (List D)
  | [], _, S => .ok [] S
  | d :: ds, st, S => match g d st with
    | some st1 => match t st1 S with
      | .ok true S2 => (m st1 S2).bind fun y S3 => (lcL g t m ds st S3).bind fun ys S4 => .ok (y :: ys) S4
      | .ok false S2 => lcL g t m ds st S2
      | .err e S2 => .err e S2
      | .bad => .bad
    | none => .bad
def noErr {α : Type} : Res α → Res α
  | .ok a S => .ok a S
  | _ => .bad
def yesT : EM Bool := fun _ S => .ok true S
/-- the new list: nobody changes it | a cell -/
def lcE (mi : EM (List D)) (g : TP) (t : EM Bool) (m : EM D) (vs : List Nat) : EM D := fun st S => (mi st S).bind fun ds S1 => if ds.length ≤ sizeLine then (noErr (lcL g t m ds (wipeD st vs) S1)).bind fun ys S2 => .ok (.lst ys) S2 else .bad
def lcC (mi : EM (List D)) (g : TP) (t : EM Bool) (m : EM D) (vs : List Nat) : EM D := fun st S => (mi st S).bind fun ds S1 => if ds.length ≤ sizeLine then (noErr (lcL g t m ds (wipeD st vs) S1)).bind fun ys S2 => .ok (.cell S2.length) (S2 ++ [.lst ys]) else .bad
/-- nothing is raised within -/
abbrev W0 : WX := fun _ _ _ _ => False
structure DTs (X : Cx) (ifs : List Expr) (m : EM Bool) : Prop where
  p : PTs X ifs (tDB X.K W0 m)
theorem dts_nil : DTs X [] yesT := ⟨⟨fun pins s σ H Q I q => pts_nil.run pins s σ H Q I (by
  obtain ⟨W, st, S, at_, q⟩ := q
  obtain ⟨rfl, s, e⟩ := at_
  exact q W (.refl W) s)⟩⟩
theorem dts_one {m : EM Bool} (h : DT X W0 c m) : DTs X [c] m := ⟨pts_one h.p⟩
/-- the state of the loop: the world ahead of the turn, the list so far -/
structure LcAt (K : PySem.W.Frag) (W1 : Wd) (D : Addr) (W : Wd) (S : Store) (acc : List KF.D) (H : Hp) : Prop where
  le : W1.le W
  h : W.H = H
  s : SRep K W S
  m : W.M D
  l : ¬ W.L D
  n : D ∉ W.N
  at_ : ∃ vs, H D = some (.lst vs) ∧ RepL K W acc vs
theorem le_unlock {W1 W4 : Wd} {D : Addr} (l : W1.le W4) (h : W1.H D = none) : W1.le (W4.unlock D) :=
  ⟨l.toev.trans Wd.unlock_ev, fun b o hl ho => ⟨⟨(l.l b o hl ho).1, ne_of_none ho h⟩, (l.l b o hl ho).2⟩, l.m⟩
theorem le_wrD {W1 W5 : Wd} {D : Addr} {o : HO} {b : Prop} (l : W1.le W5) (h : W1.H D = none) (hm : W5.M D) : W1.le ((W5.unlock D).wr D o b) :=
  ⟨(l.toev.trans Wd.unlock_ev).trans (Wd.wr_ev hm), fun x u hl ho => ⟨⟨(l.l x u hl ho).1, ne_of_none ho h⟩, by
    show upd W5.H D o x = some u
    rw [upd_ne (ne_of_none ho h)]
    exact (l.l x u hl ho).2⟩, fun x u hl ho m => ⟨l.m x u hl ho m, fun e => absurd e (ne_of_none ho h)⟩⟩
/-- the rule's heart: E is what is shown of the list at the end -/
theorem lc_go {tg iter : Expr} {mi : EM (List D)} {g : TP} {t : EM Bool} {m : EM D} {vs : List Nat} {W : Wd} {st : DSt} {S : Store} {σ : St} {R : V → Hp → Prop} (at_ : At X.K W st S σ W.H)
    (hin : match mi st S with
      | .ok ds S1 => ds.length ≤ sizeLine ∧ ∃ out S2, lcL g t m ds (wipeD st vs) S1 = .ok out S2 ∧
          ∀ W2 D us, W.le W2 → SRep X.K W2 S2 → W2.M D → ¬ W2.L D → D ∉ W2.N → W2.H D = some (.lst us) → RepL X.K W2 out us → R (.ref D) W2.H
      | .err e S1 => ∀ W' od, W.le W' → SRep X.K W' S1 → ERep X.K W' e od → Wx e.c od σ W'.H
      | .bad => False) :
    tLc (tDIL X.K Wx mi) (tDX X.K vs g) (tDB X.K W0 t) (tD X.K W0 m) vs σ W.H R := by
  refine ⟨W, st, S, at_, ?_⟩
  cases e : mi st S with
  | bad => rw [e] at hin; exact hin.elim
  | err x S1 => rw [e] at hin; exact hin
  | ok ds S1 =>
    rw [e] at hin
    obtain ⟨hlen, out, S2, hlc, hend⟩ := hin
    intro W1 J l a1 k D hD
    obtain ⟨G, Y, w, hG, hY⟩ := k.w
    have nL : ¬ W1.L D := fun z => (a1.s.lk D z).1 hD
    refine lc_it w (fun i H => ∃ W2 S3 acc ys, LcAt X.K W1 D W2 S3 acc H ∧ lcL g t m (ds.drop i) (wipeD st vs) S3 = .ok ys S2 ∧ acc ++ ys = out ∧ acc.length ≤ i)
      ⟨W1.anon D (.lst []), S1, [], out, ⟨Wd.anon_le hD, rfl, a1.s.anon hD, .inr rfl, nL, a1.s.noN hD, [], upd_same, repL_nil⟩, hlc, rfl, Nat.le_refl _⟩ ?_ ?_ ?_
    · rintro i H hi ⟨W2, S3, acc, ys, A, _⟩
      rw [← A.h]
      exact hG W2 A.le
    · rintro i x H H' hi ⟨W2, S3, acc, ys, A, hlc2, hout, hacc⟩ y
      obtain ⟨le, rfl, s2, m2, l2, n2, us, hus, racc⟩ := A
      have hd : ds[i]? = some ds[i] := List.getElem?_eq_getElem hi
      have leL : W1.le (W2.lock D) := le.trans Wd.lock_le
      obtain ⟨W3, rfl, l3, s3, r3⟩ := hY (W2.lock D) S3 i x H' _ leL (s2.lock n2 m2) hd y
      have D3 := l3.l D _ (.inr rfl) hus
      rw [List.drop_eq_getElem_cons hi] at hlc2
      unfold lcL at hlc2
      cases hg : g ds[i] (wipeD st vs) with
      | none => rw [hg] at hlc2; cases hlc2
      | some st1 =>
        rw [hg] at hlc2
        simp only at hlc2
        have e3 : RepE X.K W3 (wipeD st vs) (wipe σ vs) := (wipe_rep a1.e vs).mono (leL.trans l3)
        refine ⟨W3, wipeD st vs, S3, ds[i], st1, ⟨rfl, s3, e3⟩, r3, hg, fun σ2 e2 z2 k2 => ⟨wipe_same (by rw [z2, wipe_length]) k2, W3, st1, S3, ⟨rfl, s3, e2⟩, ?_⟩⟩
        cases ht : t st1 S3 with
        | bad => rw [ht] at hlc2; cases hlc2
        | err _ _ => rw [ht] at hlc2; cases hlc2
        | ok b S4 =>
          rw [ht] at hlc2
          intro W4 l4 s4
          have D4 := l4.l D _ D3.1 D3.2
          have le4 : W1.le W4 := (leL.trans l3).trans l4
          have lk4 : W4.M D ∧ D ∉ W4.N := ⟨l4.m D _ D3.1 D3.2 (l3.m D _ (.inr rfl) hus m2), (s4.lk D D4.1).2⟩
          have ev24 : W2.ev W4 := ((Wd.lock_le (W := W2) (a := D)).trans (l3.trans l4)).toev
          cases b with
          | false =>
            simp only at hlc2
            rw [if_neg (by decide)]
            exact ⟨W4.unlock D, S4, acc, ys, ⟨le_unlock le4 hD, rfl, s4.unlock, lk4.1, fun z => z.2 rfl, lk4.2, us, D4.2, racc.monoE (ev24.trans Wd.unlock_ev) _ _⟩, hlc2, hout, Nat.le_succ_of_le hacc⟩
          | true =>
            simp only at hlc2
            rw [if_pos rfl]
            refine ⟨W4, st1, S4, ⟨rfl, s4, e2.mono l4⟩, ?_⟩
            cases hm : m st1 S4 with
            | bad => rw [hm] at hlc2; cases hlc2
            | err _ _ => rw [hm] at hlc2; cases hlc2
            | ok yd S5 =>
              rw [hm] at hlc2
              simp only [bind_ok] at hlc2
              intro W5 v l5 s5 r5
              have D5 := l5.l D _ D4.1 D4.2
              have lk5 : W5.M D ∧ D ∉ W5.N := ⟨l5.m D _ D4.1 D4.2 lk4.1, (s5.lk D D5.1).2⟩
              have hacc2 : us.length < sizeLine := by
                rw [← racc.length]
                omega
              refine ⟨us, D5.2, hacc2, ?_⟩
              cases hr : lcL g t m (ds.drop (i + 1)) (wipeD st vs) S5 with
              | bad => rw [hr] at hlc2; cases hlc2
              | err _ _ => rw [hr] at hlc2; cases hlc2
              | ok ys' S6 =>
                rw [hr] at hlc2
                simp only [bind_ok, Res.ok.injEq] at hlc2
                obtain ⟨h1, h2⟩ := hlc2
                subst h1 h2
                have ev5 : W5.ev ((W5.unlock D).wr D (.lst (us ++ [v])) True) := Wd.unlock_ev.trans (Wd.wr_ev lk5.1)
                refine ⟨(W5.unlock D).wr D (.lst (us ++ [v])) True, S5, acc ++ [yd], ys', ⟨le_wrD (le4.trans l5) hD lk5.1, rfl, s5.unlock.wrA lk5.2 lk5.1 (fun z => z.2 rfl), ⟨lk5.1, fun _ => trivial⟩, fun z => z.2 rfl, lk5.2, us ++ [v], upd_same, ?_⟩, hr, by rw [List.append_assoc]; exact hout, by rw [List.length_append, List.length_singleton]; omega⟩
                exact repL_append (racc.monoE ((ev24.trans l5.toev).trans ev5) _ _) (repL_cons (r5.monoE ev5 _ _) repL_nil)
    · rintro H ⟨W2, S3, acc, ys, A, hlc2, hout, hacc⟩
      obtain ⟨le, rfl, s2, m2, l2, n2, us, hus, racc⟩ := A
      rw [List.drop_of_length_le (Nat.le_refl _)] at hlc2
      simp only [lcL, Res.ok.injEq] at hlc2
      obtain ⟨h1, h2⟩ := hlc2
      subst h1 h2
      rw [List.append_nil] at hout
      subst hout
      exact hend W2 D us (l.trans le) s2 m2 l2 n2 hus racc
theorem lc_frz {mi : EM (List D)} {g : TP} {t : EM Bool} {m : EM D} {vs : List Nat} {W : Wd} {st : DSt} {S : Store} {σ : St} {R : VK} (q : VQ X.K W R (fun c d H' => Wx c d σ H') (lcE mi g t m vs st S)) :
    match mi st S with
      | .ok ds S1 => ds.length ≤ sizeLine ∧ ∃ out S2, lcL g t m ds (wipeD st vs) S1 = .ok out S2 ∧
          ∀ W2 D us, W.le W2 → SRep X.K W2 S2 → W2.M D → ¬ W2.L D → D ∉ W2.N → W2.H D = some (.lst us) → RepL X.K W2 out us → R (.ref D) W2.H
      | .err e S1 => ∀ W' od, W.le W' → SRep X.K W' S1 → ERep X.K W' e od → Wx e.c od σ W'.H
      | .bad => False := by
  unfold lcE at q
  cases e : mi st S with
  | bad => rw [e] at q; exact q
  | err x S1 => rw [e] at q; exact q
  | ok ds S1 =>
    rw [e] at q
    simp only [bind_ok] at q
    obtain ⟨hl, q⟩ := size_if q
    refine ⟨hl, ?_⟩
    cases h : lcL g t m ds (wipeD st vs) S1 with
    | bad => rw [h] at q; exact q.elim
    | err _ _ => rw [h] at q; exact q.elim
    | ok out S2 =>
      rw [h] at q
      refine ⟨out, S2, rfl, fun W2 D us l s hm hl hn hD r => ?_⟩
      have l2 := Wd.wr_le (W := W2) (a := D) (o := .lst us) (b := False) hm hl
      have hH : (W2.wr D (.lst us) False).H = W2.H := upd_id hD
      have := q (W2.wr D (.lst us) False) (.ref D) (l.trans l2) (s.wrA hn hm hl) (by
        simp only [Rep]
        exact ⟨D, us, rfl, by rw [hH]; exact hD, fun z => z.2 rfl, r.mono l2 _ _⟩)
      rw [hH] at this
      exact this
theorem lc_cel {mi : EM (List D)} {g : TP} {t : EM Bool} {m : EM D} {vs : List Nat} {W : Wd} {st : DSt} {S : Store} {σ : St} {R : VK} (q : VQ X.K W R (fun c d H' => Wx c d σ H') (lcC mi g t m vs st S)) :
    match mi st S with
      | .ok ds S1 => ds.length ≤ sizeLine ∧ ∃ out S2, lcL g t m ds (wipeD st vs) S1 = .ok out S2 ∧
          ∀ W2 D us, W.le W2 → SRep X.K W2 S2 → W2.M D → ¬ W2.L D → D ∉ W2.N → W2.H D = some (.lst us) → RepL X.K W2 out us → R (.ref D) W2.H
      | .err e S1 => ∀ W' od, W.le W' → SRep X.K W' S1 → ERep X.K W' e od → Wx e.c od σ W'.H
      | .bad => False := by
  unfold lcC at q
  cases e : mi st S with
  | bad => rw [e] at q; exact q
  | err x S1 => rw [e] at q; exact q
  | ok ds S1 =>
    rw [e] at q
    simp only [bind_ok] at q
    obtain ⟨hl, q⟩ := size_if q
    refine ⟨hl, ?_⟩
    cases h : lcL g t m ds (wipeD st vs) S1 with
    | bad => rw [h] at q; exact q.elim
    | err _ _ => rw [h] at q; exact q.elim
    | ok out S2 =>
      rw [h] at q
      refine ⟨out, S2, rfl, fun W2 D us l s hm hl hn hD r => ?_⟩
      refine q (W2.name D) (.ref D) (l.trans Wd.name_le) (s.name hn hm hl ⟨us, hD, hm, r.mono Wd.name_le _ _⟩) ?_
      simp only [Rep]
      refine ⟨D, rfl, ?_⟩
      show (W2.N ++ [D])[S2.length]? = some D
      rw [← s.len]
      simp
variable {elt tg iter : Expr} {ifs : List Expr} {scope : Scope} {own : List (Str × Nat)} {mi : EM (List D)} {g : TP} {t : EM Bool} {m : EM D}
/-- [e for x in xs if t] -/
theorem de_lc (hc : X.calm = true) (hN : X.N.Nodup) (hi : DIL X Wx tg iter mi) (ok : BlkOk X.N X.env.scope scope own)
    (hg : ∀ (s : Shared) (H : Hp) (C : Addr) (cl : List (Str × Addr)) (fp : List Addr), DX (X.blk s H scope (compEnvC scope cl C X.env) fp) (own.map (·.2)) tg g)
    (ht : ∀ (s : Shared) (H : Hp) (C : Addr) (cl : List (Str × Addr)) (fp : List Addr), DTs (X.blk s H scope (compEnvC scope cl C X.env) fp) ifs t)
    (he : ∀ (s : Shared) (H : Hp) (C : Addr) (cl : List (Str × Addr)) (fp : List Addr), DE (X.blk s H scope (compEnvC scope cl C X.env) fp) W0 elt m) (hs : ∀ x, foldedSetIterable iter X.env x = pure x := by intro _; rfl) :
    DE X Wx (.ListComp elt [⟨tg, iter, ifs, 0⟩] scope pos) (lcE mi g t m (own.map (·.2))) :=
  de_of (pe_lc hc hN hi.p ok (fun s H C cl fp => (hg s H C cl fp).p) (fun s H C cl fp => (ht s H C cl fp).p) (fun s H C cl fp => (he s H C cl fp).p) hs) fun W st S σ Q at_ q => lc_go (tg := tg) (iter := iter) at_ (lc_frz q)
theorem de_lcC (hc : X.calm = true) (hN : X.N.Nodup) (hi : DIL X Wx tg iter mi) (ok : BlkOk X.N X.env.scope scope own)
    (hg : ∀ (s : Shared) (H : Hp) (C : Addr) (cl : List (Str × Addr)) (fp : List Addr), DX (X.blk s H scope (compEnvC scope cl C X.env) fp) (own.map (·.2)) tg g)
    (ht : ∀ (s : Shared) (H : Hp) (C : Addr) (cl : List (Str × Addr)) (fp : List Addr), DTs (X.blk s H scope (compEnvC scope cl C X.env) fp) ifs t)
    (he : ∀ (s : Shared) (H : Hp) (C : Addr) (cl : List (Str × Addr)) (fp : List Addr), DE (X.blk s H scope (compEnvC scope cl C X.env) fp) W0 elt m) (hs : ∀ x, foldedSetIterable iter X.env x = pure x := by intro _; rfl) :
    DE X Wx (.ListComp elt [⟨tg, iter, ifs, 0⟩] scope pos) (lcC mi g t m (own.map (·.2))) :=
  de_of (pe_lc hc hN hi.p ok (fun s H C cl fp => (hg s H C cl fp).p) (fun s H C cl fp => (ht s H C cl fp).p) (fun s H C cl fp => (he s H C cl fp).p) hs) fun W st S σ Q at_ q => lc_go (tg := tg) (iter := iter) at_ (lc_cel q)
theorem set_vq {i : Nat} {K : PySem.W.Frag} {W : Wd} {st : DSt} {σ : St} {S : Store} {r : Res KF.D} {D : Ends} (a : At K W st S σ W.H) (q : SQ K W D Wx (match r with | .ok d S1 => .nx (st.set i (some (.v d))) S1 | .err e S1 => .err e st S1 | .bad => .bad)) :
    VQ K W (fun x H1 => gName i x σ H1 D.nx) (fun c d H' => Wx c d σ H') r := by
  cases r with
  | ok d S1 => exact fun W' v l s r => q W' _ l s ((a.e.mono l).set i r)
  | err e S1 => exact fun W' od l s z => q W' σ od l s (a.e.mono l) z
  | bad => exact q
/-- y = [..] on one line -/
theorem ds_setLc {i : Nat} {y : Str} {py spos : Pos} (hc : X.calm = true) (hN : X.N.Nodup) (hi : DIL X Wx tg iter mi) (ok : BlkOk X.N X.env.scope scope own)
    (hg : ∀ (s : Shared) (H : Hp) (C : Addr) (cl : List (Str × Addr)) (fp : List Addr), DX (X.blk s H scope (compEnvC scope cl C X.env) fp) (own.map (·.2)) tg g)
    (ht : ∀ (s : Shared) (H : Hp) (C : Addr) (cl : List (Str × Addr)) (fp : List Addr), DTs (X.blk s H scope (compEnvC scope cl C X.env) fp) ifs t)
    (he : ∀ (s : Shared) (H : Hp) (C : Addr) (cl : List (Str × Addr)) (fp : List Addr), DE (X.blk s H scope (compEnvC scope cl C X.env) fp) W0 elt m)
    (hsw : swapsWith (.ListComp elt [⟨tg, iter, ifs, 0⟩] scope pos) (some (.Name y py)) spos.line X.env = pure true)
    (hy : X.N[i]? = some y := by rfl) (hyl : X.env.scope.names.lookup y = some .local := by rfl) (hs : ∀ x, foldedSetIterable iter X.env x = pure x := by intro _; rfl) :
    DS X Wx (.Assign [.Name y py] (.ListComp elt [⟨tg, iter, ifs, 0⟩] scope pos) spos) (setS i (lcE mi g t m (own.map (·.2)))) :=
  ds_of (ps_setLc hc hN hy hyl hsw hi.p ok (fun s H C cl fp => (hg s H C cl fp).p) (fun s H C cl fp => (ht s H C cl fp).p) (fun s H C cl fp => (he s H C cl fp).p) hs) fun W st S σ D at_ q => lc_go (tg := tg) (iter := iter) at_ (lc_frz (set_vq at_ q))
theorem ds_setLcC {i : Nat} {y : Str} {py spos : Pos} (hc : X.calm = true) (hN : X.N.Nodup) (hi : DIL X Wx tg iter mi) (ok : BlkOk X.N X.env.scope scope own)
    (hg : ∀ (s : Shared) (H : Hp) (C : Addr) (cl : List (Str × Addr)) (fp : List Addr), DX (X.blk s H scope (compEnvC scope cl C X.env) fp) (own.map (·.2)) tg g)
    (ht : ∀ (s : Shared) (H : Hp) (C : Addr) (cl : List (Str × Addr)) (fp : List Addr), DTs (X.blk s H scope (compEnvC scope cl C X.env) fp) ifs t)
    (he : ∀ (s : Shared) (H : Hp) (C : Addr) (cl : List (Str × Addr)) (fp : List Addr), DE (X.blk s H scope (compEnvC scope cl C X.env) fp) W0 elt m)
    (hsw : swapsWith (.ListComp elt [⟨tg, iter, ifs, 0⟩] scope pos) (some (.Name y py)) spos.line X.env = pure true)
    (hy : X.N[i]? = some y := by rfl) (hyl : X.env.scope.names.lookup y = some .local := by rfl) (hs : ∀ x, foldedSetIterable iter X.env x = pure x := by intro _; rfl) :
    DS X Wx (.Assign [.Name y py] (.ListComp elt [⟨tg, iter, ifs, 0⟩] scope pos) spos) (setS i (lcC mi g t m (own.map (·.2)))) :=
  ds_of (ps_setLc hc hN hy hyl hsw hi.p ok (fun s H C cl fp => (hg s H C cl fp).p) (fun s H C cl fp => (ht s H C cl fp).p) (fun s H C cl fp => (he s H C cl fp).p) hs) fun W st S σ D at_ q => lc_go (tg := tg) (iter := iter) at_ (lc_cel (set_vq at_ q))
end
end KF

set_option Elab.async false
set_option linter.all false
set_option maxRecDepth 100000
set_option maxHeartbeats 4000000
/-! KFI: defs, their promises, their calls. -/
namespace KF
open PySem PySem.Spec PyProof.Rows L2
/-- as FnOk, where no repr is being made around -/
structure FnG (P : Program) (w : World) (K : PySem.W.Frag) (mg : Str → Option Value) (base : Heap) (k : Nat) (f : Addr) (fd : FuncData) (ps : List Str) (sp : Sp) : Prop where
  len : ∀ vs H Q E, sp vs H Q E → vs.length = ps.length
  run : ∀ (A : Around) (outer : List Env) (s : Shared) (H : Hp) (args : Args) (us : List Value) (vs : List V) (Q : VK) (E : XK), A.guards = some [] → Room k A → Env0 P w K mg base A outer s H →
    BindsTo s fd args (ps.zip us) → Vals vs us → sp vs H Q E → codeAny (model P w) A (.call (.ref f) args) (CR (L2.CX P w) outer P w H s Q E) s
theorem FnG.mono {P : Program} {w : World} {K : PySem.W.Frag} {mg : Str → Option Value} {base : Heap} {j k : Nat} {f : Addr} {fd : FuncData} {ps : List Str} {sp : Sp} (F : FnG P w K mg base j f fd ps sp) (h : j ≤ k) : FnG P w K mg base k f fd ps sp :=
  ⟨F.len, fun A outer s H args us vs Q E g r => F.run A outer s H args us vs Q E g (r.mono h)⟩
/-- the promise of a def by its denotation -/
def spD (K : PySem.W.Frag) (m : List D → Store → Res D) (n : Nat) : Sp := fun vs H Q E => ∃ W ds S, W.H = H ∧ SRep K W S ∧ RepL K W ds vs ∧ ds.length = n ∧ VQ K W Q E (m ds S)
abbrev sv : D → Option Sl := fun d => some (.v d)
def runF (n : Nat) (m : SM) : List D → Store → Res D := fun ds S => match m (ds.map sv ++ List.replicate (n - ds.length) none) S with
  | .nx _ S1 => .ok .non S1
  | .rt d S1 => .ok d S1
  | .err e _ S1 => .err e S1
  | _ => .bad
theorem startE {K : PySem.W.Frag} {W : Wd} {ds : List D} {vs : List V} {N : List Str} (r : RepL K W ds vs) : RepE K W (ds.map sv ++ List.replicate (N.length - ds.length) none) (L2.start N vs) := by
  have hl := r.length
  unfold L2.start
  have key : ∀ (i : Nat) (d : Sl), (ds.map sv ++ List.replicate (N.length - ds.length) none)[i]? = some (some d) → ∃ v, (vs.map some ++ List.replicate (N.length - vs.length) none)[i]? = some (some v) ∧ isOwn d = false ∧ RepS K W d v := by
    intro i d e
    by_cases hi : i < ds.length
    · rw [List.getElem?_append_left (by simpa using hi), List.getElem?_map] at e
      cases h : ds[i]? with
      | none => rw [h] at e; cases e
      | some x =>
        rw [h] at e
        cases e
        obtain ⟨v, h1, h2⟩ := r.get h
        exact ⟨v, by rw [List.getElem?_append_left (by rw [List.length_map, ← hl]; exact hi), List.getElem?_map, h1]; rfl, rfl, h2⟩
    · rw [List.getElem?_append_right (by simpa using hi), List.getElem?_replicate] at e
      split at e <;> cases e
  refine ⟨by simp [hl], fun i d e => let ⟨v, h1, _, h2⟩ := key i d e; ⟨v, h1, h2⟩, fun i j d e a _ e1 o1 _ _ _ => ?_⟩
  obtain ⟨v, _, h2, _⟩ := key i d e1
  rw [h2] at o1
  cases o1
/-- THE RULE of a def -/
theorem fnD {P : Program} {w : World} {K : PySem.W.Frag} {mg : Str → Option Value} {base : Heap} {k : Nat} {f : Addr} {x qual : Str} {st : Stmt} {fd : FuncData} {N ps : List Str} {m : SM} (F : Fun K x qual st f fd) (S : FnScope N ps (defScope st))
    (hB : ∀ (cdv : Value) (A : Around) (outer : List Env) (s : Shared) (H : Hp) (E : XK), (A.deeper (envOfC qual (defScope st) s.heap.objs.size f cdv)).guards = some [] → Room k (A.deeper (envOfC qual (defScope st) s.heap.objs.size f cdv)) →
      DSs (cxOf (L2.CX P w) P w K mg base N qual (defScope st) f cdv A outer s H E) (fun c d _ H' => E c d H') (defBody st) m) :
    FnG P w K mg base (k + 1) f fd ps (spD K (runF N.length m) ps.length) := by
  obtain ⟨oc, od, kV, doc, pm, an, cdv, ct, osl, rfl, lk, hcd⟩ := F.ex
  refine ⟨fun vs H Q E ⟨W, ds, S0, _, _, r, hl, _⟩ => by rw [← r.length]; exact hl, ?_⟩
  intro A outer s H args us vs Q E hg hroom env0 hbind rv hsp
  obtain ⟨W, ds, S0, rfl, sr, rds, hlen, hq⟩ := hsp
  have hl : vs.length = ps.length := by rw [← rds.length]; exact hlen
  have kin : K.In s.heap := env0.mod.kin.keeps fun b o e => (env0.bs b o e).1
  have nol : s.heap.NoLimit := env0.mod.nolimit.keeps fun b o e => (env0.bs b o e).1
  have kinds : ∀ y ∈ ps.zip us, (defScope st).names.lookup y.1 = some .local ∨ ((defScope st).names.lookup y.1 = some .cell ∧ ((cellsFrom (s.heap.objs.size + 1) (defScope st).names []).lookup y.1).isSome = true) := by
    rintro ⟨n, v⟩ hy
    exact (S.par n (List.of_mem_zip hy).1).imp id fun q => ⟨q, PySem.W.cellsFrom_some _ _ _ (.inl q)⟩
  refine codeAny_call_function hroom.depth (kin _ _ lk) rfl S.co S.gen rfl (PySem.W.codeRec_of kin hcd) (hbind _ _ _ _ (wpAny_newFunctionEnv_cells S.kind kinds fun env he s1 x => ?_))
  subst he
  refine ⟨nol.keeps x.toInCall.keep, codeAny_func ?_⟩
  have body := hB cdv A outer s W.H E hg (hroom.deeper _)
  have I : Inv (cxOf (L2.CX P w) P w K mg base N qual (defScope st) f cdv A outer s W.H E) [] (L2.start N vs) W.H s1 := inv_start S hroom.hd env0 hl rv x
  have go : tDS K (fun c d _ H' => E c d H') m { nx := fun _ H' => Q .non H', rt := Q } (L2.start N vs) W.H := by
    refine ⟨W, _, S0, ⟨rfl, sr, startE rds⟩, ?_⟩
    unfold runF at hq
    generalize m (ds.map sv ++ List.replicate (N.length - ds.length) none) S0 = rr at hq
    cases rr with
    | nx st1 S1 => exact fun W' σ l s e => hq W' .non l s rep_nI
    | rt d S1 => exact hq
    | err e st1 S1 => exact fun W' σ od l s e z => hq W' od l s z
    | bk _ _ => exact hq.elim
    | ct _ _ => exact hq.elim
    | bad => exact hq.elim
  refine wpAny_mono (body.p.run [] s1 (L2.start N vs) W.H _ I go) (fun fl s' hs => ?_) fun e s' hs => hs
  cases fl with
  | ret u =>
    obtain ⟨v, σ', H', J, r, q⟩ := hs
    exact ⟨v, H', J.os, J.bare, J.base, J.hok, r, q⟩
  | next =>
    obtain ⟨σ', H', J, q⟩ := hs
    exact ⟨.non, H', J.os, J.bare, J.base, J.hok, rfl, q⟩
  | brk => obtain ⟨σ', H', J, q⟩ := hs; exact q.elim
  | cont => obtain ⟨σ', H', J, q⟩ := hs; exact q.elim
section
variable {X : Cx} {Wx : WX} {k : Nat} {f : Addr} {fd : FuncData} {ps : List Str} {m : List D → Store → Res D} {x : Str} {p pos : Pos} {e : Expr} {es : List Expr} {ml : EM (List D)}
/-- the callee runs -/
theorem run_fnG {sp : Sp} {pins : List (Addr × Obj)} {σ : St} {H : Hp} {s : Shared} {Q : VK} {args : Args} {us : List Value} {vs : List V} (F : FnG X.prog X.w X.K X.mg X.base k f fd ps sp) (hr : Room k X.A) (gd : X.A.guards = some []) (tk : Takes X Wx)
    (I : Inv X pins σ H s) (hb : BindsTo s fd args (ps.zip us)) (r : Vals vs us) (h : sp vs H Q (fun c d H' => Wx c d σ H')) : codeAny (model X.prog X.w) X.A (.call (.ref f) args) (fun r s' => match r with
      | .ok (.ret u) => EP X pins σ Q u s'
      | .ok _ => False
      | .error e => X.xe e s') s := by
  refine codeAny_mono (F.run X.A X.stack s H args us vs Q _ gd hr I.env0 hb r h) fun r s' hq => ?_
  match r, hq with
  | .error e, hq => exact passAt tk σ pins H s e s' I hq
  | .ok (.ret u), hq => exact I.after hq
  | .ok .next, hq => exact False.elim hq
  | .ok .brk, hq => exact False.elim hq
  | .ok .cont, hq => exact False.elim hq
end
end KF
#check @PySem.wpAny_call

set_option Elab.async false
set_option linter.all false
set_option maxRecDepth 100000
set_option maxHeartbeats 4000000
/-! KFJ: calls of defs, classes, methods; fields, properties. -/
namespace KF
open PySem PySem.Spec PyProof.Rows L2
/-! ### what a callee value does -/
structure CalD (X : Cx) (Wx : WX) (fv : Value) (ks : List Str) (g : List D → List D → Store → Res D) : Prop where
  run : ∀ (pins : List (Addr × Obj)) (σ : St) (s : Shared) (W : Wd) (S : Store) (ds es : List D) (vs zs : List V) (us ws : List Value) (Q : VK), Inv X pins σ W.H s → SRep X.K W S → RepL X.K W ds vs → RepL X.K W es zs → Vals vs us → Vals zs ws →
    VQ X.K W Q (fun c d H' => Wx c d σ H') (g ds es S) → wpAny (model X.prog X.w) X.A (call fv us (ks.zip ws)) (EP X pins σ Q) X.xe s
/-- how a def's parameters are bound: nP values by place, the names ks; gD puts all in the parameters' order -/
structure BD (K : PySem.W.Frag) (fd : FuncData) (ps ks : List Str) (nP : Nat) (gD : List D → List D → List D) : Prop where
  len : ∀ ds es : List D, ds.length = nP → es.length = ks.length → (gD ds es).length = ps.length
  to : ∀ (s : Shared) (W : Wd) (ds es : List D) (vs zs : List V) (us ws : List Value), K.In s.heap → RepL K W ds vs → RepL K W es zs → Vals vs us → Vals zs ws → ds.length = nP → es.length = ks.length →
    ∃ us' vs', BindsTo s fd ⟨us, ks.zip ws⟩ (ps.zip us') ∧ Vals vs' us' ∧ RepL K W (gD ds es) vs'
def bnd (nP nk : Nat) (gD : List D → List D → List D) (m : List D → Store → Res D) : List D → List D → Store → Res D := fun ds es S => if ds.length = nP ∧ es.length = nk then m (gD ds es) S else .bad
theorem bd_all {K : PySem.W.Frag} {fd : FuncData} {ps : List Str} {n : Nat} (hn : ps.length = n) (b : Binds K fd ps []) : BD K fd ps [] n (fun ds _ => ds) :=
  ⟨fun ds es h _ => h.trans hn.symm, fun s W ds es vs zs us ws kin r _ rv _ h h0 => by
    have hl : us.length = ps.length := by rw [← rv.length, ← r.length, h, hn]
    have q := b s us kin (by rw [List.append_nil]; exact hl)
    rw [List.append_nil] at q
    exact ⟨us, vs, by simpa using q, rv, r⟩⟩
/-- with defaults dd that fill up -/
theorem bd_dfl {K : PySem.W.Frag} {fd : FuncData} {ps : List Str} {n : Nat} {dvs : List V} {dus : List Value} {dd : List D} (hn : ps.length = n + dd.length) (b : Binds K fd ps dus) (hv : Vals dvs dus) (hd : ∀ W, RepL K W dd dvs) : BD K fd ps [] n (fun ds _ => ds ++ dd) :=
  ⟨fun ds es h _ => by rw [List.length_append, h, hn], fun s W ds es vs zs us ws kin r _ rv _ h h0 => by
    have e1 : dus.length = dd.length := by rw [← hv.length, ← (hd W).length]
    have q := b s us kin (by rw [List.length_append, e1, ← rv.length, ← r.length, h, hn])
    exact ⟨us ++ dus, vs ++ dvs, by simpa using q, rv.append hv, repL_append r (hd W)⟩⟩
/-- all by name, or some -/
theorem bd_kw {K : PySem.W.Frag} {fd : FuncData} {ps ks : List Str} {n : Nat} (g : {α : Type} → List α → List α → List α) (hl : ∀ {α : Type} (us ws : List α), us.length = n → ws.length = ks.length → (g us ws).length = ps.length)
    (hr : ∀ {W : Wd} {ds es : List D} {vs zs : List V}, ds.length = n → es.length = ks.length → RepL K W ds vs → RepL K W es zs → RepL K W (g ds es) (g vs zs))
    (hv : ∀ {vs zs : List V} {us ws : List Value}, us.length = n → ws.length = ks.length → Vals vs us → Vals zs ws → Vals (g vs zs) (g us ws))
    (hb : ∀ us ws : List Value, us.length = n → ws.length = ks.length → bindArgs fd ⟨us, ks.zip ws⟩ = pure (ps.zip (g us ws))) : BD K fd ps ks n (fun ds es => g ds es) :=
  ⟨fun ds es h1 h2 => hl ds es h1 h2, fun s W ds es vs zs us ws kin r1 r2 v1 v2 h1 h2 => by
    have l1 : us.length = n := by rw [← v1.length, ← r1.length, h1]
    have l2 : ws.length = ks.length := by rw [← v2.length, ← r2.length, h2]
    exact ⟨g us ws, g vs zs, .of_eq (hb us ws l1 l2), hv l1 l2 v1 v2, hr h1 h2 r1 r2⟩⟩
section
variable {X : Cx} {Wx : WX} {k : Nat} {f : Addr} {fd : FuncData} {ps ks : List Str} {m : List D → Store → Res D} {nP n : Nat} {gD : List D → List D → List D}
theorem run_spG {pins : List (Addr × Obj)} {σ : St} {A : Around} {W : Wd} {S : Store} {ds : List D} {Q : VK} {E : XK} {s : Shared} {args : Args} {us : List Value} {vs : List V} (F : FnG X.prog X.w X.K X.mg X.base k f fd ps (spD X.K m ps.length)) (hr : Room k A) (gd : A.guards = some [])
    (e0 : Env0 X.prog X.w X.K X.mg X.base A X.stack s W.H) (sr : SRep X.K W S) (hb : BindsTo s fd args (ps.zip us)) (r : Vals vs us) (rd : RepL X.K W ds vs) (hl : ds.length = ps.length) (q : VQ X.K W Q E (m ds S)) : codeAny (model X.prog X.w) A (.call (.ref f) args) (CR (L2.CX X.prog X.w) X.stack X.prog X.w W.H s Q E) s :=
  F.run A X.stack s W.H args us vs Q E gd hr e0 hb r ⟨W, ds, S, rfl, sr, rd, hl, q⟩
theorem cal_fn (F : FnG X.prog X.w X.K X.mg X.base k f fd ps (spD X.K m ps.length)) (hr : Room k X.A) (gd : X.A.guards = some []) (tk : Takes X Wx) (b : BD X.K fd ps ks nP gD) : CalD X Wx (.ref f) ks (bnd nP ks.length gD m) :=
  ⟨fun pins σ s W S ds es vs zs us ws Q I sr rd re rv rz q => by
    unfold bnd at q
    split at q
    · rename_i hl
      obtain ⟨us', vs', b1, b2, b3⟩ := b.to s W ds es vs zs us ws I.kIn rd re rv rz hl.1 hl.2
      refine wpAny_call (run_fnG F hr gd tk I b1 b2 ⟨W, _, S, rfl, sr, b3, b.len ds es hl.1 hl.2, q⟩)
    · exact q.elim⟩
/-! ### the call -/
structure DK (X : Cx) (Wx : WX) (kws : List Keyword) (m : EM (List D)) : Prop where
  p : PK X kws (tDL X.K Wx m)
variable {x : Str} {p pos kpos apos : Pos} {e o : Expr} {es : List Expr} {kws : List Keyword} {ml mk : EM (List D)} {me mo : EM D} {ms : List (EM D)} {g : List D → List D → Store → Res D} {fv : Value} {nm : Option Str}
theorem pk_imp {t t' : TA} (h : PK X kws t) (i : ∀ σ H Q, t' σ H Q → t σ H Q) : PK X kws t' := ⟨fun pos pins s σ H Q I q => h.run pos pins s σ H Q I (i σ H Q q)⟩
theorem dk_nil : DK X Wx [] (seqE []) := ⟨pk_imp pk_nil fun σ H Q ⟨W, st, S, at_, q⟩ => by
  obtain ⟨rfl, s, e⟩ := at_
  exact q W [] (.refl W) s repL_nil⟩
theorem dk_cons (he : DE X Wx e me) (hr : DK X Wx kws (seqE ms)) : DK X Wx (⟨nm, e, kpos⟩ :: kws) (seqE (me :: ms)) := ⟨pk_imp (pk_cons he.p hr.p) fun σ H Q ⟨W, st, S, at_, q⟩ => by
  obtain ⟨rfl, s, e⟩ := at_
  refine goL ⟨rfl, s, e⟩ q fun W1 d S1 v l a1 r q1 => ?_
  refine goAL a1 q1 fun W2 ds S2 vs l2 a2 r2 q2 => ?_
  exact q2 W2 _ (.refl W2) a2.s (repL_cons (r.mono l2 _ _) r2)⟩
def callF (g : List D → List D → Store → Res D) (ml : EM (List D)) : EM D := fun st S => (ml st S).bind fun ds S1 => g ds [] S1
def callG (g : List D → List D → Store → Res D) (ml mk : EM (List D)) : EM D := fun st S => (ml st S).bind fun ds S1 => (mk st S1).bind fun es S2 => g ds es S2
theorem de_fn (c : CalD X Wx fv [] g) (hk : PySem.W.keepIn X.K fv = true) (hg : Gl X x) (hm : X.mg x = some fv) (ha : DA X Wx (e :: es) ml) (hdb : (x == ("__debug__" : Str)) = false := by decide) (he : starEach (e :: es) X.env = (false, eval e X.env) :: starEach es X.env := by rfl)
    (hpl : (backTo pos (starEach es X.env)).any (·.1) = false := by rfl) : DE X Wx (.Call (.Name x p) (e :: es) [] pos) (callF g ml) := ⟨⟨fun pins s σ H Q I ⟨W, st, S, at_, q⟩ => by
  obtain ⟨rfl, sr, re⟩ := at_
  refine wpAny_Call_Name_kw (ld_glob I hg hm (PySem.W.callWith_K (h₀ := X.base) I.ok.mod.kin hk ?_ he hpl) hdb)
  refine thn (ha.p.run pos pins s σ W.H (fun vs H1 => ∃ W1 ds S1, W1.H = H1 ∧ SRep X.K W1 S1 ∧ RepL X.K W1 ds vs ∧ VQ X.K W1 Q (fun c d H' => Wx c d σ H') (g ds [] S1)) I (goAE ⟨rfl, sr, re⟩ q fun W1 ds S1 vs l a1 r q1 => ⟨W1, ds, S1, rfl, a1.s, r, q1⟩)) ?_
  rintro us s1 ⟨vs, _, I1, rv, W1, ds, S1, rfl, sr1, r, q1⟩
  exact ⟨I1.kIn, c.run pins σ s1 W1 S1 ds [] vs [] us [] Q I1 sr1 r repL_nil rv .nil q1⟩⟩⟩
theorem de_fn0 (c : CalD X Wx fv [] g) (hk : PySem.W.keepIn X.K fv = true) (hg : Gl X x) (hm : X.mg x = some fv) (hdb : (x == ("__debug__" : Str)) = false := by decide) : DE X Wx (.Call (.Name x p) [] [] pos) (callF g (seqE [])) := ⟨⟨fun pins s σ H Q I ⟨W, st, S, at_, q⟩ => by
  obtain ⟨rfl, sr, re⟩ := at_
  refine wpAny_Call_Name_kw (ld_glob I hg hm (PySem.W.callWith_K0 I.kIn hk ?_) hdb)
  exact c.run pins σ s W S [] [] [] [] [] [] Q I sr repL_nil repL_nil .nil .nil q⟩⟩
theorem de_fnK (c : CalD X Wx fv ks g) (hk : PySem.W.keepIn X.K fv = true) (hg : Gl X x) (hm : X.mg x = some fv) (ha : DA X Wx (e :: es) ml) (hw : DK X Wx kws mk) (hall : (backToKw pos (keywordEach kws X.env)).all (·.1.isSome) = true := by rfl)
    (hks : (backToKw pos (keywordEach kws X.env)).filterMap (·.1) = ks := by rfl) (hdb : (x == ("__debug__" : Str)) = false := by decide) (he : starEach (e :: es) X.env = (false, eval e X.env) :: starEach es X.env := by rfl)
    (hpl : ((backTo pos (starEach (e :: es) X.env)).any (·.1) || (backToKw pos (keywordEach kws X.env)).any (·.1.isNone)) = false := by rfl) : DE X Wx (.Call (.Name x p) (e :: es) kws pos) (callG g ml mk) := ⟨⟨fun pins s σ H Q I ⟨W, st, S, at_, q⟩ => by
  obtain ⟨rfl, sr, re⟩ := at_
  refine wpAny_Call_Name_kw (ld_glob I hg hm (PySem.W.callWith_KW (h₀ := X.base) I.ok.mod.kin hk hall ?_ hpl he) hdb)
  refine thn (ha.p.run pos pins s σ W.H (fun vs H1 => ∃ W1 ds S1, W1.H = H1 ∧ At X.K W1 st S1 σ W1.H ∧ RepL X.K W1 ds vs ∧ VQ X.K W1 Q (fun c d H' => Wx c d σ H') ((mk st S1).bind fun es S2 => g ds es S2)) I (goAE ⟨rfl, sr, re⟩ q fun W1 ds S1 vs l a1 r q1 => ⟨W1, ds, S1, rfl, a1, r, q1⟩)) ?_
  rintro us s1 ⟨vs, _, I1, rv, W1, ds, S1, rfl, a1, r, q1⟩
  refine thn (hw.p.run pos pins s1 σ W1.H (fun zs H1 => ∃ W2 es' S2, W2.H = H1 ∧ SRep X.K W2 S2 ∧ RepL X.K W2 ds vs ∧ RepL X.K W2 es' zs ∧ VQ X.K W2 Q (fun c d H' => Wx c d σ H') (g ds es' S2)) I1 (goAE a1 q1 fun W2 es' S2 zs l2 a2 r2 q2 => ⟨W2, es', S2, rfl, a2.s, r.mono l2 _ _, r2, q2⟩)) ?_
  rintro ws s2 ⟨zs, _, I2, rz, W2, es', S2, rfl, sr2, r1, r2, q2⟩
  rw [hks]
  exact ⟨I2.kIn, c.run pins σ s2 W2 S2 ds es' vs zs us ws Q I2 sr2 r1 r2 rv rz q2⟩⟩⟩
theorem de_fnK0 (c : CalD X Wx fv ks g) (hk : PySem.W.keepIn X.K fv = true) (hg : Gl X x) (hm : X.mg x = some fv) (hw : DK X Wx kws mk) (hall : (backToKw pos (keywordEach kws X.env)).all (·.1.isSome) = true := by rfl)
    (hks : (backToKw pos (keywordEach kws X.env)).filterMap (·.1) = ks := by rfl) (hdb : (x == ("__debug__" : Str)) = false := by decide)
    (hpl : ((backTo pos (starEach [] X.env)).any (·.1) || (backToKw pos (keywordEach kws X.env)).any (·.1.isNone)) = false := by rfl) : DE X Wx (.Call (.Name x p) [] kws pos) (callG g (seqE []) mk) := ⟨⟨fun pins s σ H Q I ⟨W, st, S, at_, q⟩ => by
  obtain ⟨rfl, sr, re⟩ := at_
  refine wpAny_Call_Name_kw (ld_glob I hg hm (PySem.W.callWith_KW0 (h₀ := X.base) I.ok.mod.kin hk hall ?_ hpl) hdb)
  refine thn (hw.p.run pos pins s σ W.H (fun zs H1 => ∃ W2 es' S2, W2.H = H1 ∧ SRep X.K W2 S2 ∧ RepL X.K W2 es' zs ∧ VQ X.K W2 Q (fun c d H' => Wx c d σ H') (g [] es' S2)) I (goAE ⟨rfl, sr, re⟩ q fun W2 es' S2 zs l2 a2 r2 q2 => ⟨W2, es', S2, rfl, a2.s, r2, q2⟩)) ?_
  rintro ws s2 ⟨zs, _, I2, rz, W2, es', S2, rfl, sr2, r2, q2⟩
  rw [hks]
  exact ⟨I2.kIn, c.run pins σ s2 W2 S2 [] es' [] zs [] ws Q I2 sr2 repL_nil r2 .nil rz q2⟩⟩⟩
/-! ### instances -/
/-- what stands behind an instance -/
def insOf (S : Store) : D → Option (Addr × List Str × List D)
  | .ins C ks xs => some (C, ks, xs)
  | .cell n => match S[n]? with
    | some (.ins C ks xs) => some (C, ks, xs)
    | some (.fins C ks xs) => some (C, ks, xs)
    | _ => none
  | _ => none
theorem insOf_rep {K : PySem.W.Frag} {W : Wd} {S : Store} {d : D} {v : V} {C : Addr} {ks : List Str} {xs : List D} (s : SRep K W S) (r : Rep K W d v) (h : insOf S d = some (C, ks, xs)) : ∃ a dx vs, v = .ref a ∧ W.H a = some (.ins C dx (ks.zip vs)) ∧ ks.length = vs.length ∧ RepL K W xs vs := by
  cases d <;> simp only [insOf] at h <;> try cases h
  · simp only [Rep] at r
    obtain ⟨a, dx, vs, e, q, _, z, rl⟩ := r
    exact ⟨a, dx, vs, e, q, z, rl⟩
  · simp only [Rep] at r
    obtain ⟨a, rfl, hn⟩ := r
    split at h <;> cases h
    · rename_i hs
      obtain ⟨dx, vs, q, _, z, rl⟩ := s.at_ _ _ _ hn hs
      exact ⟨a, dx, vs, rfl, q, z, rl⟩
    · rename_i hs
      obtain ⟨dx, vs, q, _, z, rl⟩ := s.at_ _ _ _ hn hs
      exact ⟨a, dx, vs, rfl, q, z, rl⟩
theorem zip_lookup {K : PySem.W.Frag} {W : Wd} {fn : Str} : ∀ {ks : List Str} {xs : List D} {vs : List V} {d : D}, RepL K W xs vs → (ks.zip xs).lookup fn = some d → ∃ v, (ks.zip vs).lookup fn = some v ∧ Rep K W d v
  | [], xs, vs, d, r, h => by simp at h
  | k :: ks, [], vs, d, r, h => by simp at h
  | k :: ks, x :: xs, vs, d, r, h => by
    simp only [RepL] at r
    obtain ⟨v, vs', rfl, r1, r2⟩ := r
    rw [List.zip_cons_cons, List.lookup_cons] at h ⊢
    cases hk : fn == k
    · rw [hk] at h
      exact zip_lookup r2 h
    · rw [hk] at h
      cases h
      exact ⟨v, rfl, r1⟩
theorem zip_lookup_none {fn : Str} : ∀ {ks : List Str} {xs : List D} {vs : List V}, xs.length = vs.length → (ks.zip xs).lookup fn = none → (ks.zip vs).lookup fn = none
  | [], xs, vs, r, h => by simp
  | k :: ks, [], vs, r, h => by
    cases vs with
    | nil => simp
    | cons => simp at r
  | k :: ks, x :: xs, [], r, h => by simp at r
  | k :: ks, x :: xs, v :: vs, r, h => by
    rw [List.zip_cons_cons, List.lookup_cons] at h ⊢
    cases hk : fn == k
    · rw [hk] at h
      exact zip_lookup_none (by simpa using r) h
    · rw [hk] at h
      cases h
def fldD (C : Addr) (fn : Str) (x : D) (S : Store) : Option D := match insOf S x with
  | some (C', ks, xs) => if C' = C then (ks.zip xs).lookup fn else none
  | none => none
def fldE (C : Addr) (fn : Str) (o : EM D) : EM D := fun st S => (o st S).bind fun x S1 => match fldD C fn x S1 with
  | some d => .ok d S1
  | none => .bad
theorem de_fld {C : Addr} {fn : Str} (c : Cls X.K C) (n : NoAttr X.K C fn) (ho : DE X Wx o mo) (hb : attributeBase o fn X.env (eval o X.env) = eval o X.env := by rfl) : DE X Wx (.Attribute o fn pos) (fldE C fn mo) := by
  refine de_of (pe_fld ho.p hb) fun W st S σ Q at_ q => ?_
  refine goE at_ q fun W1 d S1 v l a1 r q1 => ?_
  unfold fldD at q1
  cases h : insOf S1 d with
  | none => rw [h] at q1; exact q1.elim
  | some t =>
    obtain ⟨C', ks, xs⟩ := t
    rw [h] at q1
    by_cases hc : C' = C
    · subst hc
      simp only [if_true] at q1
      cases hl : (ks.zip xs).lookup fn with
      | none => rw [hl] at q1; exact q1.elim
      | some y =>
        rw [hl] at q1
        obtain ⟨a, dx, vs, rfl, ha, hz, rl⟩ := insOf_rep a1.s r h
        obtain ⟨u, hu, ru⟩ := zip_lookup rl hl
        exact ⟨a, C', dx, _, u, rfl, ha, c, n, hu, q1 W1 u (.refl W1) a1.s ru⟩
    · simp only [if_neg hc] at q1
      exact q1.elim
end
end KF

set_option Elab.async false
set_option linter.all false
set_option maxRecDepth 100000
set_option maxHeartbeats 4000000
/-! KFK: own methods, properties, operators by own defs; making an instance; storing a field. -/
namespace KF
open PySem PySem.Spec PyProof.Rows L2
abbrev E0 : XK := fun _ _ _ => False
theorem cx_no {P : Program} {w : World} {outer : List Env} {H : Hp} {s : Shared} {u : Value} {s' : Shared} (h : L2.CX P w outer H s E0 u s') : False := by
  obtain ⟨_, _, _, _, _, _, _, _, _, _, _, _, z⟩ := h
  exact z
/-- an end without an exception -/
def Res.noE : Res D → Res D
  | .ok d S => .ok d S
  | _ => .bad
@[simp] theorem noE_ok (d : D) (S : Store) : (Res.ok d S).noE = .ok d S := rfl
@[simp] theorem noE_err (e : Exn) (S : Store) : (Res.err (α := D) e S).noE = .bad := rfl
@[simp] theorem noE_bad : (Res.bad : Res D).noE = .bad := rfl
theorem VQ.noE {K : PySem.W.Frag} {W : Wd} {Q : VK} {E E' : XK} {r : Res D} (h : VQ K W Q E r.noE) : VQ K W Q E' r := by
  cases r with
  | ok d S => exact h
  | err e S => exact h.elim
  | bad => exact h.elim
section
variable {X : Cx} {Wx : WX} {k : Nat} {f C : Addr} {fd : FuncData} {ps ks : List Str} {m : List D → Store → Res D} {nP n : Nat} {gD : List D → List D → List D} {pins : List (Addr × Obj)} {σ : St} {s : Shared} {W : Wd} {S : Store} {A : Around} {Q : VK} {ds : List D} {vs : List V} {us : List Value}
def OwnEnd (X : Cx) (pins : List (Addr × Obj)) (σ : St) (Q : VK) : Result → Shared → Prop := fun r s' => match r with
  | .ok (.ret u) => EP X pins σ Q u s'
  | _ => False
/-- a def is called where no exception may come out -/
theorem run_fnA (F : FnG X.prog X.w X.K X.mg X.base k f fd ps (spD X.K m ps.length)) (hr : Room k A) (gd : A.guards = some []) (I : Inv X pins σ W.H s) (e0 : Env0 X.prog X.w X.K X.mg X.base A X.stack s W.H) (b : BD X.K fd ps [] nP gD)
    (sr : SRep X.K W S) (rd : RepL X.K W ds vs) (rv : Vals vs us) (q : VQ X.K W Q E0 (bnd nP 0 gD m ds [] S)) : codeAny (model X.prog X.w) A (.call (.ref f) ⟨us, []⟩) (OwnEnd X pins σ Q) s := by
  unfold bnd at q
  split at q
  · rename_i hl
    obtain ⟨us', vs', b1, b2, b3⟩ := b.to s W ds [] vs [] us [] I.kIn rd repL_nil rv .nil hl.1 hl.2
    refine codeAny_mono (run_spG (pins := pins) (σ := σ) F hr gd e0 sr b1 b2 b3 (b.len ds [] hl.1 hl.2) q) fun r s' hq => ?_
    match r, hq with
    | .error e, hq => exact (cx_no hq).elim
    | .ok (.ret u), hq => exact I.after hq
    | .ok .next, hq => exact False.elim hq
    | .ok .brk, hq => exact False.elim hq
    | .ok .cont, hq => exact False.elim hq
  · exact q.elim
/-- an own def that stands behind a name of the class: a property's getter, a dunder -/
structure Own (X : Cx) (C f : Addr) (g : List D → List D → Store → Res D) : Prop where
  run : ∀ (A : Around) (pins : List (Addr × Obj)) (σ : St) (s : Shared) (W : Wd) (S : Store) (ds : List D) (vs : List V) (us : List Value) (Q : VK), (A = X.A ∨ A = X.A.in1) → Inv X pins σ W.H s → SRep X.K W S → RepL X.K W ds vs → Vals vs us → VQ X.K W Q E0 (g ds [] S) →
    codeAny (model X.prog X.w) A (.call (.ref f) ⟨us, []⟩) (OwnEnd X pins σ Q) s
theorem Own.wp {g : List D → List D → Store → Res D} {E' : Value → Shared → Prop} (F : Own X C f g) (ha : A = X.A ∨ A = X.A.in1) (I : Inv X pins σ W.H s) (sr : SRep X.K W S) (rd : RepL X.K W ds vs) (rv : Vals vs us) (q : VQ X.K W Q E0 (g ds [] S)) : wpAny (model X.prog X.w) A (call (.ref f) us) (EP X pins σ Q) E' s :=
  wpAny_call (codeAny_mono (F.run A pins σ s W S ds vs us Q ha I sr rd rv q) fun r s' hq => by
    match r, hq with
    | .ok (.ret u), hq => exact hq
    | .error e, hq => exact hq.elim
    | .ok .next, hq => exact hq.elim
    | .ok .brk, hq => exact hq.elim
    | .ok .cont, hq => exact hq.elim)
theorem own_of (F : FnG X.prog X.w X.K X.mg X.base k f fd ps (spD X.K m ps.length)) (hr : Room (k + 1) X.A) (gd : X.A.guards = some []) (b : BD X.K fd ps [] nP gD) : Own X C f (bnd nP 0 gD m) :=
  ⟨fun A pins σ s W S ds vs us Q ha I sr rd rv q => by
    rcases ha with rfl | rfl
    · exact run_fnA F (hr.mono (Nat.le_succ k)) gd I I.env0 b sr rd rv q
    · exact run_fnA F hr.in1 gd I I.env0.in1 b sr rd rv q⟩
/-- the class of an instance and what is looked up there -/
structure Dun (K : PySem.W.Frag) (C : Addr) (name : Str) (f : Addr) : Prop where
  at_ : PySem.W.findIn K (.ref C) name = some (some (.ref f))
  fn : PySem.W.isFn K (.ref f) = true
variable {o e a b : Expr} {es : List Expr} {kws : List Keyword} {ml mk : EM (List D)} {me mo ma mb : EM D} {pos apos : Pos} {g : List D → List D → Store → Res D} {fn mn : Str}
theorem inst_at {fs : List (Str × V)} {x dx : Addr} {H : Hp} (I : Inv X pins σ H s) (ha : H x = some (.ins C dx fs)) : ∃ ox od, PySem.W.InstAt s.heap x ox C (some od) := by
  obtain ⟨mA, O, _, _, _, _⟩ := ins_get I.hok ha
  obtain ⟨od, J, _⟩ := O.look
  exact ⟨_, od, J⟩
/-! ### properties -/
def propE (C : Addr) (g : List D → List D → Store → Res D) (o : EM D) : EM D := fun st S => (o st S).bind fun x S1 => match insOf S1 x with
  | some (C', _, _) => if C' = C then (g [x] [] S1).noE else .bad
  | none => .bad
theorem de_prop {p : Addr} (c : Cls X.K C) (hp : PropOf X.K C fn p f) (F : Own X C f g) (ho : DE X Wx o mo) (hb : attributeBase o fn X.env (eval o X.env) = eval o X.env := by rfl) : DE X Wx (.Attribute o fn pos) (propE C g mo) := ⟨⟨fun pins s σ H Q I ⟨W, st, S, at_, q⟩ => by
  obtain ⟨rfl, sr, re⟩ := at_
  refine attr_of hb (thn (ho.p.run pins s σ W.H (fun v H1 => ∃ W1 x S1, W1.H = H1 ∧ SRep X.K W1 S1 ∧ Rep X.K W1 x v ∧ VQ X.K W1 Q (fun c d H' => Wx c d σ H') (match insOf S1 x with | some (C', _, _) => if C' = C then (g [x] [] S1).noE else .bad | none => .bad)) I
    (goE ⟨rfl, sr, re⟩ q fun W1 x S1 v l a1 r q1 => ⟨W1, x, S1, rfl, a1.s, r, q1⟩)) ?_)
  rintro u s1 ⟨v, _, I1, rv, W1, x, S1, rfl, sr1, rx, q1⟩
  cases h : insOf S1 x with
  | none => rw [h] at q1; exact q1.elim
  | some t =>
    obtain ⟨C', ks, xs⟩ := t
    rw [h] at q1
    by_cases hc : C' = C
    · subst hc
      simp only [if_true] at q1
      obtain ⟨y, dx, vs, rfl, ha, hz, rl⟩ := insOf_rep sr1 rx h
      obtain rfl : u = Value.ref y := rv
      obtain ⟨ox, od, J⟩ := inst_at I1 ha
      obtain ⟨rest, hrec⟩ := hp.rec_
      have hc : (PySem.W.clsIn X.K C').isSome = true := by
        obtain ⟨cd, z, _⟩ := PySem.W.any_some c.hd
        rw [z]; rfl
      refine PySem.W.get_bind I1.kIn J (PySem.W.plainGet_of (c.get fn)).1 (PySem.W.findObj_data hc hp.at_ hp.get hp.tak) (PySem.W.plainGet_of (c.get fn)).2 (wpAny_call (PySem.W.prop_get (s := { s1 with toks := s1.toks + 1 }) I1.kIn hrec ?_))
      have R := F.run X.A.in1 pins σ { s1 with toks := s1.toks + 1 } W1 S1 [x] [.ref y] [.ref y] Q (.inr rfl) (I1.tok _) sr1 (repL_cons rx repL_nil) (.cons rfl .nil) (VQ.noE q1)
      refine codeAny_mono R fun r s' hq => ?_
      match r, hq with
      | .error e, hq => exact hq.elim
      | .ok (.ret u), hq =>
        obtain ⟨v, H', I3, rv, q3⟩ := hq
        show wpAny _ _ (handedOut u) _ _ _
        rw [PySem.W.handedOut_of (handed_of rv)]
        exact wpAny_pure ⟨v, H', I3, rv, q3⟩
      | .ok .next, hq => exact False.elim hq
      | .ok .brk, hq => exact False.elim hq
      | .ok .cont, hq => exact False.elim hq
    · simp only [if_neg hc] at q1
      exact q1.elim⟩⟩
end
end KF

set_option Elab.async false
set_option linter.all false
set_option maxRecDepth 100000
set_option maxHeartbeats 4000000
/-! KFL: operators by own defs; own methods; making an instance; storing a field. -/
namespace KF
open PySem PySem.Spec PyProof.Rows L2
def r2S (K : PySem.W.Frag) (g : D → D → Store → Res D) : R2 := fun x y H Q => ∃ W S dx dy, W.H = H ∧ SRep K W S ∧ Rep K W dx x ∧ Rep K W dy y ∧ VQ K W Q E0 (g dx dy S)
/-- an operator that may leave new things behind -/
structure OpS (X : Cx) (f : Value → Value → Sem Value) (g : D → D → Store → Res D) : Prop where
  p : OpR X f (r2S X.K g)
def opS (g : D → D → Store → Res D) (a b : EM D) : EM D := fun st S => (a st S).bind fun x S1 => (b st S1).bind fun y S2 => (g x y S2).noE
section
variable {X : Cx} {Wx : WX} {C f : Addr} {a b e o : Expr} {ma mb me mo : EM D} {pos apos : Pos} {g : D → D → Store → Res D}
theorem opS_go {W : Wd} {st : DSt} {S : Store} {σ : St} {Q : VK} (at_ : At X.K W st S σ W.H) (q : VQ X.K W Q (fun c d H' => Wx c d σ H') (opS g ma mb st S)) :
    tD X.K Wx ma σ W.H fun x H1 => tD X.K Wx mb σ H1 fun y H2 => r2S X.K g x y H2 Q := by
  refine goE at_ q fun W1 dx S1 x l1 a1 r1 q1 => ?_
  refine goE a1 q1 fun W2 dy S2 y l2 a2 r2 q2 => ?_
  exact ⟨W2, S2, dx, dy, rfl, a2.s, r1.mono l2 _ _, r2, VQ.noE q2⟩
theorem de_opS {op : Operator} (ho : OpS X (binaryOp op) g) (ha : DE X Wx a ma) (hb : DE X Wx b mb) : DE X Wx (.BinOp a op b pos) (opS g ma mb) :=
  de_of (pe_op ho.p ha.p hb.p) fun W st S σ Q at_ q => opS_go at_ q
theorem de_cmpS {op : CmpOp} (ho : OpS X (compareOp op) g) (ha : DE X Wx a ma) (hb : DE X Wx b mb) (hm : behindInMarks op b = false) : DE X Wx (.Compare a [op] [b] pos) (opS g ma mb) :=
  de_of (pe_cmpR ho.p ha.p hb.p hm) fun W st S σ Q at_ q => opS_go at_ q
theorem opS_of {f : Value → Value → Sem Value} {g : D → D → Store → Option D} (h : OpD X f g) : OpS X f (fun x y S => Res.of (g x y S) S) :=
  ⟨opR_imp h.p fun x y H Q ⟨W, S, dx, dy, e, sr, r1, r2, q⟩ => by
    obtain ⟨d, e1, k⟩ := of_go q
    exact ⟨W, S, dx, dy, d, e, sr, r1, r2, e1, k⟩⟩
/-- an own class's def where an instance stands, the builtin's way elsewhere -/
def ownOr (C : Addr) (h : D → D → Store → Res D) (g : D → D → Store → Option D) : D → D → Store → Res D := fun x y S => match insOf S y with
  | some (C', _, _) => if C' = C then h x y S else .bad
  | none => .of (g x y S) S
/-- x in y by __contains__ -/
def conD (g : List D → List D → Store → Res D) (neg : Bool) : D → D → Store → Res D := fun x y S => match g [y, x] [] S with
  | .ok (.bl b) S1 => .ok (.bl (b != neg)) S1
  | _ => .bad
theorem con_go {h : List D → List D → Store → Res D} {neg : Bool} {pins : List (Addr × Obj)} {σ : St} {s : Shared} {W : Wd} {S : Store} {Q : VK} {dx dy : D} {x y : V} {u v : Value} {ks : List Str} {xs : List D} (dn : Dun X.K C "__contains__" f) (F : Own X C f h)
    (I : Inv X pins σ W.H s) (sr : SRep X.K W S) (rx : Rep X.K W dx x) (ry : Rep X.K W dy y) (vx : RelV x u) (vy : RelV y v) (hi : insOf S dy = some (C, ks, xs)) (q : VQ X.K W Q E0 (conD h neg dx dy S)) :
    wpAny (model X.prog X.w) X.A (contains v u) (fun b s' => EP X pins σ Q (.bool (b != neg)) s') X.xe s := by
  obtain ⟨a, dd, vs, rfl, ha, hz, rl⟩ := insOf_rep sr ry hi
  obtain rfl : v = Value.ref a := vy
  obtain ⟨ox, od, J⟩ := inst_at I ha
  unfold contains
  refine wpAny_holding ?_
  refine wpAny_bind (wpAny_bind (J.type.here ((PySem.W.looks_findIn I.kIn dn.at_).here ?_)))
  show wpAny _ _ (if (some (Value.ref f) == some .none) = true then _ else _) _ _ _
  rw [if_neg (by simp)]
  unfold callSpecialUnlessNone?
  refine wpAny_bind (wpAny_bind (wpAny_bind (J.type.here ((PySem.W.looks_findIn I.kIn dn.at_).here (wpAny_holding (wpAny_bind ((PySem.W.bind_fn I.kIn _ (beq_iff_eq.mp dn.fn)).here ?_)))))))
  show wpAny _ _ (if (Value.ref f == .none) = true then _ else _) _ _ _
  rw [if_neg (by simp)]
  have e : ∃ b S1, h [dy, dx] [] S = .ok (.bl b) S1 ∧ VQ X.K W Q E0 (.ok (.bl (b != neg)) S1) := by
    unfold conD at q
    split at q
    · rename_i b S1 e
      exact ⟨b, S1, e, q⟩
    · exact q.elim
  obtain ⟨b, S1, e, q⟩ := e
  refine wpAny_bind (wpAny_mono (F.wp (E' := X.xe) (Q := fun v H' => v = .bl b ∧ Q (.bl (b != neg)) H') (.inl rfl) I sr (repL_cons ry (repL_cons rx repL_nil)) (.cons rfl (.cons vx .nil)) ?_) (fun r s' hr => ?_) fun _ _ z => z)
  · rw [e]
    intro W' v l s' r
    exact ⟨by simpa [Rep] using r, q W' _ l s' (rep_blI _)⟩
  · obtain ⟨w, H', I', rw', rfl, q'⟩ := hr
    obtain rfl : r = Value.bool b := rw'
    exact wpAny_pure (wpAny_pure ⟨.bl (b != neg), H', I', rfl, q'⟩)
theorem op_inO {h : List D → List D → Store → Res D} (dn : Dun X.K C "__contains__" f) (F : Own X C f h) (hu : X.A.units + 70 < cLine) : OpS X (compareOp .In) (ownOr C (conD h false) gIn) := ⟨fun pins s σ H x y u v Q I vx vy ⟨W, S, dx, dy, eH, sr, rx, ry, q⟩ => by
  subst eH
  unfold ownOr at q
  cases hi : insOf S dy with
  | none =>
    rw [hi] at q
    exact (opS_of (op_inK hu)).p pins s σ W.H x y u v Q I vx vy ⟨W, S, dx, dy, rfl, sr, rx, ry, q⟩
  | some t =>
    obtain ⟨C', ks, xs⟩ := t
    rw [hi] at q
    by_cases hc : C' = C
    · subst hc
      simp only [if_true] at q
      refine wpAny_bind (wpAny_mono (con_go dn F I sr rx ry vx vy hi q) (fun b s' z => wpAny_pure ?_) fun _ _ z => z)
      cases b <;> exact z
    · simp only [if_neg hc] at q
      exact q.elim⟩
theorem op_notInO {h : List D → List D → Store → Res D} (dn : Dun X.K C "__contains__" f) (F : Own X C f h) (hu : X.A.units + 70 < cLine) : OpS X (compareOp .NotIn) (ownOr C (conD h true) gNotIn) := ⟨fun pins s σ H x y u v Q I vx vy ⟨W, S, dx, dy, eH, sr, rx, ry, q⟩ => by
  subst eH
  unfold ownOr at q
  cases hi : insOf S dy with
  | none =>
    rw [hi] at q
    exact (opS_of (op_notInK hu)).p pins s σ W.H x y u v Q I vx vy ⟨W, S, dx, dy, rfl, sr, rx, ry, q⟩
  | some t =>
    obtain ⟨C', ks, xs⟩ := t
    rw [hi] at q
    by_cases hc : C' = C
    · subst hc
      simp only [if_true] at q
      refine wpAny_bind (wpAny_mono (con_go dn F I sr rx ry vx vy hi q) (fun b s' z => wpAny_pure ?_) fun _ _ z => z)
      cases b <;> exact z
    · simp only [if_neg hc] at q
      exact q.elim⟩
/-! ### a builtin that asks an own def -/
def rDS (K : PySem.W.Frag) (g : List D → Store → Res D) : List V → Hp → VK → Prop := fun vs H Q => ∃ W S ds, W.H = H ∧ SRep K W S ∧ RepL K W ds vs ∧ VQ K W Q E0 (g ds S)
structure CallS (X : Cx) (f : Value) (g : List D → Store → Res D) : Prop where
  p : CallR X f (rDS X.K g)
def callSE (g : List D → Store → Res D) (ml : EM (List D)) : EM D := fun st S => (ml st S).bind fun ds S1 => (g ds S1).noE
theorem de_callBS {id : String} {x : Str} {p : Pos} {es : List Expr} {ml : EM (List D)} {g : List D → Store → Res D} (hc : CallS X (.builtin id) g) (hg : Gl X x) (hm : X.mg x = none) (hv : bootBuiltins x = some (.builtin id)) (ha : DA X Wx (e :: es) ml) (hn : x ≠ "__name__" := by decide) (hdb : (x == ("__debug__" : Str)) = false := by decide)
    (he : starEach (e :: es) X.env = (false, eval e X.env) :: starEach es X.env := by rfl) (hpl : (backTo pos (starEach es X.env)).any (·.1) = false := by rfl) : DE X Wx (.Call (.Name x p) (e :: es) [] pos) (callSE g ml) :=
  de_of (pe_callB hc.p hg hm hv ha.p hn hdb he hpl) fun W st S σ Q at_ q => goAE at_ q fun W1 ds S1 vs l a1 r q1 => ⟨W1, S1, ds, rfl, a1.s, r, VQ.noE q1⟩
theorem callS_of {f : Value} {g : List D → Store → Option (D × Store)} (h : CallD X f g) : CallS X f (fun ds S => .of2 (g ds S)) :=
  ⟨callR_imp h.p fun vs H Q ⟨W, S, ds, e, sr, r, q⟩ => by
    obtain ⟨d, S', e1, k⟩ := of2_go q
    exact ⟨W, S, ds, d, S', e, sr, r, e1, k⟩⟩
def lenD (C : Addr) (h : List D → List D → Store → Res D) : List D → Store → Res D := fun ds S => match ds with
  | [x] => match insOf S x with
    | some (C', _, _) => if C' = C then (match h [x] [] S with
      | .ok (.int n) S1 => if 0 ≤ n ∧ n < 2 ^ 63 then .ok (.int n) S1 else .bad
      | _ => .bad) else .bad
    | none => .of2 (g1 gLen ds S)
  | _ => .bad
theorem call_lenO {h : List D → List D → Store → Res D} (dn : Dun X.K C "__len__" f) (F : Own X C f h) : CallS X (.builtin "len") (lenD C h) := ⟨fun pins s σ H xs us Q I rv ⟨W, S, ds, eH, sr, rl, q⟩ => by
  subst eH
  match ds, q with
  | [], q => exact q.elim
  | _ :: _ :: _, q => exact q.elim
  | [x], q =>
    unfold lenD at q
    simp only at q
    cases hi : insOf S x with
    | none =>
      rw [hi] at q
      exact (callS_of call_lenK).p pins s σ W.H xs us Q I rv ⟨W, S, [x], rfl, sr, rl, q⟩
    | some t =>
      obtain ⟨C', ks, ys⟩ := t
      rw [hi] at q
      by_cases hc : C' = C
      · subst hc
        simp only [if_true] at q
        obtain ⟨v, rfl, rx⟩ := repL_1 rl
        obtain ⟨a, dd, vs, rfl, ha, hz, _⟩ := insOf_rep sr rx hi
        obtain ⟨u, rfl, ru⟩ : ∃ u, us = [u] ∧ RelV (.ref a) u := by
          cases rv with
          | cons h1 h2 => cases h2; exact ⟨_, rfl, h1⟩
        obtain rfl : u = Value.ref a := ru
        obtain ⟨ox, od, J⟩ := inst_at I ha
        have e : ∃ n S1, h [x] [] S = .ok (.int n) S1 ∧ (0 ≤ n ∧ n < 2 ^ 63) ∧ VQ X.K W Q E0 (.ok (.int n) S1) := by
          split at q
          · rename_i n S1 e
            split at q
            · rename_i hn
              exact ⟨n, S1, e, hn, q⟩
            · exact q.elim
          · exact q.elim
        obtain ⟨n, S1, e, hn, q⟩ := e
        have R := F.wp (E' := X.xe) (Q := fun v H' => v = .int n ∧ Q (.int n) H') (.inr rfl) I sr (repL_cons rx repL_nil) (Paired.cons (show RelV (.ref a) (Value.ref a) from rfl) .nil) (by
          rw [e]
          intro W' v l s' r
          exact ⟨rep_i r, q W' _ l s' rep_iI⟩)
        refine PySem.Calls.call_function_entry (id := "len") PySem.kind_len PySem.plain_len PySem.entry_len (PySem.args_len1 _) ?_
        unfold PySem.Builtin.«len»
        refine wpAny_bind (m := PySem.oneArg "len" _) (wpAny_pure (wpAny_bind (m := callSpecial? (.ref a) (Str.ofString "__len__")) (PySem.W.special_fn I.kIn J dn.at_ (beq_iff_eq.mp dn.fn) (wpAny_mono R (fun r s' hr => ?_) fun _ _ y => y))))
        obtain ⟨w, H', I', rw', rfl, q'⟩ := hr
        obtain ⟨tk, rfl⟩ : ∃ t, r = Value.int n t := rw'
        refine wpAny_bind (wpAny_holding (wpAny_pure (wpAny_bind (wpAny_letGo ?_))))
        show wpAny _ _ (if n < 0 then _ else if n ≥ 2 ^ 63 then _ else _) _ _ _
        rw [if_neg (by omega), if_neg (by omega)]
        refine wpAny_bind (wpAny_mkInt (wpAny_pure ?_))
        exact ⟨_, rfl, ⟨.int n, H', I'.tok _, ⟨_, rfl⟩, q'⟩⟩
      · simp only [if_neg hc] at q
        exact q.elim⟩
end
end KF

set_option Elab.async false
set_option linter.all false
set_option maxRecDepth 100000
set_option maxHeartbeats 4000000
/-! KFM: storing a field; making an instance. -/
namespace KF
open PySem PySem.Spec PyProof.Rows L2
def putD (fn : Str) (d : D) : List Str → List D → List Str × List D
  | k :: ks, x :: xs => if k = fn then (k :: ks, d :: xs) else (k :: (putD fn d ks xs).1, x :: (putD fn d ks xs).2)
  | _, _ => ([fn], [d])
theorem putD_rep {K : PySem.W.Frag} {W : Wd} {fn : Str} {d : D} {v : V} (r : Rep K W d v) : ∀ {ks : List Str} {xs : List D} {vs : List V}, ks.length = vs.length → RepL K W xs vs →
    ∃ vs', putF fn v (ks.zip vs) = (putD fn d ks xs).1.zip vs' ∧ (putD fn d ks xs).1.length = vs'.length ∧ RepL K W (putD fn d ks xs).2 vs' ∧ (putD fn d ks xs).1.length ≤ ks.length + 1
  | [], xs, vs, hl, rl => by
    have : vs = [] := List.eq_nil_of_length_eq_zero hl.symm
    subst this
    exact ⟨[v], by simp [putD, putF], by simp [putD], by simp only [putD]; exact repL_cons r repL_nil, by simp [putD]⟩
  | k :: ks, [], vs, hl, rl => by
    simp only [RepL] at rl
    subst rl
    simp at hl
  | k :: ks, x :: xs, vs, hl, rl => by
    simp only [RepL] at rl
    obtain ⟨u, us, rfl, r1, r2⟩ := rl
    by_cases h : k = fn
    · exact ⟨v :: us, by simp [putD, putF, h], by simpa [putD, h] using hl, by simp only [putD, h, if_true]; exact repL_cons r r2, by simp [putD, h]⟩
    · obtain ⟨vs', q1, q2, q3, q4⟩ := putD_rep (fn := fn) r (ks := ks) (xs := xs) (vs := us) (by simpa using hl) r2
      exact ⟨u :: vs', by simp [putD, putF, h, q1], by simp [putD, h, q2], by simp only [putD, h, if_false]; exact repL_cons r1 q3, by simp [putD, h]; omega⟩
def mutI (S : Store) : D → Option (Nat × Addr × List Str × List D)
  | .cell n => match S[n]? with
    | some (.ins C ks xs) => some (n, C, ks, xs)
    | _ => none
  | _ => none
theorem mutI_rep {K : PySem.W.Frag} {W : Wd} {S : Store} {d : D} {v : V} {n : Nat} {C : Addr} {ks : List Str} {xs : List D} (s : SRep K W S) (r : Rep K W d v) (h : mutI S d = some (n, C, ks, xs)) : ∃ a dx vs, v = .ref a ∧ W.N[n]? = some a ∧ W.M a ∧ W.H a = some (.ins C dx (ks.zip vs)) ∧ ks.length = vs.length ∧ RepL K W xs vs := by
  cases d <;> simp only [mutI] at h <;> try cases h
  simp only [Rep] at r
  obtain ⟨a, rfl, h2⟩ := r
  split at h <;> cases h
  rename_i hs
  obtain ⟨dx, vs, q1, q2, q3, q4⟩ := s.at_ _ _ _ h2 hs
  exact ⟨a, dx, vs, rfl, h2, q2, q1, q3, q4⟩
def fsetD (C : Addr) (fn : Str) (x d : D) (st : DSt) (S : Store) : SRes := match mutI S x with
  | some (n, C', ks, xs) => if C' = C ∧ ks.length < 900 then .nx st (S.set n (.ins C (putD fn d ks xs).1 (putD fn d ks xs).2)) else .bad
  | none => .bad
def fsetS (C : Addr) (fn : Str) (mo me : EM D) : SM := exS me fun d st S => exS mo (fun x st S => fsetD C fn x d st S) st S
section
variable {X : Cx} {Wx : WX} {C f : Addr} {a b e o : Expr} {ma mb me mo : EM D} {pos pos' apos : Pos}
theorem ds_fset {fn : Str} (c : Cls X.K C) (nn : NoAttr X.K C fn) (ho : DE X Wx o mo) (he : DE X Wx e me) (hs : swapsWith e (some (.Attribute o fn pos')) pos.line X.env = pure false := by rfl) : DS X Wx (.Assign [.Attribute o fn pos'] e pos) (fsetS C fn mo me) := by
  refine ds_of (ps_fld ho.p he.p hs) fun W st S σ D at_ q => ?_
  refine goS at_ q fun W1 d S1 v l1 a1 r1 q1 => ?_
  refine goS (f := fun x S2 => fsetD C fn x d st S2) a1 q1 fun W2 x S2 xv l2 a2 r2 q2 => ?_
  unfold fsetD at q2
  cases h : mutI S2 x with
  | none => rw [h] at q2; exact q2.elim
  | some t =>
    obtain ⟨n, C', ks, xs⟩ := t
    rw [h] at q2
    simp only at q2
    split at q2
    · rename_i hc
      obtain ⟨rfl, hlen⟩ := hc
      obtain ⟨p, dx, vs, rfl, h2, h3, h4, h5, h6⟩ := mutI_rep a2.s r2 h
      obtain ⟨vs', z1, z2, z3, z4⟩ := putD_rep (r1.mono l2 _ _) (fn := fn) h5 h6
      have l := Wd.wr_le (W := W2) (o := .ins C' dx (putF fn v (ks.zip vs))) (b := True) h3 (a2.s.nl h2)
      refine ⟨p, C', dx, _, rfl, h4, c, nn, ?_, ?_⟩
      · rw [List.length_zip, ← h5, Nat.min_self]; omega
      · refine q2 (W2.wr p (.ins C' dx (putF fn v (ks.zip vs))) True) σ l (a2.s.wr h2 h3 ⟨dx, vs', ?_, ⟨h3, fun _ => trivial⟩, z2, z3.mono l _ _⟩) (a2.e.mono l)
        show upd W2.H p _ p = _
        rw [upd_same, z1]
    · exact q2.elim
/-! ### making an instance -/
/-- a new instance, filled by __init__; kept open -/
def mkC (C : Addr) (m : List D → List D → Store → Res D) : List D → List D → Store → Res D := fun ds es S => match m (.cell S.length :: ds) es (S ++ [.ins C [] []]) with
  | .ok .non S' => .ok (.cell S.length) S'
  | .err e S' => .err e S'
  | _ => .bad
/-- .. and never changed again -/
def frzI (C : Addr) (n : Nat) (S' : Store) : Res D := match S'[n]? with
  | some (.ins C' ks xs) => if C' = C then .ok (.ins C ks xs) (S'.set n (.fins C ks xs)) else .bad
  | _ => .bad
def mkF (C : Addr) (m : List D → List D → Store → Res D) : List D → List D → Store → Res D := fun ds es S => match m (.cell S.length :: ds) es (S ++ [.ins C [] []]) with
  | .ok .non S' => frzI C S.length S'
  | .err e S' => .err e S'
  | _ => .bad
variable {k : Nat} {fd : FuncData} {ps ks : List Str} {m : List D → Store → Res D} {nP : Nat} {gD : List D → List D → List D}
theorem mk_guards {A : Around} {us : List Value} {kw : List (Str × Value)} : (A.under (.builtin "type.__call__" ⟨.ref C :: us, kw⟩)).guards = A.guards := by
  first | rfl | (simp [Around.under, Code.guards, Code.isGuard, guardIds]; done) | skip
/-- a world with a new instance -/
def Wd.inst (W : Wd) (C dx x : Addr) : Wd := (W.put dx (.own x)).cel x (.ins C dx [])
theorem mk_run {pins : List (Addr × Obj)} {σ : St} {s : Shared} {W : Wd} {S : Store} {ds es : List D} {vs zs : List V} {us ws : List Value} {Q : VK} (M : Mk X.K C f) (F : FnG X.prog X.w X.K X.mg X.base k f fd ps (spD X.K m ps.length)) (hr : Room (k + 1) X.A) (gd : X.A.guards = some []) (tk : Takes X Wx) (b : BD X.K fd ps ks (nP + 1) gD)
    (I : Inv X pins σ W.H s) (sr : SRep X.K W S) (rd : RepL X.K W ds vs) (re : RepL X.K W es zs) (rv : Vals vs us) (rz : Vals zs ws)
    (q : ∀ dx x, x ≠ dx → W.H dx = none → W.H x = none → W.le (W.inst C dx x) → Rep X.K (W.inst C dx x) (.cell S.length) (.ref x) → VQ X.K (W.inst C dx x) (fun v H2 => v = .non ∧ Q (.ref x) H2) (fun c d H' => Wx c d σ H') (bnd (nP + 1) ks.length gD m (.cell S.length :: ds) es (S ++ [.ins C [] []]))) :
    wpAny (model X.prog X.w) X.A (call (.ref C) us (ks.zip ws)) (EP X pins σ Q) X.xe s := by
  have n1 : W.H s.heap.objs.size = none := I.hok.fresh (Nat.le_refl _)
  have n2 : W.H (s.heap.objs.size + 1) = none := I.hok.fresh (Nat.le_succ _)
  have I2 := Inv.made (C := C) I
  generalize hx : s.heap.objs.size + 1 = x at I2 n2
  generalize hd : s.heap.objs.size = dx at I2 n1
  have ne : x ≠ dx := by omega
  have n2' : (W.put dx (.own x)).H x = none := by show upd W.H dx _ x = none; rw [upd_ne ne]; exact n2
  have l1 : W.le (W.put dx (.own x)) := Wd.put_le n1
  have l2 : W.le (W.inst C dx x) := l1.trans (Wd.cel_le n2')
  have sr1 : SRep X.K (W.inst C dx x) (S ++ [.ins C [] []]) := (sr.put n1).cel n2' ⟨dx, [], upd_same, .inr rfl, rfl, repL_nil⟩
  have rself : Rep X.K (W.inst C dx x) (.cell S.length) (.ref x) := by
    simp only [Rep]
    refine ⟨x, rfl, ?_⟩
    show (W.N ++ [x])[S.length]? = some x
    rw [← sr.len, List.getElem?_append_right (Nat.le_refl _), Nat.sub_self]
    rfl
  have q := q dx x ne n1 n2 l2 rself
  unfold bnd at q
  split at q
  · rename_i hl
    obtain ⟨us', vs', b1, b2, b3⟩ := b.to { s with heap := (s.heap.push PySem.W.emptyDict).push (PySem.W.instObj C dx) } _ (.cell S.length :: ds) es (.ref x :: vs) zs (.ref x :: us) ws I2.kIn (repL_cons rself (rd.mono l2 _ _)) (re.mono l2 _ _) (.cons rfl rv) rz hl.1 hl.2
    have sp : spD X.K m ps.length vs' (W.inst C dx x).H (fun v H2 => v = .non ∧ Q (.ref x) H2) (fun c d H' => Wx c d σ H') := ⟨_, _, _, rfl, sr1, b3, b.len _ _ hl.1 hl.2, q⟩
    have R := F.run (X.A.under (.builtin "type.__call__" ⟨.ref C :: us, ks.zip ws⟩)) X.stack _ _ ⟨Value.ref x :: us, ks.zip ws⟩ us' vs' _ _ (mk_guards.trans gd) (hr.make C us (ks.zip ws)) (I2.env0.make C us (ks.zip ws)) b1 b2 sp
    subst hd hx
    refine wpAny_call (make_map (f := f) I.kIn M.makes M.init (beq_iff_eq.mp M.fn) (codeAny_mono R fun r s' hq => ?_))
    match r, hq with
    | .error e, hq => exact passAt tk σ pins _ _ e s' I2 hq
    | .ok (.ret u), hq =>
      obtain ⟨v, H', I3, rv, ev, q3⟩ := I2.after hq
      subst ev
      exact ⟨rv, ⟨V.ref (s.heap.objs.size + 1), H', I3, rfl, q3⟩⟩
    | .ok .next, hq => exact False.elim hq
    | .ok .brk, hq => exact False.elim hq
    | .ok .cont, hq => exact False.elim hq
  · exact q.elim
theorem cal_mkC (M : Mk X.K C f) (F : FnG X.prog X.w X.K X.mg X.base k f fd ps (spD X.K m ps.length)) (hr : Room (k + 1) X.A) (gd : X.A.guards = some []) (tk : Takes X Wx) (b : BD X.K fd ps ks (nP + 1) gD) : CalD X Wx (.ref C) ks (mkC C (bnd (nP + 1) ks.length gD m)) :=
  ⟨fun pins σ s W S ds es vs zs us ws Q I sr rd re rv rz q => mk_run M F hr gd tk b I sr rd re rv rz fun dx x ne n1 n2 l2 rself => by
    unfold mkC at q
    generalize bnd (nP + 1) ks.length gD m (.cell S.length :: ds) es (S ++ [.ins C [] []]) = r at q
    match r, q with
    | .ok .non S', q => exact fun W' v l s' r => ⟨by simpa [Rep] using r, q W' _ (l2.trans l) s' (Rep.mono l _ _ rself)⟩
    | .err e S', q => exact fun W' od l s' r => q W' od (l2.trans l) s' r⟩
theorem cal_mkF (M : Mk X.K C f) (F : FnG X.prog X.w X.K X.mg X.base k f fd ps (spD X.K m ps.length)) (hr : Room (k + 1) X.A) (gd : X.A.guards = some []) (tk : Takes X Wx) (b : BD X.K fd ps ks (nP + 1) gD) : CalD X Wx (.ref C) ks (mkF C (bnd (nP + 1) ks.length gD m)) :=
  ⟨fun pins σ s W S ds es vs zs us ws Q I sr rd re rv rz q => mk_run M F hr gd tk b I sr rd re rv rz fun dx x ne n1 n2 l2 rself => by
    unfold mkF at q
    generalize bnd (nP + 1) ks.length gD m (.cell S.length :: ds) es (S ++ [.ins C [] []]) = r at q
    match r, q with
    | .ok .non S', q =>
      intro W' v l s' r
      refine ⟨by simpa [Rep] using r, ?_⟩
      unfold frzI at q
      cases hS : S'[S.length]? with
      | none => simp only [hS] at q; exact q.elim
      | some c =>
        cases c <;> simp only [hS] at q <;> try exact q.elim
        split at q
        · rename_i C' ks' xs hc
          subst hc
          have hN : W'.N[S.length]? = some x := by
            have := Rep.mono l _ _ rself
            simp only [Rep] at this
            obtain ⟨a, e1, e2⟩ := this
            cases e1
            exact e2
          obtain ⟨dd, vs', h1, h2, h3, h4⟩ := s'.at_ _ _ _ hN hS
          have eH : upd W'.H x (.ins C' dd (ks'.zip vs')) = W'.H := funext fun y => by
            by_cases e : y = x
            · subst e; rw [upd_same, h1]
            · rw [upd_ne e]
          have l3 : W'.le (W'.wr x (.ins C' dd (ks'.zip vs')) False) := Wd.wr_le h2 (s'.nl hN)
          have nM : ¬ (W'.wr x (.ins C' dd (ks'.zip vs')) False).M x := fun z => z.2 rfl
          have r4 := RepL.mono l3 _ _ h4
          have Z := q (W'.wr x (.ins C' dd (ks'.zip vs')) False) (.ref x) ((l2.trans l).trans l3) (s'.wr hN h2 ⟨dd, vs', upd_same, nM, h3, r4⟩) (by
            simp only [Rep]
            exact ⟨x, dd, vs', rfl, upd_same, nM, h3, r4⟩)
          have e2 : (W'.wr x (.ins C' dd (ks'.zip vs')) False).H = W'.H := eH
          rw [e2] at Z
          exact Z
        · exact q.elim
    | .err e S', q => exact fun W' od l s' r => q W' od (l2.trans l) s' r⟩
end
end KF

set_option Elab.async false
set_option linter.all false
set_option maxRecDepth 100000
set_option maxHeartbeats 4000000
/-! KFN: repr of data. -/
namespace KF
open PySem PySem.Spec PyProof.Rows L2
mutual
/-- the data as it is shown; n: how deep at most -/
def rpD (S : Store) : Nat → D → Option PyData
  | _, .non => some .none
  | _, .bl b => some (.bool b)
  | _, .int i => some (.int i)
  | _, .str x => some (.str x)
  | n + 1, .tup xs => (rpDs S n xs).map .tuple
  | n + 1, .lst xs => (rpDs S n xs).map .list
  | n + 1, .scr xs => (rpDs S n xs).map .list
  | n + 1, .cell k => match S[k]? with
    | some (.lst xs) => (rpDs S n xs).map .list
    | some (.fro xs) => (rpDs S n xs).map .list
    | _ => none
  | _, _ => none
  termination_by n _ => (n, 0)
def rpDs (S : Store) : Nat → List D → Option (List PyData)
  | _, [] => some []
  | n, x :: xs => match rpD S n x, rpDs S n xs with
    | some d, some ds => some (d :: ds)
    | _, _ => none
  termination_by n xs => (n, xs.length + 1)
end
section
variable {P : Program} {w : World} {K : PySem.W.Frag} {W : Wd} {S : Store} {h : Heap}
theorem rpDs_reads {n : Nat} (ih : ∀ (d : D) (v : V) (u : Value) (p : PyData), rpD S n d = some p → Rep K W d v → RelV v u → (∃ as, Reads h u p as) ∧ p.depth ≤ n ∧ p.hasDict = false) :
    ∀ (ds : List D) (vs : List V) (us : List Value) (ps : List PyData), rpDs S n ds = some ps → RepL K W ds vs → Vals vs us → (∃ as, ReadsAll h us ps as) ∧ PyData.depthAll ps ≤ n ∧ PyData.hasDictAll ps = false
  | [], vs, us, ps, e, r, rv => by
    simp only [rpDs, Option.some.injEq] at e
    simp only [RepL] at r
    subst e r
    cases rv
    exact ⟨⟨_, .nil⟩, by simp [PyData.depthAll], by simp [PyData.hasDictAll]⟩
  | d :: ds, vs, us, ps, e, r, rv => by
    simp only [RepL] at r
    obtain ⟨v, vs', rfl, r1, r2⟩ := r
    cases rv with
    | cons a b =>
      simp only [rpDs] at e
      split at e
      · rename_i p ps' e1 e2
        cases e
        obtain ⟨⟨as, q1⟩, q2, q3⟩ := ih d v _ p e1 r1 a
        obtain ⟨⟨bs, z1⟩, z2, z3⟩ := rpDs_reads ih ds vs' _ ps' e2 r2 b
        exact ⟨⟨_, .cons q1 z1⟩, by simp only [PyData.depthAll]; omega, by simp only [PyData.hasDictAll, q3, z3, Bool.or_self]⟩
      · cases e
theorem rp_list {n : Nat} {x : Addr} {vs : List V} {xs : List D} {p : PyData} (hok : HOk P w W.H h) (KX : K.In h) (ih : ∀ (d : D) (v : V) (u : Value) (p : PyData), rpD S n d = some p → Rep K W d v → RelV v u → (∃ as, Reads h u p as) ∧ p.depth ≤ n ∧ p.hasDict = false)
    (e : (rpDs S n xs).map PyData.list = some p) (q : SqL K W.H x vs) (r : RepL K W xs vs) : (∃ as, Reads h (.ref x) p as) ∧ p.depth ≤ n + 1 ∧ p.hasDict = false := by
  cases e1 : rpDs S n xs with
  | none => rw [e1] at e; cases e
  | some ps =>
    rw [e1] at e
    cases e
    obtain ⟨its, o, k, hv, ho, hc, hd⟩ := sqL_at hok KX q
    obtain ⟨⟨as, z1⟩, z2, z3⟩ := rpDs_reads ih xs vs its ps e1 r hv
    exact ⟨⟨_, .list ho hc hd z1⟩, by simp only [PyData.depth]; omega, by simpa only [PyData.hasDict] using z3⟩
theorem rpD_reads (sr : SRep K W S) (hok : HOk P w W.H h) (KX : K.In h) : ∀ (n : Nat) (d : D) (v : V) (u : Value) (p : PyData), rpD S n d = some p → Rep K W d v → RelV v u → (∃ as, Reads h u p as) ∧ p.depth ≤ n ∧ p.hasDict = false := by
  intro n
  induction n with
  | zero =>
    intro d v u p e r rv
    cases d <;> simp only [rpD] at e <;> try cases e
    all_goals simp only [Rep] at r
    all_goals subst r
    · cases rv; exact ⟨⟨_, .none⟩, by simp [PyData.depth], by simp [PyData.hasDict]⟩
    · cases rv; exact ⟨⟨_, .bool _⟩, by simp [PyData.depth], by simp [PyData.hasDict]⟩
    · obtain ⟨t, rfl⟩ := rv; exact ⟨⟨_, .int _ _⟩, by simp [PyData.depth], by simp [PyData.hasDict]⟩
    · obtain ⟨t, rfl⟩ := rv; exact ⟨⟨_, .str _ _⟩, by simp [PyData.depth], by simp [PyData.hasDict]⟩
  | succ n ih =>
    intro d v u p e r rv
    cases d with
    | non => simp only [rpD] at e; cases e; simp only [Rep] at r; subst r; cases rv; exact ⟨⟨_, .none⟩, by simp [PyData.depth], by simp [PyData.hasDict]⟩
    | bl b => simp only [rpD] at e; cases e; simp only [Rep] at r; subst r; cases rv; exact ⟨⟨_, .bool _⟩, by simp [PyData.depth], by simp [PyData.hasDict]⟩
    | int i => simp only [rpD] at e; cases e; simp only [Rep] at r; subst r; obtain ⟨t, rfl⟩ := rv; exact ⟨⟨_, .int _ _⟩, by simp [PyData.depth], by simp [PyData.hasDict]⟩
    | str x => simp only [rpD] at e; cases e; simp only [Rep] at r; subst r; obtain ⟨t, rfl⟩ := rv; exact ⟨⟨_, .str _ _⟩, by simp [PyData.depth], by simp [PyData.hasDict]⟩
    | tup xs =>
      simp only [rpD] at e
      obtain ⟨a, vs, rfl, q, rl⟩ := asT_rep r (show asT (.tup xs) = some xs from rfl)
      cases rv
      cases e1 : rpDs S n xs with
      | none => rw [e1] at e; cases e
      | some ps =>
        rw [e1] at e
        cases e
        obtain ⟨its, o, k, hv, ho, hc, hd⟩ := sqT_at hok KX q
        obtain ⟨⟨as, z1⟩, z2, z3⟩ := rpDs_reads ih xs vs its ps e1 rl hv
        exact ⟨⟨_, .tuple ho hc hd z1⟩, by simp only [PyData.depth]; omega, by simpa only [PyData.hasDict] using z3⟩
    | lst xs =>
      simp only [rpD] at e
      obtain ⟨a, vs, rfl, q, rl⟩ := asL_rep sr r (show asL S (.lst xs) = some xs from rfl)
      cases rv
      exact rp_list hok KX ih e q rl
    | scr xs =>
      simp only [rpD] at e
      obtain ⟨a, vs, rfl, q, rl⟩ := asL_rep sr r (show asL S (.scr xs) = some xs from rfl)
      cases rv
      exact rp_list hok KX ih e q rl
    | cell k =>
      simp only [rpD] at e
      have : ∃ xs, asL S (.cell k) = some xs ∧ (rpDs S n xs).map PyData.list = some p := by
        simp only [asL]
        split at e
        · rename_i xs h; first | exact ⟨xs, rfl, e⟩ | (rw [h]; exact ⟨xs, rfl, e⟩)
        · rename_i xs h; first | exact ⟨xs, rfl, e⟩ | (rw [h]; exact ⟨xs, rfl, e⟩)
        · cases e
      obtain ⟨xs, e1, e2⟩ := this
      obtain ⟨a, vs, rfl, q, rl⟩ := asL_rep sr r e1
      cases rv
      exact rp_list hok KX ih e2 q rl
    | dct _ _ => simp [rpD] at e
    | ty _ => simp [rpD] at e
    | obj _ => simp [rpD] at e
    | ins _ _ _ => simp [rpD] at e
    | exn _ _ _ _ _ => simp [rpD] at e
/-- repr of such a value -/
theorem repr_data {A : Around} {E : Value → Shared → Prop} {s : Shared} {Q : Value → Shared → Prop} {u : Value} {p : PyData} {as : List Addr} (r : Reads s.heap u p as) (hd : p.hasDict = false) (hs : p.showable = true) (hg : A.guards = some []) (hu : A.units + p.depth + 2 < cLine) (hz : p.shown.length ≤ sizeLine)
    (hq : ∀ h' k t, (∀ b o, s.heap.get? b = some o → h'.get? b = some o) → Q (.str p.shown k) { s with heap := h', toks := t }) : wpAny (model P w) A (call (.builtin "repr") [u]) Q E s := by
  have hg1 : A.in1.guards = some [] := hg
  have u1 : A.in1.units = A.units + 1 := rfl
  cases r with
  | none => exact PySem.P.repr_of_none (by simpa [PyData.shown] using hq s.heap _ _ fun _ _ e => e)
  | bool b => exact PySem.P.repr_of_bool (by simpa [PyData.shown] using hq s.heap _ _ fun _ _ e => e)
  | int i t => exact PySem.P.repr_of_int (by simpa [PyData.showable] using hs) (by simpa [PyData.shown] using hq s.heap _ _ fun _ _ e => e)
  | str x t => exact PySem.P.repr_of_str (by simpa [PyData.shown] using hq s.heap _ _ fun _ _ e => e) (by simpa [PyData.shown] using hz)
  | @list a o vs n xs as h1 h2 h3 h4 =>
    simp only [PyData.shown] at hz hq
    simp only [PyData.depth] at hu
    simp only [PyData.showable] at hs
    simp only [PyData.hasDict] at hd
    obtain ⟨bs, hb, hk⟩ := ReprAllK.of_readsAll (prog := P) (w := w) h4 hs (fun z => by rw [hd] at z; cases z) fun t ht => Nat.le_trans (listText_mem_le ht) hz
    have nm : a ∉ bs := not_mem_of_deeper (Reads.list h1 h2 h3 h4) (n := PyData.depthAll xs) (by simp only [PyData.depth]; exact Nat.lt_succ_self _) hb
    refine call_repr_slot (by omega) ⟨o, h1, h2⟩ F.slot_list_repr.toG ?_
    obtain ⟨l⟩ := vs
    cases l with
    | nil =>
      have : xs = [] := by cases h4; rfl
      subst this
      refine call_list_repr_empty ⟨o, h1, h2⟩ h1 h3 ?_
      simp only [PyData.shownAll, listText_nil] at hq
      exact ⟨_, _, rfl, hq s.heap _ _ fun _ _ e => e⟩
    | cons y l => exact call_list_reprK h1 h2 h3 nm (by simpa using hk.length_eq) (fun i y e => hk.item i y (by simpa using e)) hg1 (fun b _ => Clear.nil b) (by omega) (fun _ _ e => e) (fun h' u t hk' => ⟨_, _, rfl, hq h' _ _ hk'⟩) hz
  | @tuple a o vs n xs as h1 h2 h3 h4 =>
    simp only [PyData.shown] at hz hq
    simp only [PyData.depth] at hu
    simp only [PyData.showable] at hs
    simp only [PyData.hasDict] at hd
    obtain ⟨bs, hb, hk⟩ := ReprAllK.of_readsAll (prog := P) (w := w) h4 hs (fun z => by rw [hd] at z; cases z) fun t ht => Nat.le_trans (tupleText_mem_le ht) hz
    have nm : a ∉ bs := not_mem_of_deeper (Reads.tuple h1 h2 h3 h4) (n := PyData.depthAll xs) (by simp only [PyData.depth]; exact Nat.lt_succ_self _) hb
    refine call_repr_slot (by omega) ⟨o, h1, h2⟩ F.slot_tuple_repr ?_
    exact call_tuple_reprK h1 h2 h3 nm hk hg1 (fun b _ => Clear.nil b) (by omega) (fun _ _ e => e) (fun h' u t hk' => ⟨_, _, rfl, hq h' _ _ hk'⟩) hz
  | dict h1 h2 h3 h4 h5 => simp [PyData.hasDict] at hd
end
def gRepr (x : D) (S : Store) : Option D := match rpD S 40 x with
  | some p => if p.showable = true ∧ p.shown.length ≤ sizeLine then some (.str p.shown) else none
  | none => none
theorem call_reprK {X : Cx} (gd : X.A.guards = some []) (hu : X.A.units + 64 < cLine) : CallD X (.builtin "repr") (g1 gRepr) := ⟨fun pins s σ H xs us Q I rv ⟨W, S, ds, d, S', eH, sr, rl, eg, q⟩ => by
  subst eH
  match ds, eg with
  | [], eg => cases eg
  | _ :: _ :: _, eg => cases eg
  | [x], eg =>
    unfold g1 gRepr at eg
    obtain ⟨v, rfl, rx⟩ := repL_1 rl
    obtain ⟨u, rfl, ru⟩ : ∃ u, us = [u] ∧ RelV v u := by
      cases rv with
      | cons h1 h2 => cases h2; exact ⟨_, rfl, h1⟩
    cases e1 : rpD S 40 x with
    | none => simp only [e1] at eg; cases eg
    | some p =>
      simp only [e1] at eg
      split at eg
      · rename_i hp
        simp only [Option.map_some, Option.some.injEq, Prod.mk.injEq] at eg
        obtain ⟨rfl, rfl⟩ := eg
        obtain ⟨⟨as, q1⟩, q2, q3⟩ := rpD_reads sr I.hok I.kIn 40 x v u p e1 rx ru
        refine repr_data q1 q3 hp.1 gd (by omega) hp.2 fun h' k t hk => ?_
        exact ⟨.str p.shown, W.H, I.kept (t' := t) hk, ⟨_, rfl⟩, q W _ (.refl W) sr rep_sI⟩
      · cases eg⟩
end KF

set_option Elab.async false
set_option linter.all false
set_option maxRecDepth 100000
set_option maxHeartbeats 4000000
/-! KFO: the law's row from the denotation of its def. -/
namespace KF
open PySem PySem.Spec PyProof.Rows L2
/-- what the law's def does at each script -/
def LawTrue (m : List D → Store → Res D) (n : Nat) : Prop := ∀ ns : List Int, ns.length ≤ n → ∃ S, m [.scr (ns.map D.int)] [] = .ok (.bl true) S
theorem rep_ints {K : PySem.W.Frag} {W : Wd} : ∀ ns : List Int, RepL K W (ns.map D.int) (ns.map V.int)
  | [] => repL_nil
  | n :: ns => repL_cons rep_iI (rep_ints ns)
section
variable {P : Program} {w : World} {K : PySem.W.Frag} {mg mb : Str → Option Value} {k : Nat} {fa p : Addr} {fd : FuncData} {x : Str} {m : List D → Store → Res D} {t : Shared} {us : List Value} {ns : List Int} {n : Nat}
def RowEnd (t : Shared) : Result → Shared → Prop := fun r t' => r = .ok (.ret (.bool true)) ∧ OldK t.heap t'.heap ∧ t'.os = t.os ∧ AllBare t'.gens
/-- a heap in which the script may be tracked, and nothing else -/
structure Scr (P : Program) (w : World) (K : PySem.W.Frag) (t : Shared) (p : Addr) (ns : List Int) (B : Hp) : Prop where
  sq : SqL K B p (ns.map V.int)
  ok : HOk P w B t.heap
  only : ∀ b u, B b = some u → b = p ∧ K.lookup p = none ∧ ∃ o xs, u = .frz o (.lst xs)
theorem Scr.no {B : Hp} (sc : Scr P w K t p ns B) (hp : t.heap.get? p = some { cls := .type "list", data := .seq us.toArray }) {b : Addr} {o : Obj} (e : t.heap.get? b = some o) (h : ∀ vs n, o.data ≠ .seq vs n) : B b = none := by
  match q : B b with
  | none => rfl
  | some u =>
    obtain ⟨rfl, _, _⟩ := sc.only b u q
    rw [hp] at e
    cases e
    exact (h _ _ rfl).elim
theorem Scr.names {B : Hp} (sc : Scr P w K t p ns B) (hp : t.heap.get? p = some { cls := .type "list", data := .seq us.toArray }) {b : Addr} {mm : Str → Option Value} (q : t.heap.Ns b mm) : (hidT t.heap B).Ns b mm := by
  obtain ⟨o, es, ep, e, d, r⟩ := q
  exact ⟨o, es, ep, hidT_get e (sc.no hp e fun vs n z => by rw [d] at z; cases z), d, r⟩
theorem Scr.kin {B : Hp} (sc : Scr P w K t p ns B) (KX : K.In t.heap) : K.In (hidT t.heap B) := fun b o e => by
  refine hidT_get (KX b o e) ?_
  match q : B b with
  | none => rfl
  | some u =>
    obtain ⟨rfl, z, _⟩ := sc.only b u q
    rw [z] at e
    cases e
theorem row_at {B : Hp} (sc : Scr P w K t p ns B) (hp : t.heap.get? p = some { cls := .type "list", data := .seq us.toArray }) (KX : K.In t.heap) (h1 : t.heap.Ns mainGlobals mg) (h2 : t.heap.Ns builtinsNs mb) (h3 : ∀ y : Str, y ≠ "__name__" → mb y = bootBuiltins y) (h4 : t.heap.NoLimit) (h5 : t.gens = #[])
    (room : Room k callerA) (F : ∀ base : Heap, K.In base → base.Ns mainGlobals mg → FnG P w K mg base k fa fd [x] (spD K m 1)) (bd : ∀ (s : Shared) (u : Value), BindsTo s fd ⟨[u], []⟩ [(x, u)]) (tr : LawTrue m n) (hl : ns.length ≤ n) :
    codeAny (model P w) callerA (.call (.ref fa) ⟨[.ref p], []⟩) (RowEnd t) t := by
  obtain ⟨lm, l1, l2⟩ := h4
  have kb := sc.kin KX
  have nb := sc.names hp h1
  have e0 : Env0 P w K mg (hidT t.heap B) callerA [] t B :=
    ⟨rfl, ⟨kb, nb, ⟨mb, sc.names hp h2, h3⟩, ⟨lm, sc.names hp l1, l2⟩⟩, fun b o e => of_hidT e, Nat.le_of_eq (hidT_size _ _), trivial, fun b z => absurd (show b ∈ ([] : List Addr) from z) (by simp), sc.ok, .of_eq h5⟩
  obtain ⟨S, e⟩ := tr ns hl
  have sr : SRep K ⟨[], fun _ => False, fun _ => False, B⟩ [] := ⟨rfl, .nil, fun a z => absurd z (by simp), fun a z => z.elim, fun a z => z.elim, fun i a c z => by simp at z⟩
  have rl : RepL K ⟨[], fun _ => False, fun _ => False, B⟩ [.scr (ns.map D.int)] [.ref p] := by
    refine repL_cons ?_ repL_nil
    simp only [Rep]
    refine ⟨p, ns.map V.int, rfl, ?_, rep_ints ns⟩
    rcases sc.sq with z | ⟨o, its, n', q1, q2, q3, q4, q5, q6⟩
    · exact .inl ⟨z, fun z => z⟩
    · exact .inr ⟨o, its, n', q1, q2, q3, q4, q5, q6⟩
  have sp : spD K m 1 [V.ref p] B (fun v _ => v = .bl true) E0 := ⟨_, _, [], rfl, sr, rl, rfl, by
    rw [e]
    intro W' v l s r
    simpa [Rep] using r⟩
  refine codeAny_mono ((F _ kb nb).run callerA [] t B ⟨[.ref p], []⟩ [.ref p] [.ref p] _ _ rfl room e0 (bd t (.ref p)) (.cons rfl .nil) sp) fun r t' z => ?_
  match r, z with
  | .error e, z => exact (cx_no z).elim
  | .ok .next, z => exact z.elim
  | .ok .brk, z => exact z.elim
  | .ok .cont, z => exact z.elim
  | .ok (.ret u), ⟨v, B', os, bare, un, ok', r', q⟩ =>
    obtain rfl : v = .bl true := q
    obtain rfl : u = Value.bool true := r'
    refine ⟨rfl, OldK.of_keep fun b o e => ?_, os, bare⟩
    match q : B b with
    | none => exact un.keep b o e q (fun z => absurd (show b ∈ ([] : List Addr) from z) (by simp)) (by simp)
    | some u =>
      obtain ⟨rfl, _, ob, xs, rfl⟩ := sc.only b u q
      have c1 := (sc.ok b _ q).1
      have c2 := (ok' b _ (un.frzs b ob _ q)).1
      rw [e] at c1
      cases c1
      exact c2
theorem row_call (hp : t.heap.get? p = some { cls := .type "list", data := .seq us.toArray }) (hi : IntsAre us ns) (hz : n ≤ sizeLine) (KX : K.In t.heap) (h1 : t.heap.Ns mainGlobals mg) (h2 : t.heap.Ns builtinsNs mb) (h3 : ∀ y : Str, y ≠ "__name__" → mb y = bootBuiltins y) (h4 : t.heap.NoLimit) (h5 : t.gens = #[])
    (room : Room k callerA) (F : ∀ base : Heap, K.In base → base.Ns mainGlobals mg → FnG P w K mg base k fa fd [x] (spD K m 1)) (bd : ∀ (s : Shared) (u : Value), BindsTo s fd ⟨[u], []⟩ [(x, u)]) (tr : LawTrue m n) (hl : ns.length ≤ n) :
    codeAny (model P w) callerA (.call (.ref fa) ⟨[.ref p], []⟩) (RowEnd t) t := by
  have rv : Vals (ns.map V.int) us := vals_ints hi
  have lz : ns.length ≤ sizeLine := Nat.le_trans hl hz
  match hk : K.lookup p with
  | some o =>
    have e := KX p o hk
    rw [hp] at e
    cases e
    have sz : us.toArray.size ≤ sizeLine := by rw [List.size_toArray, hi.length]; exact lz
    exact row_at (B := fun _ => none) ⟨.inr ⟨_, us.toArray, _, hk, rfl, rfl, rfl, sz, rv⟩, fun b u z => absurd z (by simp), fun b u z => absurd z (by simp)⟩ hp KX h1 h2 h3 h4 h5 room F bd tr hl
  | none =>
    have at_ : ∀ {b : Addr} {u : HO}, (if b = p then some (HO.frz { cls := .type "list", data := .seq us.toArray } (.lst (ns.map V.int))) else none) = some u → b = p ∧ u = HO.frz { cls := .type "list", data := .seq us.toArray } (.lst (ns.map V.int)) := fun {b u} z => by
      split at z
      · rename_i e
        cases z
        exact ⟨e, rfl⟩
      · cases z
    refine row_at (B := fun b => if b = p then some (HO.frz { cls := .type "list", data := .seq us.toArray } (.lst (ns.map V.int))) else none) ⟨.inl (.inr ⟨_, if_pos rfl⟩), fun b u z => ?_, fun b u z => ?_⟩ hp KX h1 h2 h3 h4 h5 room F bd tr hl
    · obtain ⟨rfl, rfl⟩ := at_ z
      exact ⟨hp, by rw [List.length_map]; exact lz, us, _, rv, hp⟩
    · obtain ⟨rfl, rfl⟩ := at_ z
      exact ⟨rfl, hk, _, _, rfl⟩
end
/-- the goal that k_head leaves -/
theorem walkG {l : PySem.W.OpenLaw} {n k : Nat} {q : Program} {loose : List Str} {XP : (Str → Option Value) → Heap → Prop} {YP : World → Heap → Prop} {d : DefRec} {K : Params → PySem.W.Frag} {x : Str} (hn : l.most = some n) (hz : n ≤ sizeLine) (hdf : d.params.defaults = []) (room : Room k callerA)
    (hY : ∀ (w : World) (h : Heap), YP w h → (K w.params).In h)
    (F : ∀ (w : World) (mg : Str → Option Value) (fa : Addr) (h : Heap), (K w.params).In h → h.Ns mainGlobals mg → mg d.name = some (.ref fa) →
      ∃ (fd : FuncData) (m : List D → Store → Res D), LawTrue m n ∧ (∀ (s : Shared) (u : Value), BindsTo s fd ⟨[u], []⟩ [(x, u)]) ∧ ∀ base : Heap, (K w.params).In base → base.Ns mainGlobals mg → FnG l.prog w (K w.params) mg base k fa fd [x] (spD (K w.params) m 1)) :
    PySem.W.WalkO q loose XP YP l.row.toRowW d [] (fun f vs => PySem.call f vs) := by
  refine Att.attach_call hn hdf fun w s0 t mg mb fa o pm cd doc p us ns G Y ho hd hcd hmg hp hi hl hg => ?_
  have KX := hY w _ Y
  obtain ⟨fd, m, tr, bd, FF⟩ := F w mg fa _ KX G.T.g hmg
  exact row_call hp hi hz KX G.T.g G.T.b G.T.builtins G.T.nolimit hg room FF bd tr hl
end KF

set_option Elab.async false
set_option linter.all false
set_option maxRecDepth 100000
set_option maxHeartbeats 4000000
/-! KFP: enumerate of a tuple or a list. -/
namespace KF
open PySem PySem.Spec PyProof.Rows L2
theorem meets_enum1 {v : Value} {o : Obj} {HH : Heap → Prop} (B : Begins v o HH) :
    Meets (Builtin.«enumerate.__new__» ⟨[.type "enumerate", v], []⟩) (fun _ R s => HH s.heap ∧
      R (.ok (.ret (.ref (s.heap.push o).objs.size))) { s with heap := (s.heap.push o).push { cls := .type "enumerate", data := .fields #[.none, .bool false, .ref s.heap.objs.size, rawInt 0, .none, .none] } }) :=
  .of_wp fun prog w A R s z => by
    obtain ⟨hp, g, d, tk, os⟩ := s; obtain ⟨z1, z⟩ := z
    have hsub := sub_enumerate
    have go : ∀ {A' : Around} {E : Value → Shared → Prop} {Q : Value → Shared → Prop}, Q (.ref hp.objs.size) ⟨hp.push o, g, d, tk, os⟩ → wpAny (model prog w) A' (pyIter v) Q E ⟨hp, g, d, tk, os⟩ :=
      fun q => B.iter prog w _ _ ⟨hp, g, d, tk, os⟩ _ z1 q
    wp_walk using go
    refine wpAny_stack_any fun st => wpAny_pure ?_
    split
    · rename_i c _ _ _ _ _
      cases (c == Value.type "enumerate")
      all_goals wp_walk using go; exact ⟨_, rfl, z⟩
    · wp_walk using go
      exact ⟨_, rfl, z⟩
theorem call_enum1 {prog : Program} {w : World} {A : Around} {E : Value → Shared → Prop} {s : Shared} {v : Value} {o : Obj} {HH : Heap → Prop} {Q : Value → Shared → Prop} (B : Begins v o HH) (z1 : HH s.heap)
    (z : ∀ h', IsEnum h' (s.heap.objs.size + 1) s.heap.objs.size 0 .none → h'.get? s.heap.objs.size = some o → (∀ b o, s.heap.get? b = some o → h'.get? b = some o) → Q (.ref (s.heap.objs.size + 1)) { s with heap := h' }) :
    wpAny (model prog w) A (call (.type "enumerate") [v]) Q E s := by
  refine callType_new F.called_enumerate (by decide) (F.typeCall_enumerate_1 _) (F.newCall_enumerate_1 _) (fun obj => F.args_object_init_2 obj _) F.entry_enumerate_new (meets_enum1 B) ⟨z1, ?_⟩
  have sz : (s.heap.push o).objs.size = s.heap.objs.size + 1 := Heap.size_push ..
  show _ ∧ _
  rw [sz]
  have he : IsEnum ((s.heap.push o).push { cls := .type "enumerate", data := .fields #[.none, .bool false, .ref s.heap.objs.size, rawInt 0, .none, .none] }) (s.heap.objs.size + 1) s.heap.objs.size 0 .none := by
    have t := Heap.get?_push_size (s.heap.push o) (o := { cls := .type "enumerate", data := .fields #[.none, .bool false, .ref s.heap.objs.size, rawInt 0, .none, .none] }) rfl
    rw [sz] at t
    exact t
  exact ⟨⟨_, he, rfl⟩, z _ he (Heap.get?_push_of_some _ (Heap.get?_push_size _ B.free)) fun b o x => Heap.get?_push_of_some _ (Heap.get?_push_of_some _ x)⟩
/-! ### a tuple (true) or a list (false) -/
def SqB (t : Bool) (K : PySem.W.Frag) (H : Hp) (a : Addr) (xs : List V) : Prop := match t with
  | true => SqT K H a xs
  | false => SqL K H a xs
def itrO (t : Bool) (h : Heap) (it a : Addr) (i : Nat) : Prop := match t with
  | true => h.IsTupleIter it a i
  | false => h.IsListIter it a i
def seqB (t : Bool) (h : Heap) (a : Addr) (xs : Array Value) : Prop := match t with
  | true => h.IsTuple a xs
  | false => h.IsList a xs
abbrev itObj (t : Bool) (a : Addr) : Obj := { cls := .type (if t = true then "tuple_iterator" else "list_iterator"), data := .fields #[.ref a, .int 0 0] }
theorem itrO_ob {t : Bool} {h : Heap} {it a : Addr} {i : Nat} (x : itrO t h it a i) : ∃ o, h.get? it = some o ∧ ∀ v, o.data ≠ .cell v := by
  cases t
  · obtain ⟨o, e, _, d⟩ := (show h.IsListIter it a i from x); exact ⟨o, e, fun v q => by rw [d] at q; cases q⟩
  · obtain ⟨o, e, _, d⟩ := (show h.IsTupleIter it a i from x); exact ⟨o, e, fun v q => by rw [d] at q; cases q⟩
theorem itrO_at {t : Bool} {h h' : Heap} {it a : Addr} {i : Nat} (x : itrO t h it a i) (k : ∀ o, h.get? it = some o → h'.get? it = some o) : itrO t h' it a i := by
  cases t
  · exact Heap.IsListIter.at (show h.IsListIter it a i from x) k
  · exact Heap.IsTupleIter.at (show h.IsTupleIter it a i from x) k
theorem itrO_new {t : Bool} {h : Heap} {it a : Addr} (e : h.get? it = some (itObj t a)) : itrO t h it a 0 := by
  cases t
  · exact (⟨_, e, rfl, rfl⟩ : h.IsListIter it a 0)
  · exact (⟨_, e, rfl, rfl⟩ : h.IsTupleIter it a 0)
theorem drawsB {P : Program} {w : World} {A : Around} {t : Bool} (hh : A.handled = none) (it l : Addr) (hne : l ≠ it) (items : Array Value) : Draws P w A it [it, l] items.size (fun i v => items[i]? = some v) (fun i h => itrO t h it l i ∧ seqB t h l items) := by
  cases t
  · exact Draws.list hh it l hne items
  · exact Draws.tuple hh it l hne items
theorem beginsB {t : Bool} (l : Addr) (items : Array Value) : Begins (.ref l) (itObj t l) fun h => seqB t h l items := by
  cases t
  · exact begins_list l items
  · exact begins_tuple l items
section
variable {X : Cx} {pins : List (Addr × Obj)} {σ : St} {H : Hp} {s : Shared} {t t1 t2 : Bool} {a b : Addr} {xs ys : List V}
theorem sqB_at (I : Inv X pins σ H s) (h : SqB t X.K H a xs) : ∃ its : List Value, Vals xs its ∧ seqB t s.heap a its.toArray ∧ a < s.heap.objs.size := by
  cases t
  · obtain ⟨its, rv, p, _⟩ := I.list (show SqL X.K H a xs from h)
    exact ⟨its, rv, p.isList, p.lt⟩
  · obtain ⟨its, rv, p, _⟩ := I.tuple (show SqT X.K H a xs from h)
    have p' : s.heap.IsTuple a its.toArray := p
    obtain ⟨o, ho, _⟩ := id p'
    exact ⟨its, rv, p', Heap.lt_size ho⟩
theorem sqB_inj (I : Inv X pins σ H s) (h : SqB t X.K H a xs) (h' : SqB t X.K H a ys) : xs = ys := by
  cases t
  · exact I.list_inj (show SqL X.K H a xs from h) h'
  · exact I.tuple_inj (show SqT X.K H a xs from h) h'
end
/-- the sequence at a holds xs; each turn gives a new pair -/
def IteG (K : PySem.W.Frag) (t : Bool) (a : Addr) (xs : List V) : It :=
  ⟨fun i H => SqB t K H a xs ∧ i < xs.length, fun i H v H' => ∃ (T : Addr) (o : Obj) (x : V), xs[i]? = some x ∧ v = .ref T ∧ H T = none ∧ o.dict = none ∧ H' = upd H T (.frz o (.tup [.int (i : Nat), x])), fun i H => SqB t K H a xs ∧ i = xs.length⟩
theorem turn_enumG {P : Program} {w : World} {K : PySem.W.Frag} {elts : List Expr} {kk : Nat} {tpos : Pos} {t : Bool} {xs : List V} (a e it : Addr) :
    Turn P w K (.Tuple elts kk tpos) (IteG K t a xs) [e, it] e (fun i h => (∃ old, IsEnum h e it ((i : Nat) : Int) old) ∧ itrO t h it a i ∧ e ≠ it) where
  mem := by simp
  obj := fun i h st b hb => by
    obtain ⟨⟨old, he⟩, hi, _⟩ := st
    rcases (show b = e ∨ b = it by simpa using hb) with rfl | rfl
    · exact ⟨_, he, fun v q => nomatch q⟩
    · exact itrO_ob hi
  keep := fun i h h' ⟨⟨old, he⟩, hi, hne⟩ k => ⟨⟨old, k e (by simp) _ he⟩, itrO_at hi fun o q => k it (by simp) o q, hne⟩
  item := by
    rintro X rfl rfl rfl hc i pins s σ H E I hf ⟨⟨old, he⟩, hit, hne⟩ ⟨hq, hx⟩
    obtain ⟨its, rv, p, la⟩ := sqB_at I hq
    have hel : e < s.heap.objs.size := Heap.lt_size he
    have hil : it < s.heap.objs.size := by obtain ⟨_, q, _⟩ := itrO_ob hit; exact Heap.lt_size q
    have hai : a ≠ it := fun z => by
      subst z
      cases t
      · obtain ⟨o', q, c', _⟩ := (show s.heap.IsListIter a a i from hit)
        obtain ⟨o, q2, c2, _⟩ := (show s.heap.IsList a its.toArray from p)
        rw [q] at q2; cases q2; rw [c'] at c2; simp at c2
      · obtain ⟨o', q, c', _⟩ := (show s.heap.IsTupleIter a a i from hit)
        obtain ⟨o, q2, c2, _⟩ := (show s.heap.IsTuple a its.toArray from p)
        rw [q] at q2; cases q2; rw [c'] at c2; simp at c2
    have hae : e ≠ a := fun z => by
      subst z
      have he' : s.heap.get? e = some _ := he
      cases t
      · obtain ⟨o, q2, c2, _⟩ := (show s.heap.IsList e its.toArray from p)
        rw [he'] at q2; cases q2; simp at c2
      · obtain ⟨o, q2, c2, _⟩ := (show s.heap.IsTuple e its.toArray from p)
        rw [he'] at q2; cases q2; simp at c2
    refine wpAny_pyNext_enum_itemC (drawsB (A := X.A.in1) (I.ok.hd hc) it a hai its.toArray) he ⟨hit, p⟩ (by simpa [← rv.length] using hx) hne (by simpa using ⟨hne, hae⟩) fun u h' tk hu ho' st' hT hsz hk => ?_
    refine ⟨_, rfl, wpAny_letOwnedTupleGo_enum (s := { s with heap := h', toks := tk + 1 }) ho' fun h'' he' sb => ?_⟩
    have hu' : its[i]? = some u := by simpa using hu
    obtain ⟨x, hxi, ru⟩ : ∃ x, xs[i]? = some x ∧ RelV x u := by
      obtain ⟨u2, h1, h2⟩ := rv.get (List.getElem?_eq_getElem hx)
      rw [hu'] at h1
      cases h1
      exact ⟨_, List.getElem?_eq_getElem hx, h2⟩
    have hT2 : h''.get? s.heap.objs.size = some { cls := .type "tuple", data := .seq #[.int i tk, u] } := (sb.2 _ (Nat.ne_of_gt hel)).trans hT
    have new : ObjOk X.prog X.w (upd H s.heap.objs.size (.frz { cls := .type "tuple", data := .seq #[.int i tk, u] } (.tup [.int (i : Nat), x]))) h'' s.heap.objs.size (.frz { cls := .type "tuple", data := .seq #[.int i tk, u] } (.tup [.int (i : Nat), x])) :=
      ⟨hT2, by show 2 ≤ sizeLine; decide, [.int i tk, u], .cons ⟨_, rfl⟩ (.cons ru .nil), ⟨_, hT2, rfl, _, rfl⟩⟩
    have I1 : Inv X pins σ (upd H s.heap.objs.size (.frz { cls := .type "tuple", data := .seq #[.int i tk, u] } (.tup [.int (i : Nat), x]))) { s with heap := h'', toks := tk + 1 } :=
      I.turnedNew (ch := [e, it]) (fun b ob hb q => (sb.2 b (fun z => hb (by simp [z]))).trans (hk b ob (fun z => hb (by simp [z])) (fun z => hb (by simp [z])) q)) hf (Nat.le_refl _) new
    refine ⟨.ref s.heap.objs.size, _, I1, rfl, ⟨_, _, x, hxi, rfl, I.hok.fresh (Nat.le_refl _), rfl, rfl⟩, ⟨⟨u, ?_⟩, itrO_at st'.1 fun o q => (sb.2 it (Ne.symm hne)).trans q, hne⟩, fun b hb => ?_⟩
    · rw [show ((i + 1 : Nat) : Int) = (i : Int) + 1 by omega]
      exact he'
    · have hb' : b < s.heap.objs.size := by
        rcases (show b = e ∨ b = it by simpa using hb) with rfl | rfl
        · exact hel
        · exact hil
      rw [upd_ne (Nat.ne_of_lt hb')]
      exact (hf b hb).1
  done := by
    rintro X rfl rfl rfl hc i pins s σ H E I hf ⟨⟨old, he⟩, hit, hne⟩ ⟨hq, hx⟩
    obtain ⟨its, rv, p, la⟩ := sqB_at I hq
    obtain ⟨f0, f1, f2, f3, f4, f5⟩ := hf it (by simp)
    have hai : a ≠ it := fun z => by
      subst z
      cases t
      · obtain ⟨o', q, c', _⟩ := (show s.heap.IsListIter a a i from hit)
        obtain ⟨o, q2, c2, _⟩ := (show s.heap.IsList a its.toArray from p)
        rw [q] at q2; cases q2; rw [c'] at c2; simp at c2
      · obtain ⟨o', q, c', _⟩ := (show s.heap.IsTupleIter a a i from hit)
        obtain ⟨o, q2, c2, _⟩ := (show s.heap.IsTuple a its.toArray from p)
        rw [q] at q2; cases q2; rw [c'] at c2; simp at c2
    subst hx
    have hn : its.toArray.size = xs.length := by rw [List.size_toArray, rv.length]
    exact wpAny_pyNext_enum_endD (drawsB (A := X.A.in1) (I.ok.hd hc) it a hai its.toArray) he (by rw [hn]; exact ⟨hit, p⟩) fun h' eb => ⟨rfl, I.turned (t' := s.toks) (fun b o hb q => eb b o hb q) f0 f1 f3 f4 f5⟩
  self := fun A i s Q E ⟨⟨_, he⟩, _⟩ h => wpAny_pyIter_enum he h
def iEnumG (K : PySem.W.Frag) (ta : TA) : TI := fun σ H R => ta σ H fun vs H1 => ∃ a xs t, vs = [.ref a] ∧ SqB t K H1 a xs ∧ R (IteG K t a xs) H1
theorem pi_enumG {X : Cx} {e : Expr} {ta : TA} {p pos tpos : Pos} {elts : List Expr} {kk : Nat} (hg : Gl X "enumerate") (hm : X.mg "enumerate" = none) (ha : PA X [e] ta) (hs : starEach [e] X.env = [(false, eval e X.env)] := by rfl) :
    PI X (.Tuple elts kk tpos) (.Call (.Name "enumerate" p) [e] [] pos) (iEnumG X.K ta) := ⟨fun pins s σ H R I h => by
  refine Call_ (ld_blt I hg hm boot_enumerate (PyProof.Rows.callWith_type1 (thn (ha.run pos pins s σ H _ I h) ?_) hs rfl))
  rintro us s1 ⟨vs, H1, I1, r1, a, xs, t, rfl, hq, q⟩
  obtain ⟨u, rfl, ru⟩ : ∃ u, us = [u] ∧ RelV (.ref a) u := by
    cases r1 with
    | cons h1 h2 => cases h2; exact ⟨_, rfl, h1⟩
  obtain rfl : u = Value.ref a := ru
  obtain ⟨its, rv, p, la⟩ := sqB_at I1 hq
  refine call_enum1 (beginsB a its.toArray) p fun h' he hit hk => wpAny_pyIter_enum he ?_
  have I2 : Inv X pins σ H1 { s1 with heap := h' } := I1.kept (t' := s1.toks) hk
  refine ⟨s1.heap.objs.size + 1, [s1.heap.objs.size + 1, s1.heap.objs.size], _, _, H1, rfl, I2, turn_enumG a (s1.heap.objs.size + 1) s1.heap.objs.size, ⟨⟨.none, he⟩, itrO_new hit, Nat.succ_ne_self _⟩, fun b hb => ?_, q⟩
  have hle : s1.heap.objs.size ≤ b := by
    rcases (show b = s1.heap.objs.size + 1 ∨ b = s1.heap.objs.size by simpa using hb) with rfl | rfl
    · exact Nat.le_add_right _ _
    · exact Nat.le_refl _
  exact I1.fpOk hle (I1.hok.fresh hle)⟩
/-- a new pair, its object known -/
def YPairF (xs ys : Nat → Option V) : Nat → Hp → V → Hp → Prop := fun i H v H' => ∃ (T : Addr) (o : Obj) (x y : V), v = .ref T ∧ H T = none ∧ o.dict = none ∧ H' = upd H T (.frz o (.tup [x, y])) ∧ xs i = some x ∧ ys i = some y
theorem walk_enumG {K : PySem.W.Frag} {t : Bool} {a : Addr} {xs : List V} : Walk (IteG K t a xs) xs.length (fun H => SqB t K H a xs) (YPairF (fun i => some (.int (i : Nat))) (fun i => xs[i]?)) :=
  ⟨fun i _ hi q => ⟨q, hi⟩, fun _ q => ⟨q, rfl⟩, fun i H v H' _ _ ⟨T, o, x, h0, h1, h2, hd, h3⟩ => ⟨T, o, .int (i : Nat), x, h1, h2, hd, h3, rfl, h0⟩⟩
/-! ### the data -/
def numD : Nat → List D → List D
  | _, [] => []
  | k, x :: xs => .tup [.int k, x] :: numD (k + 1) xs
theorem numD_len : ∀ (k : Nat) (xs : List D), (numD k xs).length = xs.length
  | _, [] => rfl
  | k, x :: xs => by simp [numD, numD_len (k + 1) xs]
theorem numD_get : ∀ (k : Nat) (xs : List D) (i : Nat), (numD k xs)[i]? = xs[i]?.map fun x => .tup [.int (k + i : Nat), x]
  | _, [], i => by simp [numD]
  | k, x :: xs, 0 => by simp [numD]
  | k, x :: xs, i + 1 => by
    simp only [numD, List.getElem?_cons_succ, numD_get (k + 1) xs i]
    rw [show k + 1 + i = k + (i + 1) by omega]
def seqN (d : D) (S : Store) : Res (List D) := match d with
  | .str _ => .bad
  | d => seqOf d S
def enumE (m : EM D) : EM (List D) := fun st S => (m st S).bind fun d S1 => (seqN d S1).bind fun xs S2 => .ok (numD 0 xs) S2
theorem wk_pairs {K : PySem.W.Frag} {W1 : Wd} {J : It} {vs : List V} {ds : List D} {G : Hp → Prop} (w : Walk J vs.length G (YPairF (fun i => some (.int (i : Nat))) (fun i => vs[i]?))) (hq : ∀ W2, W1.ev W2 → G W2.H) (r : RepL K W1 ds vs) : Wk K W1 J (numD 0 ds) := by
  refine ⟨G, _, by rw [numD_len, r.length]; exact w, hq, fun W2 S2 i x H' d l s e y => ?_⟩
  obtain ⟨T, o, a, b, rfl, hT, ho, rfl, ea, eb⟩ := y
  cases ea
  rw [numD_get] at e
  cases hd : ds[i]? with
  | none => rw [hd] at e; cases e
  | some z =>
    rw [hd] at e
    simp only [Option.map_some, Nat.zero_add, Option.some.injEq] at e
    subst e
    obtain ⟨v, h1, h2⟩ := r.get hd
    have h1' : vs[i]? = some b := eb
    rw [h1] at h1'
    cases h1'
    have l3 : W2.le (W2.put T (.frz o (.tup [.int (i : Nat), b]))) := Wd.put_le hT
    refine ⟨W2.put T (.frz o (.tup [.int (i : Nat), b])), rfl, l3, s.put hT, ?_⟩
    simp only [Rep]
    exact ⟨T, _, rfl, .inl ⟨⟨o, upd_same, ho⟩, s.noM hT⟩, repL_cons rep_iI (repL_cons ((h2.monoE l _ _).mono l3 _ _) repL_nil)⟩
theorem di_enum {X : Cx} {Wx : WX} {e : Expr} {me : EM D} {p pos tpos : Pos} {elts : List Expr} {kk : Nat} (hg : Gl X "enumerate") (hm : X.mg "enumerate" = none) (h : DE X Wx e me) (hs : starEach [e] X.env = [(false, eval e X.env)] := by rfl) :
    DI X Wx (.Tuple elts kk tpos) (.Call (.Name "enumerate" p) [e] [] pos) (enumE me) := by
  refine di_of (pi_enumG hg hm (pa_cons h.p pa_nil hs) hs) fun W st S σ R at_ q => ?_
  refine goI at_ q fun W1 d0 S0 v e0 l a1 r q1 => ?_
  by_cases ht : ∃ ys, d0 = .tup ys
  · obtain ⟨ys, rfl⟩ := ht
    simp only [Rep] at r
    obtain ⟨p, vs, rfl, q2, r2⟩ := r
    exact ⟨p, vs, true, rfl, q2.sq, q1 W1 _ (.refl W1) a1 (wk_pairs walk_enumG (fun W2 l2 => (q2.monoE l2).sq) r2)⟩
  · cases hq : seqN d0 S0 with
    | bad => rw [hq] at q1; exact q1.elim
    | err x S2 =>
      exfalso
      cases d0 <;> simp only [seqN, seqOf] at hq <;> try cases hq
      split at hq <;> cases hq
    | ok xs S2 =>
      rw [hq] at q1
      have hs : ∀ z, d0 ≠ .str z := fun z e => by subst e; simp [seqN] at hq
      have hq' : seqOf d0 S0 = .ok xs S2 := by
        cases d0 <;> first | exact hq | exact absurd rfl (hs _)
      obtain ⟨W', p, vs, l', hH, a', rfl, hl, rl⟩ := fro_at a1 r hq' (fun ys e => ht ⟨ys, e⟩) hs
      refine ⟨p, vs, false, rfl, by rw [← hH]; exact hl W' (Wd.le.refl W').toev, ?_⟩
      rw [← hH]
      exact q1 W' _ l' a' (wk_pairs walk_enumG hl rl)
end KF

set_option Elab.async false
set_option linter.all false
set_option maxRecDepth 100000
set_option maxHeartbeats 4000000
/-! KFQ: glue for printed texts. -/
namespace KF
open PySem PySem.Spec PyProof.Rows L2
/-- a def as the top has left it -/
structure FnIs (K : PySem.W.Frag) (x qual : Str) (st : Stmt) (f : Addr) (fd : FuncData) : Prop where
  ex : ∃ (oc : Value) (od : Option Addr) (dV kV doc pm : Value) (an : Option Addr) (cdv ct : Value) (osl : Array (Option Value)),
    fd = PySem.W.fnOf x qual (defArgs st) (defBody st) (defScope st) dV kV doc pm an cdv ct ∧ K.lookup f = some ⟨oc, od, .func fd, osl⟩ ∧ PySem.W.codeIn K cdv qual = true
theorem fnIs_mk {K : PySem.W.Frag} {x qual : Str} {st : Stmt} {f : Addr} {oc : Value} {od an : Option Addr} {osl : Array (Option Value)} {dV kV doc pm cdv ct : Value} (l : K.lookup f = some ⟨oc, od, .func (PySem.W.fnOf x qual (defArgs st) (defBody st) (defScope st) dV kV doc pm an cdv ct), osl⟩) (c : PySem.W.codeIn K cdv qual = true) :
    FnIs K x qual st f (PySem.W.fnOf x qual (defArgs st) (defBody st) (defScope st) dV kV doc pm an cdv ct) := ⟨⟨oc, od, dV, kV, doc, pm, an, cdv, ct, osl, rfl, l, c⟩⟩
/-- what a body's derivation has at hand -/
structure Cal (X : Cx) (Wx : WX) (k : Nat) : Prop where
  rm : Room k X.A
  gd : X.A.guards = some []
  tk : Takes X Wx
  po : PassesOwn (model X.prog X.w) X.A X.env X.xe
  cm : X.calm = true
theorem Cal.u {X : Cx} {Wx : WX} {k : Nat} (c : Cal X Wx k) : X.A.units + 64 < cLine := c.rm.units
theorem Cal.u70 {X : Cx} {Wx : WX} {k : Nat} (c : Cal X Wx k) : X.A.units + 70 < cLine := by have := c.rm.un; omega
theorem Cal.rj {X : Cx} {Wx : WX} {k j : Nat} (c : Cal X Wx k) (h : j ≤ k) : Room j X.A := c.rm.mono h
theorem Cal.blk {X : Cx} {Wx : WX} {k : Nat} (c : Cal X Wx k) (s : Shared) (H : Hp) (scope : Scope) (cenv : Env) (fp : List Addr) : Cal (X.blk s H scope cenv fp) W0 k :=
  ⟨c.rm, c.gd, fun u s' ⟨_, _, _, _, _, _, _, _, _, _, _, _, _, _, _, _, w⟩ => w.elim, PassesOwn.never, c.cm⟩
theorem fnX {P : Program} {w : World} {K : PySem.W.Frag} {mg : Str → Option Value} {base : Heap} {k : Nat} {f : Addr} {x qual : Str} {st : Stmt} {fd : FuncData} {N ps : List Str} {m : SM} (F : FnIs K x qual st f fd) (S : FnScope N ps (defScope st))
    (hB : ∀ (cdv : Value) (A : Around) (outer : List Env) (s : Shared) (H : Hp) (E : XK), Cal (cxOf (L2.CX P w) P w K mg base N qual (defScope st) f cdv A outer s H E) (fun c d _ H' => E c d H') k →
      DSs (cxOf (L2.CX P w) P w K mg base N qual (defScope st) f cdv A outer s H E) (fun c d _ H' => E c d H') (defBody st) m) :
    FnG P w K mg base (k + 1) f fd ps (spD K (runF N.length m) ps.length) := by
  obtain ⟨oc, od, dV, kV, doc, pm, an, cdv, ct, osl, rfl, lk, hcd⟩ := F.ex
  refine ⟨fun vs H Q E ⟨W, ds, S0, _, _, r, hl, _⟩ => by rw [← r.length]; exact hl, ?_⟩
  intro A outer s H args us vs Q E hg hroom env0 hbind rv hsp
  obtain ⟨W, ds, S0, rfl, sr, rds, hlen, hq⟩ := hsp
  have kin : K.In s.heap := env0.mod.kin.keeps fun b o e => (env0.bs b o e).1
  have nol : s.heap.NoLimit := env0.mod.nolimit.keeps fun b o e => (env0.bs b o e).1
  have hl : vs.length = ps.length := by rw [← rds.length]; exact hlen
  have kinds : ∀ y ∈ ps.zip us, (defScope st).names.lookup y.1 = some .local ∨ ((defScope st).names.lookup y.1 = some .cell ∧ ((cellsFrom (s.heap.objs.size + 1) (defScope st).names []).lookup y.1).isSome = true) := by
    rintro ⟨n, v⟩ hy
    exact (S.par n (List.of_mem_zip hy).1).imp id fun q => ⟨q, PySem.W.cellsFrom_some _ _ _ (.inl q)⟩
  refine codeAny_call_function hroom.depth (kin _ _ lk) rfl S.co S.gen rfl (PySem.W.codeRec_of kin hcd) (hbind _ _ _ _ (wpAny_newFunctionEnv_cells S.kind kinds fun env he s1 x => ?_))
  subst he
  refine ⟨nol.keeps x.toInCall.keep, codeAny_func ?_⟩
  have body := hB cdv A outer s W.H E ⟨hroom.deeper _, hg, takes_of rfl rfl rfl rfl, passes_of rfl, rfl⟩
  have I : Inv (cxOf (L2.CX P w) P w K mg base N qual (defScope st) f cdv A outer s W.H E) [] (L2.start N vs) W.H s1 := inv_start S hroom.hd env0 hl rv x
  have go : tDS K (fun c d _ H' => E c d H') m { nx := fun _ H' => Q .non H', rt := Q } (L2.start N vs) W.H := by
    refine ⟨W, _, S0, ⟨rfl, sr, startE rds⟩, ?_⟩
    unfold runF at hq
    generalize m (ds.map sv ++ List.replicate (N.length - ds.length) none) S0 = rr at hq
    cases rr with
    | nx st1 S1 => exact fun W' σ l s e => hq W' .non l s rep_nI
    | rt d S1 => exact hq
    | err e st1 S1 => exact fun W' σ od l s e z => hq W' od l s z
    | bk _ _ => exact hq.elim
    | ct _ _ => exact hq.elim
    | bad => exact hq.elim
  refine wpAny_mono (body.p.run [] s1 (L2.start N vs) W.H _ I go) (fun fl s' hs => ?_) fun e s' hs => hs
  match fl, hs with
  | .ret u, ⟨v, σ', H', J, r, q⟩ => exact ⟨v, H', J.os, J.bare, J.base, J.hok, r, q⟩
  | .next, ⟨σ', H', J, q⟩ => exact ⟨.non, H', J.os, J.bare, J.base, J.hok, rfl, q⟩
  | .brk, ⟨σ', H', J, q⟩ => exact q.elim
  | .cont, ⟨σ', H', J, q⟩ => exact q.elim
section
variable {X : Cx} {Wx : WX} {k : Nat} {a b e o : Expr} {es : List Expr} {ma mb me mo : EM D} {ml : EM (List D)} {pos apos cpos : Pos} {x : Str}
theorem q_m {T id : String} {name : Str} {ok : Store → D → Bool} {g : D → List D → Store → Option (D × Store)} (pa : PlainAttrs T) (slot : Slot T name id) (hty : typeOf (.builtin id) = pure (.type "method_descriptor")) (hm : MethD X id g)
    (hok : ∀ {K : PySem.W.Frag} {W : Wd} {S : Store} {d : D} {v : V}, SRep K W S → Rep K W d v → ok S d = true → L2.tyV K T v W.H) (ho : DE X Wx o mo) (ha : DA X Wx (e :: es) ml)
    (h1 : attributeBase o name X.env (eval o X.env) = eval o X.env := by rfl)
    (h2 : ((backTo cpos (starEach (e :: es) X.env)).all (fun x => !x.1) && (backToKw cpos (keywordEach [] X.env)).all (fun x => x.1.isSome) && decide ((e :: es).length + ([] : List Keyword).length + (if ([] : List Keyword).isEmpty then 0 else 1) < 30)) = true := by rfl)
    (h3 : (apos.endLine == cpos.line) = true := by rfl) (h4 : starEach (e :: es) X.env = (false, eval e X.env) :: starEach es X.env := by rfl) (h5 : (backTo cpos (starEach es X.env)).any (·.1) = false := by rfl) :
    DE X Wx (.Call (.Attribute o name apos) (e :: es) [] cpos) (methE ok g mo ml) := de_m (t := fun _ _ _ => True) pa slot hty hm hok ho ha (pe_bm pa slot hty hm.p ho.p ha.p h1 h2 h3 h4 h5)
theorem de_bty {n : String} (hg : Gl X x) (hm : X.mg x = none) (hv : bootBuiltins x = some (.type n)) (hn : x ≠ "__name__" := by decide) (hd : (x == ("__debug__" : Str)) = false := by decide) : DE X Wx (.Name x pos) (cE (.ty n)) :=
  de_c (v := .ty n) ⟨fun _ _ _ H _ I h => ld_blt I hg hm hv ⟨.ty n, H, I, rfl, h⟩ hn hd⟩ fun W => by simp [Rep]
theorem de_gI {i : Int} (hg : Gl X x) (hm : ∃ t, X.mg x = some (.int i t)) (hd : (x == ("__debug__" : Str)) = false := by decide) : DE X Wx (.Name x pos) (cE (.int i)) := by
  obtain ⟨t, h⟩ := hm
  exact de_glob hg h (v := .int i) ⟨t, rfl⟩ (fun W => rep_iI) hd
theorem de_gS {z : Str} (hg : Gl X x) (hm : ∃ t, X.mg x = some (.str z t)) (hd : (x == ("__debug__" : Str)) = false := by decide) : DE X Wx (.Name x pos) (cE (.str z)) := by
  obtain ⟨t, h⟩ := hm
  exact de_glob hg h (v := .str z) ⟨t, rfl⟩ (fun W => rep_sI) hd
theorem de_gC {C : Addr} (hg : Gl X x) (hm : X.mg x = some (.ref C)) (hd : (x == ("__debug__" : Str)) = false := by decide) : DE X Wx (.Name x pos) (cE (.obj C)) :=
  de_glob hg hm (v := .ref C) rfl (fun W => by simp [Rep]) hd
theorem dt_cmpS {op : CmpOp} {g : D → D → Store → Res D} (ho : OpS X (compareOp op) g) (ha : DE X Wx a ma) (hb : DE X Wx b mb) (hm : behindInMarks op b = false) : DT X Wx (.Compare a [op] [b] pos) (bE (opS g ma mb)) :=
  dt_of (pt_cmpR ho.p ha.p hb.p hm) fun W st S σ Q at_ q => by
    have q' : BQ X.K W Q (fun c d H' => Wx c d σ H') ((ma st S).bind fun x S1 => (mb st S1).bind fun y S2 => (g x y S2).noE.bind fun d S3 => .of (asB d) S3) := by
      have e : bE (opS g ma mb) st S = ((ma st S).bind fun x S1 => (mb st S1).bind fun y S2 => (g x y S2).noE.bind fun d S3 => .of (asB d) S3) := by
        unfold bE opS
        cases ma st S with
        | ok x S1 => simp only [bind_ok]; cases mb st S1 <;> rfl
        | err _ _ => rfl
        | bad => rfl
      rw [← e]
      exact q
    refine goB at_ q' fun W1 dx S1 x l1 a1 r1 q1 => goB a1 q1 fun W2 dy S2 y l2 a2 r2 q2 => ?_
    refine ⟨W2, S2, dx, dy, rfl, a2.s, r1.mono l2 _ _, r2, ?_⟩
    cases e : g dx dy S2 with
    | bad => rw [e] at q2; exact q2.elim
    | err _ _ => rw [e] at q2; exact q2.elim
    | ok d S3 =>
      rw [e] at q2
      simp only [noE_ok, bind_ok] at q2
      cases e2 : asB d with
      | none => rw [e2] at q2; exact q2.elim
      | some c =>
        rw [e2] at q2
        exact fun W' v l s r => ⟨c, rep_bl r e2, q2 W' l s⟩
/-- {} that stays empty -/
theorem de_dct0 : DE X Wx (.Dict [] [] pos) (cE (.dct [] [])) :=
  de_of pe_dnewK fun W st S σ Q at_ q p hp => by
    refine q (W.put p (.dK [])) (.ref p) (Wd.put_le hp) (at_.s.put hp) ?_
    simp only [Rep]
    exact ⟨p, [], rfl, .inl upd_same, at_.s.noM hp, rfl, repL_nil⟩
end
theorem b_len : bootBuiltins "len" = some (.builtin "len") := by decide +kernel
theorem b_all : bootBuiltins "all" = some (.builtin "all") := by decide +kernel
theorem b_any : bootBuiltins "any" = some (.builtin "any") := by decide +kernel
theorem b_sum : bootBuiltins "sum" = some (.builtin "sum") := by decide +kernel
theorem b_abs : bootBuiltins "abs" = some (.builtin "abs") := by decide +kernel
theorem b_divmod : bootBuiltins "divmod" = some (.builtin "divmod") := by decide +kernel
theorem b_max : bootBuiltins "max" = some (.builtin "max") := by decide +kernel
theorem b_min : bootBuiltins "min" = some (.builtin "min") := by decide +kernel
theorem b_isinstance : bootBuiltins "isinstance" = some (.builtin "isinstance") := by decide +kernel
theorem b_repr : bootBuiltins "repr" = some (.builtin "repr") := by decide +kernel
theorem b_int : bootBuiltins "int" = some (.type "int") := by decide +kernel
theorem b_str : bootBuiltins "str" = some (.type "str") := by decide +kernel
theorem b_list : bootBuiltins "list" = some (.type "list") := by decide +kernel
theorem b_tuple : bootBuiltins "tuple" = some (.type "tuple") := by decide +kernel
/-- a def that takes all by place -/
def fnM (n : Nat) (m : List D → Store → Res D) : List D → List D → Store → Res D := bnd n 0 (fun ds _ => ds) m
/-- .. with what fills up -/
def fnF (n : Nat) (dd : List D) (m : List D → Store → Res D) : List D → List D → Store → Res D := bnd n 0 (fun ds _ => ds ++ dd) m
end KF

set_option Elab.async false
set_option linter.all false
set_option maxRecDepth 100000
set_option maxHeartbeats 4000000
/-! KFR: how a def with defaults is bound. -/
namespace KF
open PySem PySem.Spec PyProof.Rows L2
theorem bd_full {K : PySem.W.Frag} {fd : FuncData} {ps : List Str} {n m : Nat} {T : Addr} {o : Obj} {its : Array Value} (hn : ps.length = n) (dd : K.lookup T = some o) (od : o.data = .seq its m)
    (h : ∀ us : List Value, us.length = n → ∃ k, bindArgs fd ⟨us, []⟩ = seqItems? (.ref T) >>= k ∧ k (some its) = pure (ps.zip us)) : BD K fd ps [] n (fun ds _ => ds) :=
  ⟨fun ds es h _ => h.trans hn.symm, fun s W ds es vs zs us ws kin r _ rv _ hl _ => by
    obtain ⟨k, e1, e2⟩ := h us (by rw [← rv.length, ← r.length, hl])
    refine ⟨us, vs, L2.BindsTo.of_looks fun M => ?_, rv, r⟩
    show PySem.W.Looks M s.heap (bindArgs fd ⟨us, []⟩) _
    rw [e1]
    exact looks_items kin dd od (.of_pure e2)⟩
def blkB (N : List Str) (sc scope : Scope) (own : List (Str × Nat)) : Bool :=
  decide (scope.kind = .function) && (decide (∀ y ∈ scope.names, scope.names.lookup y.1 = some y.2) && (decide (∀ p ∈ own, N[p.2]? = some p.1) &&
    (decide (∀ y ∈ scope.names, y.2 = .free → sc.names.lookup y.1 = some .cell ∨ sc.names.lookup y.1 = some .free) && decide (∀ y ∈ scope.names, y.2 = .local ∨ y.2 = .cell → y.1 ∈ own.map (·.1) ∨ y.1 ∉ N))))
theorem blk_ok {N : List Str} {sc scope : Scope} {own : List (Str × Nat)} (h : blkB N sc scope own = true) : BlkOk N sc scope own := by
  unfold blkB at h
  simp only [Bool.and_eq_true, decide_eq_true_eq] at h
  exact ⟨h.1, h.2.1, h.2.2.1, h.2.2.2.1, h.2.2.2.2⟩
end KF

set_option Elab.async false
set_option linter.all false
set_option maxRecDepth 100000
set_option maxHeartbeats 4000000
/-! KFS: f-strings, stars. -/
namespace KF
open PySem PySem.Spec PyProof.Rows L2
section
variable {X : Cx} {Wx : WX} {e : Expr} {es : List Expr} {me : EM D} {ml : EM (List D)} {pos p : Pos}
def fmtD (d : D) (S : Store) : Res D := match d with
  | .str y => if y.length ≤ sizeLine then .ok (.str y) S else .bad
  | .int i => if i.natAbs.log2 < 1920 then .ok (.str (toString i)) S else .bad
  | _ => .bad
def fmtE (m : EM D) : EM D := fun st S => (m st S).bind fmtD
theorem de_fmt (h : DE X Wx e me) : DE X Wx (.FormattedValue e (-1) none pos) (fmtE me) := by
  refine de_of (pe_fmt h.p) fun W st S σ Q at_ q => ?_
  refine goE at_ q fun W1 d S1 v l a1 r q1 => ?_
  cases d <;> try exact q1.elim
  · obtain rfl := rep_i r
    unfold fmtD at q1
    simp only at q1
    split at q1
    · rename_i hz
      exact .inr ⟨_, rfl, hz, q1 W1 _ (.refl W1) a1.s rep_sI⟩
    · exact q1.elim
  · obtain rfl := rep_s r
    unfold fmtD at q1
    simp only at q1
    split at q1
    · rename_i hz
      exact .inl ⟨_, rfl, hz, q1 W1 _ (.refl W1) a1.s rep_sI⟩
    · exact q1.elim
def jnE : List (EM D) → Str → EM D
  | [], acc => fun _ S => .ok (.str acc) S
  | m :: ms, acc => fun st S => (m st S).bind fun d S1 => match d with
    | .str y => if (acc ++ y).length ≤ sizeLine then jnE ms (acc ++ y) st S1 else .bad
    | _ => .bad
inductive DJ (X : Cx) (Wx : WX) : List Expr → List (EM D) → Prop where
  | nil : DJ X Wx [] []
  | cons {e : Expr} {m : EM D} {es : List Expr} {ms : List (EM D)} (h : DE X Wx e m) (r : DJ X Wx es ms) : DJ X Wx (e :: es) (m :: ms)
theorem DJ.toJ {ms : List (EM D)} (h : DJ X Wx es ms) : PJ X es (ms.map (tD X.K Wx)) := by
  induction h with
  | nil => exact .nil
  | cons h _ ih => exact .cons h.p ih
theorem jn_go : ∀ (ms : List (EM D)) (acc : Str) (W : Wd) (st : DSt) (S : Store) (σ : St) (Q : VK), At X.K W st S σ W.H → VQ X.K W Q (fun c d H' => Wx c d σ H') (jnE ms acc st S) → tJs (ms.map (tD X.K Wx)) acc σ W.H fun out H1 => Q (.str out) H1
  | [], acc, W, st, S, σ, Q, at_, q => q W _ (.refl W) at_.s rep_sI
  | m :: ms, acc, W, st, S, σ, Q, at_, q => by
    refine goE at_ q fun W1 d S1 v l a1 r q1 => ?_
    cases d <;> try exact q1.elim
    obtain rfl := rep_s r
    simp only at q1
    split at q1
    · rename_i hz
      exact ⟨_, rfl, hz, jn_go ms _ W1 st S1 σ Q a1 q1⟩
    · exact q1.elim
theorem de_joined {v1 v2 : Expr} {rest : List Expr} {ms : List (EM D)} (h : DJ X Wx (v1 :: v2 :: rest) ms) : DE X Wx (.JoinedStr (v1 :: v2 :: rest) pos) (jnE ms Str.empty) :=
  de_of (pe_joined h.toJ) fun W st S σ Q at_ q => jn_go ms Str.empty W st S σ Q at_ q
/-! ### stars -/
def consL (m : EM D) (ml : EM (List D)) : EM (List D) := fun st S => (m st S).bind fun d S1 => (ml st S1).bind fun ds S2 => .ok (d :: ds) S2
def starL (m : EM D) (ml : EM (List D)) : EM (List D) := fun st S => (m st S).bind fun d S1 => match asQ S1 d with
  | some xs => (ml st S1).bind fun ys S2 => .ok (xs ++ ys) S2
  | none => .bad
theorem da_consL (he : DE X Wx e me) (hr : DA X Wx es ml) (hs : starEach (e :: es) X.env = (false, eval e X.env) :: starEach es X.env := by rfl) : DA X Wx (e :: es) (consL me ml) := by
  refine da_of (pa_cons he.p hr.p hs) fun W st S σ Q at_ q => ?_
  refine goL at_ q fun W1 d S1 v l a1 r q1 => ?_
  refine goAL a1 q1 fun W2 ds S2 vs l2 a2 r2 q2 => ?_
  exact q2 W2 _ (.refl W2) a2.s (repL_cons (r.mono l2 _ _) r2)
theorem da_star (he : DE X Wx e me) (hr : DA X Wx es ml) (hs : starEach (.Starred e p :: es) X.env = (true, eval e X.env) :: starEach es X.env := by rfl) : DA X Wx (.Starred e p :: es) (starL me ml) := by
  refine da_of (StX.pa_star he.p hr.p hs) fun W st S σ Q at_ q => ?_
  refine goL at_ q fun W1 d S1 v l a1 r q1 => ?_
  cases h : asQ S1 d with
  | none => rw [h] at q1; exact q1.elim
  | some xs =>
    rw [h] at q1
    obtain ⟨a, vs, rfl, rl, hq⟩ := asQ_cases a1.s r h
    refine ⟨a, vs, rfl, hq.elim .inr (fun z => .inl z.1), ?_⟩
    refine goAL a1 q1 fun W2 ys S2 us l2 a2 r2 q2 => ?_
    exact q2 W2 _ (.refl W2) a2.s (repL_append (rl.mono l2 _ _) r2)
end
end KF

set_option Elab.async false
set_option linter.all false
set_option maxRecDepth 100000
set_option maxHeartbeats 4000000
/-! KFT: classmethods. -/
namespace KF
open PySem PySem.Spec PyProof.Rows L2
/-- how a call's code ends -/
def CalEnd (X : Cx) (pins : List (Addr × Obj)) (σ : St) (Q : VK) : Result → Shared → Prop := fun r s' => match r with
  | .ok (.ret u) => EP X pins σ Q u s'
  | .ok _ => False
  | .error e => X.xe e s'
structure CalC (X : Cx) (Wx : WX) (fv : Value) (ks : List Str) (g : List D → List D → Store → Res D) : Prop where
  run : ∀ (pins : List (Addr × Obj)) (σ : St) (s : Shared) (W : Wd) (S : Store) (ds es : List D) (vs zs : List V) (us ws : List Value) (Q : VK), Inv X pins σ W.H s → SRep X.K W S → RepL X.K W ds vs → RepL X.K W es zs → Vals vs us → Vals zs ws →
    VQ X.K W Q (fun c d H' => Wx c d σ H') (g ds es S) → codeAny (model X.prog X.w) X.A (.call fv ⟨us, ks.zip ws⟩) (CalEnd X pins σ Q) s
section
variable {X : Cx} {Wx : WX} {k : Nat} {f C mg p : Addr} {mc : Value} {fd : FuncData} {ps ks : List Str} {m : List D → Store → Res D} {nP : Nat} {gD : List D → List D → List D} {G : List D → List D → Store → Res D}
theorem calC_fn (F : FnG X.prog X.w X.K X.mg X.base k f fd ps (spD X.K m ps.length)) (hr : Room k X.A) (gd : X.A.guards = some []) (tk : Takes X Wx) (b : BD X.K fd ps ks nP gD) : CalC X Wx (.ref f) ks (bnd nP ks.length gD m) :=
  ⟨fun pins σ s W S ds es vs zs us ws Q I sr rd re rv rz q => by
    unfold bnd at q
    split at q
    · rename_i hl
      obtain ⟨us', vs', b1, b2, b3⟩ := b.to s W ds es vs zs us ws I.kIn rd re rv rz hl.1 hl.2
      refine codeAny_mono (run_fnG F hr gd tk I b1 b2 ⟨W, _, S, rfl, sr, b3, b.len ds es hl.1 hl.2, q⟩) fun r s' z => ?_
      match r, z with
      | .error e, z => exact z
      | .ok (.ret u), z => exact z
      | .ok .next, z => exact z.elim
      | .ok .brk, z => exact z.elim
      | .ok .cont, z => exact z.elim
    · exact q.elim⟩
def cmE (C : Addr) (g : List D → List D → Store → Res D) (o : EM D) (ml mk : EM (List D)) : EM D := fun st S => (o st S).bind fun x S1 => match x with
  | .obj C' => if C' = C then (ml st S1).bind fun ds S2 => (mk st S2).bind fun es S3 => g (.obj C :: ds) es S3 else .bad
  | _ => .bad
variable {o e : Expr} {es : List Expr} {kws : List Keyword} {mo : EM D} {ml mk : EM (List D)} {mn : Str} {pos apos : Pos} {pl : Sem Bool}
/-- C.m(..), m a classmethod: all by place -/
theorem de_cm (c : CalC X Wx (.ref f) [] G) (ho : DE X Wx o mo) (r : ClX.CRead X.K C mc) (cm : ClX.CMet X.K C mc mn p f) (ha : DA X Wx (e :: es) ml) (h1 : starEach (e :: es) X.env = (false, eval e X.env) :: starEach es X.env := by rfl) (h2 : (backTo pos (starEach es X.env)).any (·.1) = false := by rfl)
    (h3 : eval (.Call (.Attribute o mn apos) (e :: es) [] pos) X.env = (do
      let ov ← eval o X.env
      standAt apos.atName
      let (f, first) ← holding [ov] (getMethod ov mn pl)
      callWith pos f first (backTo pos (starEach (e :: es) X.env)) (backToKw pos (keywordEach [] X.env))) := by rfl) :
    DE X Wx (.Call (.Attribute o mn apos) (e :: es) [] pos) (cmE C G mo ml (seqE [])) := ⟨⟨fun pins s σ H Q I ⟨W, st, S, at_, q⟩ => by
  obtain ⟨rfl, sr, re⟩ := at_
  refine PySem.W.methodCall_KW (pl := pl) (thn (ho.p.run pins s σ W.H (fun v H1 => ∃ W1 x S1, W1.H = H1 ∧ At X.K W1 st S1 σ W1.H ∧ Rep X.K W1 x v ∧ VQ X.K W1 Q (fun c d H' => Wx c d σ H') (match x with | .obj C' => if C' = C then (ml st S1).bind fun ds S2 => (seqE [] st S2).bind fun es S3 => G (.obj C :: ds) es S3 else .bad | _ => .bad)) I
    (goE ⟨rfl, sr, re⟩ q fun W1 x S1 v l a1 r q1 => ⟨W1, x, S1, rfl, a1, r, q1⟩)) ?_) h3
  rintro u s1 ⟨v, _, I1, rv, W1, x, S1, rfl, a1, rx, q1⟩
  cases x <;> try exact q1.elim
  rename_i C'
  simp only at q1
  split at q1
  · rename_i hC
    subst hC
    obtain rfl : v = .ref C' := by simpa [Rep] using rx
    obtain rfl : u = Value.ref C' := rv
    refine ClX.getmethcm_ok I1 r cm fun s2 I2 => ?_
    refine ClX.callwith_cm I2 (ClX.base_none I1 (Nat.le_refl _)) cm.fi (thn (ha.p.run pos _ s2 σ W1.H (fun vs H1 => ∃ W2 ds S2, W2.H = H1 ∧ SRep X.K W2 S2 ∧ RepL X.K W2 ds vs ∧ VQ X.K W2 Q (fun c d H' => Wx c d σ H') (G (.obj C' :: ds) [] S2)) I2
      (goAE a1 q1 fun W2 ds S2 vs l2 a2 r2 q2 => ⟨W2, ds, S2, rfl, a2.s, r2, q2⟩)) ?_) h1 h2
    rintro us s3 ⟨vs, _, I3, rvs, W2, ds, S2, rfl, sr2, r2, q2⟩
    refine ⟨⟨ClX.pin_at I3, I3.kIn⟩, ?_⟩
    have z : wpAny (model X.prog X.w) X.A (call (.ref s1.heap.objs.size) us) (EP X ((s1.heap.objs.size, PySem.W.methodObj (.ref f) (.ref C')) :: pins) σ Q) X.xe s3 :=
      wpAny_call (PySem.W.method_call (ClX.pin_at I3) (codeAny_mono (c.run _ σ s3 W2 S2 (.obj C' :: ds) [] (.ref C' :: vs) [] (.ref C' :: us) [] Q I3 sr2 (repL_cons (by simp [Rep]) r2) repL_nil (.cons rfl rvs) .nil q2) fun r s' z => by
        match r, z with
        | .error e, z => exact z
        | .ok (.ret u), z => exact z
        | .ok .next, z => exact z.elim
        | .ok .brk, z => exact z.elim
        | .ok .cont, z => exact z.elim))
    exact thn z fun _ _ y => ClX.unpinE y
  · exact q1.elim⟩⟩
end
end KF

set_option Elab.async false
set_option linter.all false
set_option maxRecDepth 100000
set_option maxHeartbeats 4000000
/-! KFU: a local name that holds a class is called. -/
namespace KF
open PySem PySem.Spec PyProof.Rows L2
section
variable {X : Cx} {Wx : WX} {C : Addr} {x : Str} {p pos : Pos} {e : Expr} {es : List Expr} {ml : EM (List D)} {g : List D → List D → Store → Res D}
def callV (i : Nat) (C : Addr) (g : List D → List D → Store → Res D) (ml : EM (List D)) : EM D := fun st S => match st[i]? with
  | some (some (.v (.obj C'))) => if C' = C then (ml st S).bind fun ds S1 => g ds [] S1 else .bad
  | _ => .bad
theorem de_fnV (i : Nat) (c : CalD X Wx (.ref C) [] g) (hk : PySem.W.keepIn X.K (.ref C) = true) (ha : DA X Wx (e :: es) ml) (hN : X.N[i]? = some x := by rfl) (hv : Vis X.env.scope x := by first | exact Or.inl rfl | exact Or.inr (Or.inl rfl) | exact Or.inr (Or.inr rfl))
    (hdb : (x == ("__debug__" : Str)) = false := by decide) (hcd : (x == ("__classdict__" : Str)) = false := by decide) (he : starEach (e :: es) X.env = (false, eval e X.env) :: starEach es X.env := by rfl) (hpl : (backTo pos (starEach es X.env)).any (·.1) = false := by rfl) :
    DE X Wx (.Call (.Name x p) (e :: es) [] pos) (callV i C g ml) := ⟨⟨fun pins s σ H Q I ⟨W, st, S, at_, q⟩ => by
  obtain ⟨rfl, sr, re⟩ := at_
  unfold callV at q
  split at q
  · rename_i C' hst
    split at q
    · rename_i hC
      subst hC
      obtain ⟨v, hs, rv⟩ := re.get hst
      obtain rfl : v = .ref C' := by simpa [Rep] using rv
      refine wpAny_Call_Name_kw (thn ((pe_var (pos := p) hN hv hdb hcd).run pins s σ W.H (fun v H1 => v = .ref C' ∧ H1 = W.H) I ⟨.ref C', hs, rfl, rfl⟩) fun u s1 ⟨v, H1, I1, r1, q1⟩ => ?_)
      obtain ⟨rfl, rfl⟩ := q1
      obtain rfl : u = Value.ref C' := r1
      refine PySem.W.callWith_K (h₀ := X.base) I.ok.mod.kin hk (thn (ha.p.run pos pins s1 σ W.H (fun vs H1 => ∃ W1 ds S1, W1.H = H1 ∧ SRep X.K W1 S1 ∧ RepL X.K W1 ds vs ∧ VQ X.K W1 Q (fun c d H' => Wx c d σ H') (g ds [] S1)) I1 (goAE ⟨rfl, sr, re⟩ q fun W1 ds S1 vs l a1 r q1 => ⟨W1, ds, S1, rfl, a1.s, r, q1⟩)) ?_) he hpl
      rintro us s2 ⟨vs, _, I2, rv, W1, ds, S1, rfl, sr1, r, q1⟩
      exact ⟨I2.kIn, c.run pins σ s2 W1 S1 ds [] vs [] us [] Q I2 sr1 r repL_nil rv .nil q1⟩
    · exact q.elim
  · exact q.elim⟩⟩
end
end KF

set_option Elab.async false
set_option linter.all false
set_option maxRecDepth 100000
set_option maxHeartbeats 4000000
/-! KFV: str of an own instance. -/
namespace KF
open PySem PySem.Spec PyProof.Rows L2
section
variable {X : Cx} {Wx : WX} {C f : Addr} {k : Nat} {fd : FuncData} {ps : List Str} {m : List D → Store → Res D} {nP : Nat} {gD : List D → List D → List D} {h : List D → List D → Store → Res D}
/-- an own def, two steps below -/
structure Own2 (X : Cx) (f : Addr) (g : List D → List D → Store → Res D) : Prop where
  run : ∀ (pins : List (Addr × Obj)) (σ : St) (s : Shared) (W : Wd) (S : Store) (ds : List D) (vs : List V) (us : List Value) (Q : VK), Inv X pins σ W.H s → SRep X.K W S → RepL X.K W ds vs → Vals vs us → VQ X.K W Q E0 (g ds [] S) →
    codeAny (model X.prog X.w) X.A.in1.in1 (.call (.ref f) ⟨us, []⟩) (OwnEnd X pins σ Q) s
theorem own2_of (F : FnG X.prog X.w X.K X.mg X.base k f fd ps (spD X.K m ps.length)) (hr : Room (k + 2) X.A) (gd : X.A.guards = some []) (b : BD X.K fd ps [] nP gD) : Own2 X f (bnd nP 0 gD m) :=
  ⟨fun pins σ s W S ds vs us Q I sr rd rv q => run_fnA F hr.in1.in1 gd I I.env0.in1.in1 b sr rd rv q⟩
theorem Own2.wp {pins : List (Addr × Obj)} {σ : St} {s : Shared} {W : Wd} {S : Store} {ds : List D} {vs : List V} {us : List Value} {Q : VK} {E' : Value → Shared → Prop} (F : Own2 X f h) (I : Inv X pins σ W.H s) (sr : SRep X.K W S) (rd : RepL X.K W ds vs) (rv : Vals vs us) (q : VQ X.K W Q E0 (h ds [] S)) : wpAny (model X.prog X.w) X.A.in1.in1 (call (.ref f) us) (EP X pins σ Q) E' s :=
  wpAny_call (codeAny_mono (F.run pins σ s W S ds vs us Q I sr rd rv q) fun r s' hq => by
    match r, hq with
    | .ok (.ret u), hq => exact hq
    | .error e, hq => exact hq.elim
    | .ok .next, hq => exact hq.elim
    | .ok .brk, hq => exact hq.elim
    | .ok .cont, hq => exact hq.elim)
def strD (C : Addr) (h : List D → List D → Store → Res D) : List D → Store → Res D := fun ds S => match ds with
  | [x] => match insOf S x with
    | some (C', _, _) => if C' = C then (match h [x] [] S with
      | .ok (.str z) S1 => .ok (.str z) S1
      | _ => .bad) else .bad
    | none => .of2 (g1 gStr ds S)
  | _ => .bad
theorem call_strO (hu : X.A.units + 64 < cLine) (dn : Dun X.K C "__str__" f) (F : Own2 X f h) : CallS X (.type "str") (strD C h) := ⟨fun pins s σ H xs us Q I rv ⟨W, S, ds, eH, sr, rl, q⟩ => by
  subst eH
  match ds, q with
  | [], q => exact q.elim
  | _ :: _ :: _, q => exact q.elim
  | [x], q =>
    unfold strD at q
    simp only at q
    cases hi : insOf S x with
    | none =>
      rw [hi] at q
      exact (callS_of call_strK).p pins s σ W.H xs us Q I rv ⟨W, S, [x], rfl, sr, rl, q⟩
    | some t =>
      obtain ⟨C', ks, ys⟩ := t
      rw [hi] at q
      by_cases hc : C' = C
      · subst hc
        simp only [if_true] at q
        obtain ⟨v, rfl, rx⟩ := repL_1 rl
        obtain ⟨a, dd, vs, rfl, ha, hz, _⟩ := insOf_rep sr rx hi
        obtain ⟨u, rfl, ru⟩ : ∃ u, us = [u] ∧ RelV (.ref a) u := by
          cases rv with
          | cons h1 h2 => cases h2; exact ⟨_, rfl, h1⟩
        obtain rfl : u = Value.ref a := ru
        obtain ⟨ox, od, J⟩ := inst_at I ha
        have e : ∃ z S1, h [x] [] S = .ok (.str z) S1 ∧ VQ X.K W Q E0 (.ok (.str z) S1) := by
          split at q
          · rename_i z S1 e; exact ⟨z, S1, e, q⟩
          · exact q.elim
        obtain ⟨z, S1, e, q⟩ := e
        have R := F.wp (E' := X.xe) (Q := fun v H' => v = .str z ∧ Q (.str z) H') I sr (repL_cons rx repL_nil) (Paired.cons (show RelV (.ref a) (Value.ref a) from rfl) .nil) (by
          rw [e]
          intro W' v l s' r
          exact ⟨rep_s r, q W' _ l s' rep_sI⟩)
        refine PySem.callType_newIn PySem.F.called_str (by decide) (PySem.F.typeCall_str_1 _) (PySem.F.newCall_str_1 _) (fun obj => PySem.F.args_object_init_2 obj _) PySem.F.entry_str_new
          (S := fun A R s' => wpAny (model X.prog X.w) A.in1 (Builtin.Str.strOf (.ref a)) (fun r s' => R (.ok (.ret r)) s') (fun e s' => R (.error e) s') s') (PySem.MeetsIn.of_wp fun A R s' hh => ?_) ?_
        · rw [PySem.str_new_tree]
          exact wpAny_bind (wpAny_pure (wpAny_bind (wpAny_of_eq isSubtype_str_str (wpAny_bind (wpAny_mono hh (fun r s' h' => wpAny_pure ⟨_, rfl, h'⟩) fun _ _ e => e)))))
        · show wpAny _ X.A.in1.in1 _ _ _ s
          unfold Builtin.Str.strOf
          have u2 : X.A.in1.in1.units < cLine := by show X.A.units + 1 + 1 < cLine; omega
          refine wpAny_bind (m := cRoomFor _ _) (wpAny_cRoomFor u2 ?_)
          refine wpAny_bind (m := callSpecial? (.ref a) (Str.ofString "__str__")) (PySem.W.special_fn I.kIn J dn.at_ (beq_iff_eq.mp dn.fn) (wpAny_mono R (fun r s' hr => ?_) fun _ _ y => y))
          obtain ⟨w, H', I', rw', rfl, q'⟩ := hr
          obtain ⟨tk, rfl⟩ : ∃ t, r = Value.str z t := rw'
          refine wpAny_bind (wpAny_pure ?_)
          exact wpAny_pure ⟨typeIs_str _ _ _, ⟨.str z, H', I', ⟨tk, rfl⟩, q'⟩⟩
      · simp only [if_neg hc] at q
        exact q.elim⟩
end
end KF

set_option Elab.async false
set_option linter.all false
set_option maxRecDepth 100000
set_option maxHeartbeats 4000000
/-! KGA: blocks by what they do from known slots on. -/
namespace KF
open PySem PySem.Spec PyProof.Rows L2
/-- a later world, where the lists at P may have changed -/
structure LeX (P : Addr → Prop) (W W' : Wd) : Prop extends W.ev W' where
  l : ∀ b o, W.L b → ¬ P b → W.H b = some o → W'.L b ∧ W'.H b = some o
  m : ∀ b o, W.L b → ¬ P b → W.H b = some o → W.M b → W'.M b
structure Evo (P P' : Addr → Prop) (W W' : Wd) : Prop extends LeX P W W' where
  f : ∀ a, P' a → P a ∨ ¬ W.L a
section
variable {K : PySem.W.Frag} {W W' W1 W2 : Wd} {P P' P1 P2 : Addr → Prop} {S S1 : Store} {st st' : DSt} {σ σ' : St} {d : D} {v : V} {i : Nat}
theorem Wd.le.x (l : W.le W') : LeX P W W' := ⟨l.toev, fun b o h _ e => l.l b o h e, fun b o h _ e => l.m b o h e⟩
theorem Wd.le.evo (l : W.le W') (h : ∀ a, P' a → P a) : Evo P P' W W' := ⟨l.x, fun a q => .inl (h a q)⟩
theorem LeX.le (l : LeX P W W') (h : ∀ a, ¬ P a) : W.le W' := ⟨l.toev, fun b o q e => l.l b o q (h b) e, fun b o q e => l.m b o q (h b) e⟩
theorem Evo.trans (s : SRep K W S) (a : Evo P P1 W W1) (b : Evo P1 P2 W1 W2) : Evo P P2 W W2 := by
  have key : ∀ x o, W.L x → ¬ P x → W.H x = some o → W1.L x ∧ W1.H x = some o ∧ ¬ P1 x := fun x o h1 h2 h3 => by
    obtain ⟨q1, q2⟩ := a.l x o h1 h2 h3
    exact ⟨q1, q2, fun z => (a.f x z).elim h2 fun n => n h1⟩
  refine ⟨⟨a.toev.trans b.toev, fun x o h1 h2 h3 => ?_, fun x o h1 h2 h3 h4 => ?_⟩, fun x hx => ?_⟩
  · obtain ⟨q1, q2, q3⟩ := key x o h1 h2 h3
    exact b.l x o q1 q3 q2
  · obtain ⟨q1, q2, q3⟩ := key x o h1 h2 h3
    exact b.m x o q1 q3 q2 (a.m x o h1 h2 h3 h4)
  · by_cases hp : P x
    · exact .inl hp
    · refine .inr fun hl => ?_
      cases e : W.H x with
      | none => exact (s.lk x hl).1 e
      | some o =>
        obtain ⟨q1, q2, q3⟩ := key x o hl hp e
        exact (b.f x hx).elim q3 fun n => n q1
theorem Evo.transX (s : SRep K W S) (a : Evo P P1 W W1) (b : LeX P1 W1 W2) : LeX P W W2 :=
  (Evo.trans (P2 := fun _ => False) s a ⟨b, fun _ z => z.elim⟩).toLeX
theorem own_L (e : RepE K W st σ) {a : Addr} (h : ownA st σ a) : W.L a := by
  obtain ⟨j, x, h1, h2, h3⟩ := h
  obtain ⟨u, q1, q2⟩ := e.at_ j x h1
  cases x <;> simp only [isOwn] at h2 <;> try cases h2
  obtain ⟨b, vs, rfl, q3, _, q4, q5⟩ := q2
  rw [h3] at q1
  cases q1
  exact q4
/-- fewer slots -/
inductive Sub : DSt → DSt → Prop where
  | nil : Sub [] []
  | keep {x : Option Sl} {a b : DSt} (h : Sub a b) : Sub (x :: a) (x :: b)
  | drop {x : Option Sl} {a b : DSt} (h : Sub a b) : Sub (none :: a) (x :: b)
theorem Sub.len : ∀ {a b : DSt}, Sub a b → a.length = b.length
  | _, _, .nil => rfl
  | _, _, .keep h => by simp [h.len]
  | _, _, .drop h => by simp [h.len]
theorem Sub.at_ : ∀ {a b : DSt}, Sub a b → ∀ (i : Nat) (d : Sl), a[i]? = some (some d) → b[i]? = some (some d)
  | _, _, .nil, _, _, e => by simp at e
  | _, _, .keep h, 0, _, e => e
  | _, _, .keep h, i + 1, d, e => by simpa using h.at_ i d (by simpa using e)
  | _, _, .drop h, 0, _, e => by simp at e
  | _, _, .drop h, i + 1, d, e => by simpa using h.at_ i d (by simpa using e)
theorem Sub.refl : ∀ (a : DSt), Sub a a
  | [] => .nil
  | _ :: a => .keep (Sub.refl a)
theorem Sub.rep (h : Sub st' st) (e : RepE K W st σ) : RepE K W st' σ := e.less h.len h.at_
theorem Sub.own (h : Sub st' st) {a : Addr} (q : ownA st' σ a) : ownA st σ a := by
  obtain ⟨j, x, h1, h2, h3⟩ := q
  exact ⟨j, x, h.at_ j x h1, h2, h3⟩
def SubX (se st : DSt) : Prop := se = [] ∨ Sub se st
def RepX (K : PySem.W.Frag) (W : Wd) (se : DSt) (σ : St) : Prop := se = [] ∨ RepE K W se σ
theorem SubX.rep {se : DSt} (h : SubX se st) (e : RepE K W st σ) : RepX K W se σ := h.imp id fun s => s.rep e
theorem SubX.own {se : DSt} (h : SubX se st) {a : Addr} (q : ownA se σ a) : ownA st σ a := by
  rcases h with rfl | h
  · obtain ⟨j, x, h1, _⟩ := q; simp at h1
  · exact h.own q
/-- a value, or a list of its own, into a slot -/
theorem RepE.setS {d : Sl} (h : RepE K W st σ) (i : Nat) (r : RepS K W d v) (fr : ∀ a, isOwn d = true → v = .ref a → ¬ ownA st σ a) : RepE K W (st.set i (some d)) (σ.set i (some v)) := by
  have gt : ∀ (j : Nat) (x : Sl), (st.set i (some d))[j]? = some (some x) → (j = i ∧ x = d ∧ (σ.set i (some v))[j]? = some (some v)) ∨ (j ≠ i ∧ st[j]? = some (some x) ∧ (σ.set i (some v))[j]? = σ[j]?) := by
    intro j x e
    by_cases hj : i = j
    · subst hj
      by_cases hi : i < st.length
      · rw [List.getElem?_set_self hi] at e
        cases e
        exact .inl ⟨rfl, rfl, by rw [List.getElem?_set_self (by rw [← h.len]; exact hi)]⟩
      · rw [List.getElem?_eq_none (by simpa using hi)] at e
        cases e
    · rw [List.getElem?_set_ne hj] at e
      exact .inr ⟨fun z => hj z.symm, e, by rw [List.getElem?_set_ne hj]⟩
  refine ⟨by simp [h.len], fun j x e => ?_, fun j k x y a hjk e1 o1 e2 o2 s1 s2 => ?_⟩
  · rcases gt j x e with ⟨rfl, rfl, q⟩ | ⟨hj, e', q⟩
    · exact ⟨v, q, r⟩
    · obtain ⟨u, q1, q2⟩ := h.at_ j x e'
      exact ⟨u, q.trans q1, q2⟩
  · rcases gt j x e1 with ⟨rfl, rfl, q1⟩ | ⟨hj, e1', q1⟩
    · rcases gt k y e2 with ⟨rfl, _, _⟩ | ⟨hk, e2', q2⟩
      · exact hjk rfl
      · rw [q1] at s1
        cases s1
        exact fr a o1 rfl ⟨k, y, e2', o2, q2.symm.trans s2⟩
    · rcases gt k y e2 with ⟨rfl, rfl, q2⟩ | ⟨hk, e2', q2⟩
      · rw [q2] at s2
        cases s2
        exact fr a o2 rfl ⟨j, x, e1', o1, q1.symm.trans s1⟩
      · exact h.sep j k x y a hjk e1' o1 e2' o2 (q1.symm.trans s1) (q2.symm.trans s2)
theorem own_set {d : Sl} {a : Addr} (q : ownA (st.set i (some d)) (σ.set i (some v)) a) : ownA st σ a ∨ (isOwn d = true ∧ v = .ref a) := by
  obtain ⟨j, x, h1, h2, h3⟩ := q
  by_cases hj : i = j
  · subst hj
    have hi : i < st.length := by
      have := (List.getElem?_eq_some_iff.mp h1).1
      simpa using this
    have hi2 : i < σ.length := by
      have := (List.getElem?_eq_some_iff.mp h3).1
      simpa using this
    rw [List.getElem?_set_self hi] at h1
    rw [List.getElem?_set_self hi2] at h3
    cases h1
    cases h3
    exact .inr ⟨h2, rfl⟩
  · rw [List.getElem?_set_ne hj] at h1 h3
    exact .inl ⟨j, x, h1, h2, h3⟩
end

/-- how a block ends: goes on (s: what it has set), returns, breaks, continues -/
inductive Step (τ κ : Type) where
  | nx (s : τ) | rt (d : D) | bk (s : κ) | ct (s : κ)
/-- a block's frame: what its results mean -/
structure Mode (ρ τ κ : Type) where
  J : ρ → Step τ κ
  ir : D → ρ
  ib : κ → ρ
  ic : κ → ρ
  hr : ∀ d, J (ir d) = .rt d
  hb : ∀ s, J (ib s) = .bk s
  hc : ∀ s, J (ic s) = .ct s
  sl : τ → DSt
  sk : κ → DSt
  se : DSt
  C : Ends → Prop
def HQ {ρ τ κ : Type} (K : PySem.W.Frag) (W : Wd) (P : Addr → Prop) (M : Mode ρ τ κ) (D : Ends) (Wx : WX) : Res ρ → Prop
  | .ok r S => match M.J r with
    | .nx s => ∀ W' σ, Evo P (ownA (M.sl s) σ) W W' → SRep K W' S → RepE K W' (M.sl s) σ → D.nx σ W'.H
    | .bk s => ∀ W' σ, Evo P (ownA (M.sk s) σ) W W' → SRep K W' S → RepE K W' (M.sk s) σ → D.bk σ W'.H
    | .ct s => ∀ W' σ, Evo P (ownA (M.sk s) σ) W W' → SRep K W' S → RepE K W' (M.sk s) σ → D.ct σ W'.H
    | .rt d => ∀ W' v, LeX P W W' → SRep K W' S → Rep K W' d v → D.rt v W'.H
  | .err e S => ∀ W' σ od, Evo P (ownA M.se σ) W W' → SRep K W' S → RepX K W' M.se σ → ERep K W' e od → Wx e.c od σ W'.H
  | .bad => False
def tH {ρ τ κ : Type} (K : PySem.W.Frag) (Wx : WX) (M : Mode ρ τ κ) (st : DSt) (p : Store → Res ρ) : TS := fun D σ H => M.C D ∧ ∃ W S, At K W st S σ H ∧ HQ K W (ownA st σ) M D Wx (p S)
structure DH {ρ τ κ : Type} (X : Cx) (Wx : WX) (M : Mode ρ τ κ) (ss : List Stmt) (st : DSt) (p : Store → Res ρ) : Prop where
  p : PSs X ss (tH X.K Wx M st p)
section
variable {ρ τ κ : Type} {K : PySem.W.Frag} {W W1 : Wd} {P P1 : Addr → Prop} {M : Mode ρ τ κ} {D : Ends} {Wx : WX} {r : Res ρ} {S S0 S1 : Store} {st st1 : DSt} {σ : St}
theorem HQ.mono (s : SRep K W S0) (l : Evo P P1 W W1) (h : HQ K W P M D Wx r) : HQ K W1 P1 M D Wx r := by
  cases r with
  | ok r S =>
    unfold HQ at h ⊢
    simp only at h ⊢
    cases e : M.J r with
    | nx t => rw [e] at h; exact fun W' σ x => h W' σ (l.trans s x)
    | bk t => rw [e] at h; exact fun W' σ x => h W' σ (l.trans s x)
    | ct t => rw [e] at h; exact fun W' σ x => h W' σ (l.trans s x)
    | rt d => rw [e] at h; exact fun W' v x => h W' v (l.transX s x)
  | err e S => exact fun W' σ od x => h W' σ od (l.trans s x)
  | bad => exact h
theorem HQ.le (s : SRep K W S0) (l : W.le W1) (h : HQ K W P M D Wx r) : HQ K W1 P M D Wx r := h.mono s (l.evo fun _ q => q)
theorem HQ.ends {D' : Ends} (hn : ∀ σ H, D.nx σ H → D'.nx σ H) (hb : ∀ σ H, D.bk σ H → D'.bk σ H) (hc : ∀ σ H, D.ct σ H → D'.ct σ H) (hr : ∀ v H, D.rt v H → D'.rt v H) (h : HQ K W P M D Wx r) : HQ K W P M D' Wx r := by
  cases r with
  | ok r S =>
    unfold HQ at h ⊢
    simp only at h ⊢
    cases e : M.J r with
    | nx t => rw [e] at h; exact fun W' σ x y z => hn _ _ (h W' σ x y z)
    | bk t => rw [e] at h; exact fun W' σ x y z => hb _ _ (h W' σ x y z)
    | ct t => rw [e] at h; exact fun W' σ x y z => hc _ _ (h W' σ x y z)
    | rt d => rw [e] at h; exact fun W' v x y z => hr _ _ (h W' v x y z)
  | err e S => exact h
  | bad => exact h
/-- an expression, then what follows -/
theorem goH {m : EM KF.D} {k : KF.D → Store → Res ρ} {R : VK} (a : At K W st S σ W.H) (hse : SubX M.se st) (q : HQ K W (ownA st σ) M D Wx ((m st S).bind k))
    (h : ∀ W1 d S1 v, W.le W1 → At K W1 st S1 σ W1.H → Rep K W1 d v → HQ K W1 (ownA st σ) M D Wx (k d S1) → R v W1.H) : tD K Wx m σ W.H R := by
  refine ⟨W, st, S, a, ?_⟩
  cases e : m st S with
  | ok d S1 =>
    rw [e] at q
    exact fun W1 v l s r => h W1 d S1 v l (a.to l s) r (HQ.le (r := k d S1) a.s l q)
  | err x S1 =>
    rw [e] at q
    exact fun W' od l s z => q W' σ od (l.evo fun _ q => hse.own q) s (hse.rep (a.e.mono l)) z
  | bad =>
    rw [e] at q
    exact q
theorem goHL {m : EM (List KF.D)} {k : List KF.D → Store → Res ρ} {R : List V → Hp → Prop} (a : At K W st S σ W.H) (hse : SubX M.se st) (q : HQ K W (ownA st σ) M D Wx ((m st S).bind k))
    (h : ∀ W1 ds S1 vs, W.le W1 → At K W1 st S1 σ W1.H → RepL K W1 ds vs → HQ K W1 (ownA st σ) M D Wx (k ds S1) → R vs W1.H) : tDL K Wx m σ W.H R := by
  refine ⟨W, st, S, a, ?_⟩
  cases e : m st S with
  | ok d S1 =>
    rw [e] at q
    exact fun W1 v l s r => h W1 d S1 v l (a.to l s) r (HQ.le (r := k d S1) a.s l q)
  | err x S1 =>
    rw [e] at q
    exact fun W' od l s z => q W' σ od (l.evo fun _ q => hse.own q) s (hse.rep (a.e.mono l)) z
  | bad =>
    rw [e] at q
    exact q
theorem goHT {m : EM Bool} {k : Bool → Store → Res ρ} {R : Bool → Hp → Prop} (a : At K W st S σ W.H) (hse : SubX M.se st) (q : HQ K W (ownA st σ) M D Wx ((m st S).bind k))
    (h : ∀ W1 b S1, W.le W1 → At K W1 st S1 σ W1.H → HQ K W1 (ownA st σ) M D Wx (k b S1) → R b W1.H) : tDB K Wx m σ W.H R := by
  refine ⟨W, st, S, a, ?_⟩
  cases e : m st S with
  | ok d S1 =>
    rw [e] at q
    exact fun W1 l s => h W1 d S1 l (a.to l s) (HQ.le (r := k d S1) a.s l q)
  | err x S1 =>
    rw [e] at q
    exact fun W' od l s z => q W' σ od (l.evo fun _ q => hse.own q) s (hse.rep (a.e.mono l)) z
  | bad =>
    rw [e] at q
    exact q
end
section
variable {ρ τ κ : Type} {X : Cx} {Wx : WX} {M : Mode ρ τ κ} {s1 : Stmt} {ss : List Stmt} {st : DSt} {p : Store → Res ρ} {e : Expr} {me : EM D} {pos : Pos} {i : Nat} {x : Str}
theorem dh_of {t : TS} {ss : List Stmt} (h : PSs X ss t) (i : ∀ W S σ D, M.C D → At X.K W st S σ W.H → HQ X.K W (ownA st σ) M D Wx (p S) → t D σ W.H) : DH X Wx M ss st p :=
  ⟨pss_imp h fun D σ H ⟨c, W, S, a, q⟩ => by
    obtain ⟨rfl, s, e⟩ := a
    exact i W S σ D c ⟨rfl, s, e⟩ q⟩
/-- the end of a block -/
theorem dh_nil {r : τ → ρ} {s : τ} (hj : M.J (r s) = .nx s) (hs : Sub (M.sl s) st) : DH X Wx M [] st (fun S => .ok (r s) S) :=
  dh_of pss_nil fun W S σ D c a q => by
    unfold HQ at q
    simp only at q
    rw [hj] at q
    exact q W σ ((Wd.le.refl W).evo fun _ z => hs.own z) a.s (hs.rep a.e)
/-- the slots of a block -/
theorem dh_sub {st1 : DSt} (hs : Sub st1 st) (h : DH X Wx M ss st1 p) : DH X Wx M ss st p :=
  dh_of h.p fun W S σ D c a q => ⟨c, W, S, ⟨rfl, a.s, hs.rep a.e⟩, q.mono a.s ((Wd.le.refl W).evo fun _ z => hs.own z)⟩
theorem dh_skip (h0 : PS X s1 tNext) (h : DH X Wx M ss st p) : DH X Wx M (s1 :: ss) st p :=
  dh_of (pss_cons h0 h.p) fun W S σ D c a q => ⟨c, W, S, a, q⟩
theorem dh_pass (h : DH X Wx M ss st p) : DH X Wx M (.Pass pos :: ss) st p := dh_skip ps_pass h
theorem dh_doc {z : Str} {j : Nat} {pos' : Pos} (h : DH X Wx M ss st p) : DH X Wx M (.Expr (.Constant (.str z) j pos) pos' :: ss) st p := dh_skip ps_doc h
theorem dh_ret {r : D → ρ} (hj : ∀ d, M.J (r d) = .rt d) (h : DE X Wx e me) (hse : SubX M.se st := by exact .inl rfl) : DH X Wx M (.Return (some e) pos :: ss) st (fun S => (me st S).bind fun d S1 => .ok (r d) S1) :=
  dh_of (pss_cons (ps_ret h.p) pss_never) fun W S σ D c a q =>
    goH a hse q fun W1 d S1 v l a1 rv q1 => by
      unfold HQ at q1
      simp only at q1
      rw [hj] at q1
      exact q1 W1 v (Wd.le.refl W1).x a1.s rv
theorem dh_retN {r : ρ} (hj : M.J r = .rt .non) : DH X Wx M (.Return none pos :: ss) st (fun S => .ok r S) :=
  dh_of (pss_cons ps_retN pss_never) fun W S σ D c a q => by
      unfold HQ at q
      simp only at q
      rw [hj] at q
      exact q W .non (Wd.le.refl W).x a.s rep_nI
theorem dh_break {s : κ} {r : κ → ρ} (hj : ∀ s, M.J (r s) = .bk s) (hs : Sub (M.sk s) st) : DH X Wx M (.Break pos :: ss) st (fun S => .ok (r s) S) :=
  dh_of (pss_cons ps_break pss_never) fun W S σ D c a q => by
      unfold HQ at q
      simp only at q
      rw [hj] at q
      exact q W σ ((Wd.le.refl W).evo fun _ z => hs.own z) a.s (hs.rep a.e)
theorem dh_cont {s : κ} {r : κ → ρ} (hj : ∀ s, M.J (r s) = .ct s) (hs : Sub (M.sk s) st) : DH X Wx M (.Continue pos :: ss) st (fun S => .ok (r s) S) :=
  dh_of (pss_cons ps_continue pss_never) fun W S σ D c a q => by
      unfold HQ at q
      simp only at q
      rw [hj] at q
      exact q W σ ((Wd.le.refl W).evo fun _ z => hs.own z) a.s (hs.rep a.e)
theorem dh_never : DH X Wx M ss st (fun _ => .bad) := dh_of pss_never fun W S σ D c a q => q
theorem dh_expr {k : D → Store → Res ρ} (h : DE X Wx e me) (hk : ∀ d, DH X Wx M ss st (k d)) (hs : swapsWith e none pos.line X.env = pure false := by rfl) (hse : SubX M.se st := by exact .inl rfl) : DH X Wx M (.Expr e pos :: ss) st (fun S => (me st S).bind k) :=
  dh_of (t := tSeq (tDrop (tD X.K Wx me)) (fun D σ H => ∃ d, tH X.K Wx M st (k d) D σ H)) (pss_cons (ps_expr h.p hs) ⟨fun pins s σ H D I ⟨d, q⟩ => (hk d).p.run pins s σ H D I q⟩) fun W S σ D c a q =>
    goH a hse q fun W1 d S1 v l a1 rv q1 => ⟨d, c, W1, S1, a1, q1⟩

/-! ### values and fresh lists -/
/-- a fresh list: free, of which nobody has a name -/
def FQ (K : PySem.W.Frag) (W : Wd) (Q : VK) (E : XK) : Res (List D) → Prop
  | .ok xs S' => ∀ W' a vs, W.le W' → SRep K W' S' → W'.H a = some (.lst vs) → W'.M a → ¬ W'.L a → a ∉ W'.N → RepL K W' xs vs → Q (.ref a) W'.H
  | .err e S' => ∀ W' od, W.le W' → SRep K W' S' → ERep K W' e od → E e.c od W'.H
  | .bad => False
def tDF (K : PySem.W.Frag) (Wx : WX) (m : EM (List D)) : TE := fun σ H Q => ∃ W st S, At K W st S σ H ∧ FQ K W Q (fun c d H' => Wx c d σ H') (m st S)
structure DF (X : Cx) (Wx : WX) (e : Expr) (m : EM (List D)) : Prop where
  p : PE X e (tDF X.K Wx m)
/-- a value, or a list of its own that nobody has: free -/
def VQS (K : PySem.W.Frag) (W : Wd) (Q : VK) (E : XK) : Res Sl → Prop
  | .ok d S' => ∀ W' v, W.le W' → SRep K W' S' → RepS K W' d v → (∀ a, isOwn d = true → v = .ref a → ¬ W.L a) → Q v W'.H
  | .err e S' => ∀ W' od, W.le W' → SRep K W' S' → ERep K W' e od → E e.c od W'.H
  | .bad => False
def tDV (K : PySem.W.Frag) (Wx : WX) (m : EM Sl) : TE := fun σ H Q => ∃ W st S, At K W st S σ H ∧ VQS K W Q (fun c d H' => Wx c d σ H') (m st S)
structure DV (X : Cx) (Wx : WX) (e : Expr) (m : EM Sl) : Prop where
  p : PE X e (tDV X.K Wx m)
def valE (m : EM D) : EM Sl := fun st S => (m st S).bind fun d S1 => .ok (.v d) S1
def ownE (m : EM (List D)) : EM Sl := fun st S => (m st S).bind fun xs S1 => .ok (.o xs) S1
theorem DE.v (h : DE X Wx e me) : DV X Wx e (valE me) := ⟨pe_imp h.p fun σ H Q ⟨W, st, S, a, q⟩ => ⟨W, st, S, a, by
  unfold valE at q
  cases e : me st S with
  | ok d S' => rw [e] at q; exact fun W' v l s r => q W' v l s r fun a h _ => by cases h
  | err x S' => rw [e] at q; exact q
  | bad => rw [e] at q; exact q⟩⟩
theorem DF.v {m : EM (List D)} (h : DF X Wx e m) : DV X Wx e (ownE m) := ⟨pe_imp h.p fun σ H Q ⟨W, st, S, at_, q⟩ => ⟨W, st, S, at_, by
  unfold ownE at q
  cases e : m st S with
  | ok xs S' =>
    rw [e] at q
    intro W' a vs l s h1 h2 h3 h4 h5
    have l2 : W'.le (W'.lock a) := Wd.lock_le
    refine q (W'.lock a) (.ref a) (l.trans l2) (s.lock h4 h2) ⟨a, vs, rfl, h1, h2, .inr rfl, h5.mono l2 _ _⟩ fun b _ e hl => ?_
    cases e
    refine h3 ?_
    cases e2 : W.H a with
    | none => exact absurd e2 (at_.s.lk a hl).1
    | some o => exact (l.l a o hl e2).1
  | err x S' => rw [e] at q; exact q
  | bad => rw [e] at q; exact q⟩⟩
theorem goV {K : PySem.W.Frag} {W : Wd} {S : Store} {σ : St} {D : Ends} {m : EM Sl} {k : Sl → Store → Res ρ} {R : VK} (a : At K W st S σ W.H) (hse : SubX M.se st) (q : HQ K W (ownA st σ) M D Wx ((m st S).bind k))
    (h : ∀ W1 d S1 v, W.le W1 → At K W1 st S1 σ W1.H → RepS K W1 d v → (∀ a, isOwn d = true → v = .ref a → ¬ W.L a) → HQ K W (ownA st σ) M D Wx (k d S1) → R v W1.H) : tDV K Wx m σ W.H R := by
  refine ⟨W, st, S, a, ?_⟩
  cases e : m st S with
  | ok d S1 =>
    rw [e] at q
    exact fun W1 v l s r f => h W1 d S1 v l (a.to l s) r f q
  | err x S1 =>
    rw [e] at q
    exact fun W' od l s z => q W' σ od (l.evo fun _ q => hse.own q) s (hse.rep (a.e.mono l)) z
  | bad =>
    rw [e] at q
    exact q
/-- name = e by the machine's word on it -/
theorem dh_set0 {ms : EM Sl} {pos' : Pos} {te : TE} {k : Sl → Store → Res ρ} (hps : PS X (.Assign [.Name x pos'] e pos) (tAsg te (gName i))) (imp : ∀ σ H Q, tDV X.K Wx ms σ H Q → te σ H Q) (hk : ∀ d, DH X Wx M ss (st.set i (some d)) (k d)) (hse : SubX M.se st := by exact .inl rfl) :
    DH X Wx M (.Assign [.Name x pos'] e pos :: ss) st (fun S => (ms st S).bind k) := by
  refine dh_of (t := tSeq (tAsg te (gName i)) (fun D σ H => ∃ d, tH X.K Wx M (st.set i (some d)) (k d) D σ H)) (pss_cons hps ⟨fun pins s σ H D I ⟨d, q⟩ => (hk d).p.run pins s σ H D I q⟩) fun W S σ D c a q => ?_
  have oL : ∀ b, ownA st σ b → W.L b := fun b => own_L a.e
  refine imp _ _ _ (goV a hse q fun W1 d S1 v l a1 rv fr q1 => ?_)
  have fr1 : ∀ b, isOwn d = true → v = .ref b → ¬ ownA st σ b := fun b h1 h2 z => fr b h1 h2 (oL b z)
  exact ⟨d, c, W1, S1, ⟨rfl, a1.s, a1.e.setS i rv fr1⟩, q1.mono a.s ⟨⟨l.toev, fun b o h _ e => l.l b o h e, fun b o h _ e => l.m b o h e⟩, fun b hb => (own_set hb).imp id fun ⟨z1, z2⟩ => fr b z1 z2⟩⟩
/-- a slot's value by its kind -/
def ofV (k : D → Store → Res ρ) (d : Sl) (S : Store) : Res ρ := match d with
  | .v x => k x S
  | _ => .bad
def ofOwn (k : List D → Store → Res ρ) (d : Sl) (S : Store) : Res ρ := match d with
  | .o xs => k xs S
  | _ => .bad
theorem dh_own {st2 : Sl → DSt} {k : List D → Store → Res ρ} (h : ∀ xs, DH X Wx M ss (st2 (.o xs)) (k xs)) (d : Sl) : DH X Wx M ss (st2 d) (ofOwn k d) := by
  cases d with
  | o xs => exact h xs
  | v x => exact dh_never
theorem dh_val {st2 : Sl → DSt} {k : D → Store → Res ρ} (h : ∀ x, DH X Wx M ss (st2 (.v x)) (k x)) (d : Sl) : DH X Wx M ss (st2 d) (ofV k d) := by
  cases d with
  | v xs => exact h xs
  | o x => exact dh_never
theorem dh_fin {p p' : Store → Res ρ} (h : DH X Wx M ss st p) (e : p = p' := by rfl) : DH X Wx M ss st p' := e ▸ h
theorem dh_eq {p p' : Store → Res ρ} (e : p = p') (h : DH X Wx M ss st p) : DH X Wx M ss st p' := e ▸ h
theorem bind_assoc {α β γ : Type} (r : Res α) (f : α → Store → Res β) (g : β → Store → Res γ) : (r.bind f).bind g = r.bind fun a S => (f a S).bind g := by cases r <;> rfl
theorem bind_cong {α ρ : Type} {r : Res α} {f g : α → Store → Res ρ} (h : ∀ a S, f a S = g a S) : r.bind f = r.bind g := by
  cases r <;> first | exact h _ _ | rfl
theorem own_bind2 {ρ : Type} {mf : EM (List D)} {st : DSt} {S : Store} {f : Sl → Store → Res ρ} {g : List D → Store → Res ρ} (h : ∀ xs S, f (.o xs) S = g xs S) : (ownE mf st S).bind f = (mf st S).bind g := by
  unfold ownE
  rw [bind_assoc]
  exact bind_cong fun xs S => h xs S
theorem val_bind2 {ρ : Type} {mf : EM D} {st : DSt} {S : Store} {f : Sl → Store → Res ρ} {g : D → Store → Res ρ} (h : ∀ xs S, f (.v xs) S = g xs S) : (valE mf st S).bind f = (mf st S).bind g := by
  unfold valE
  rw [bind_assoc]
  exact bind_cong fun xs S => h xs S
/-- name = e -/
theorem dh_set {pos' : Pos} {k : D → Store → Res ρ} (hN : X.N.Nodup) (h : DE X Wx e me) (hk : ∀ d, DH X Wx M ss (st.set i (some (.v d))) (k d)) (hi : X.N[i]? = some x := by rfl) (hx : Loc X.env.scope x := by first | exact Or.inl rfl | exact Or.inr rfl)
    (hs : swapsWith e (some (.Name x pos')) pos.line X.env = pure false := by rfl) (hf : X.fn x = true ∨ X.env.scope.names.lookup x = some .local := by first | exact .inl rfl | exact .inr rfl | assumption) (hse : SubX M.se st := by exact .inl rfl) :
    DH X Wx M (.Assign [.Name x pos'] e pos :: ss) st (fun S => (me st S).bind k) :=
  dh_eq (funext fun S => val_bind2 fun _ _ => rfl) (dh_set0 (k := ofV k) (ps_set hN hi hx h.v.p hs hf) (fun _ _ _ q => q) (dh_val (st2 := fun d => st.set i (some d)) hk) hse)
theorem dh_setF {mf : EM (List D)} {pos' : Pos} {k : List D → Store → Res ρ} (hN : X.N.Nodup) (h : DF X Wx e mf) (hk : ∀ xs, DH X Wx M ss (st.set i (some (.o xs))) (k xs)) (hi : X.N[i]? = some x := by rfl) (hx : Loc X.env.scope x := by first | exact Or.inl rfl | exact Or.inr rfl)
    (hs : swapsWith e (some (.Name x pos')) pos.line X.env = pure false := by rfl) (hf : X.fn x = true ∨ X.env.scope.names.lookup x = some .local := by first | exact .inl rfl | exact .inr rfl | assumption) (hse : SubX M.se st := by exact .inl rfl) :
    DH X Wx M (.Assign [.Name x pos'] e pos :: ss) st (fun S => (mf st S).bind k) :=
  dh_eq (funext fun S => own_bind2 fun _ _ => rfl) (dh_set0 (k := ofOwn k) (ps_set hN hi hx h.v.p hs hf) (fun _ _ _ q => q) (dh_own (st2 := fun d => st.set i (some d)) hk) hse)
end
end KF

set_option Elab.async false
set_option linter.all false
set_option maxRecDepth 100000
set_option maxHeartbeats 4000000
/-! KGB: targets, if, loops. -/
namespace KF
open PySem PySem.Spec PyProof.Rows L2
/-! ### targets -/
abbrev GY := D → DSt → Store → Res DSt
def GQ (K : PySem.W.Frag) (W : Wd) (P : Addr → Prop) (Q : St → Hp → Prop) : Res DSt → Prop
  | .ok st' S' => ∀ W' σ', W.le W' → (∀ a, ownA st' σ' a → P a) → SRep K W' S' → RepE K W' st' σ' → Q σ' W'.H
  | _ => False
def tGX (K : PySem.W.Frag) (g : GY) : TG := fun v σ H Q => ∃ W st S d P, At K W st S σ H ∧ (∀ a, ownA st σ a → P a) ∧ Rep K W d v ∧ GQ K W P Q (g d st S)
structure GX (X : Cx) (Wx : WX) (e : Expr) (g : GY) : Prop where
  p : PG X e (tGX X.K g)
def tGXs (K : PySem.W.Frag) (g : List D → DSt → Store → Res DSt) : TGs := fun vs σ H Q => ∃ W st S ds P, At K W st S σ H ∧ (∀ a, ownA st σ a → P a) ∧ RepL K W ds vs ∧ GQ K W P Q (g ds st S)
structure GXs (X : Cx) (Wx : WX) (es : List Expr) (g : List D → DSt → Store → Res DSt) : Prop where
  p : PGs X es (tGXs X.K g)
theorem GQ.mono {K : PySem.W.Frag} {W W1 : Wd} {P : Addr → Prop} {Q : St → Hp → Prop} {r : Res DSt} (l : W.le W1) (h : GQ K W P Q r) : GQ K W1 P Q r := by
  cases r with
  | ok st S => exact fun W' σ l' => h W' σ (l.trans l')
  | err e S => exact h
  | bad => exact h
section
variable {X : Cx} {Wx : WX} {pos : Pos} {e o : Expr} {es : List Expr} {mo me : EM D}
def nameY (i : Nat) : GY := fun d st S => .ok (st.set i (some (.v d))) S
theorem gx_name (i : Nat) {x : Str} (hN : X.N.Nodup) (hi : X.N[i]? = some x := by rfl) (hx : Loc X.env.scope x := by first | exact Or.inl rfl | exact Or.inr rfl) (hf : X.fn x = true ∨ X.env.scope.names.lookup x = some .local := by first | exact .inl rfl | exact .inr rfl | assumption) : GX X Wx (.Name x pos) (nameY i) :=
  ⟨pg_imp (pg_name hN hi hx hf) fun v σ H Q ⟨W, st, S, d, P, at_, hp, r, q⟩ => by
    obtain ⟨rfl, s, e⟩ := at_
    exact q W _ (.refl W) (fun a z => (own_set z).elim (hp a) fun ⟨z1, _⟩ => by cases z1) s (e.set i r)⟩
def nilY : List D → DSt → Store → Res DSt := fun ds st S => match ds with
  | [] => .ok st S
  | _ => .bad
def consY (g : GY) (gs : List D → DSt → Store → Res DSt) : List D → DSt → Store → Res DSt := fun ds st S => match ds with
  | [] => .bad
  | d :: ds => (g d st S).bind fun st1 S1 => gs ds st1 S1
theorem gxs_nil : GXs X Wx [] nilY :=
  ⟨pgs_imp pgs_nil fun v σ H Q ⟨W, st, S, ds, P, at_, hp, r, q⟩ => by
    obtain ⟨rfl, s, e⟩ := at_
    match ds, q with
    | [], q =>
      simp only [RepL] at r
      exact ⟨r, q W σ (.refl W) hp s e⟩
    | _ :: _, q => exact q.elim⟩
theorem gxs_cons {g : GY} {gs : List D → DSt → Store → Res DSt} (h1 : GX X Wx e g) (h2 : GXs X Wx es gs) (hs : (assignEach (e :: es) X.env).map (·.2) = assign e X.env :: (assignEach es X.env).map (·.2) := by rfl) : GXs X Wx (e :: es) (consY g gs) :=
  ⟨pgs_imp (pgs_cons h1.p h2.p hs) fun v σ H Q ⟨W, st, S, ds, P, at_, hp, r, q⟩ => by
    obtain ⟨rfl, s, e⟩ := at_
    match ds, q with
    | [], q => exact q.elim
    | d :: ds, q =>
      simp only [RepL] at r
      obtain ⟨u, us, rfl, r1, r2⟩ := r
      refine ⟨u, us, rfl, W, st, S, d, P, ⟨rfl, s, e⟩, hp, r1, ?_⟩
      unfold consY at q
      simp only at q
      cases h : g d st S with
      | ok st1 S1 =>
        rw [h] at q
        exact fun W' σ' l hp' s' e' => ⟨W', st1, S1, ds, P, ⟨rfl, s', e'⟩, hp', r2.mono l _ _, GQ.mono l q⟩
      | err x S1 => rw [h] at q; exact q.elim
      | bad => rw [h] at q; exact q.elim⟩
def tupY (n : Nat) (gs : List D → DSt → Store → Res DSt) : GY := fun d st S => match d with
  | .tup ds => if ds.length = n then gs ds st S else .bad
  | _ => .bad
theorem gx_tup {k : Nat} {gs : List D → DSt → Store → Res DSt} {n : Nat} (hc : X.calm = true) (h : GXs X Wx es gs) (hn : (assignEach es X.env).length = n := by rfl) (hst : (assignEach es X.env).findIdx? (·.1) = none := by rfl) : GX X Wx (.Tuple es k pos) (tupY n gs) :=
  ⟨pg_imp (pg_tup hc h.p hn hst) fun v σ H Q ⟨W, st, S, d, P, at_, hp, r, q⟩ => by
    obtain ⟨rfl, s, e⟩ := at_
    cases d <;> try exact q.elim
    rename_i ds
    unfold tupY at q
    simp only at q
    split at q
    · rename_i hl
      obtain ⟨p, vs, rfl, q1, r1⟩ := asT_rep (d := .tup ds) r rfl
      exact ⟨p, vs, rfl, q1, by rw [← r1.length]; exact hl, W, st, S, ds, P, ⟨rfl, s, e⟩, hp, r1, q⟩
    · exact q.elim⟩
/-- o[i] = v, o a cell -/
def setR (o i v : D) (S : Store) : Res Unit := match setIt o i v S with
  | some S3 => .ok () S3
  | none => .bad
def subY (o i : EM D) : GY := fun v st S => (o st S).bind fun x S1 => (i st S1).bind fun y S2 => (setR x y v S2).bind fun _ S3 => .ok st S3
theorem gx_sub (ho : DE X Wx o mo) (hi : DE X Wx e me) (ha : ∀ v, assign (.Subscript o e pos) X.env v = (do
      let ov ← holding [v] (eval o X.env)
      let iv ← holding [v, ov] (eval e X.env)
      standAt pos
      holding [v, ov, iv] (setItem ov iv v)
      release [v, ov, iv] []) := by intro _; rfl) : GX X Wx (.Subscript o e pos) (subY mo me) :=
  ⟨pg_imp (pg_sub ho.p hi.p set_list ha) fun v σ H Q ⟨W, st, S, d, P, at_, hp, r, q⟩ => by
    obtain ⟨rfl, s, ee⟩ := at_
    unfold subY at q
    refine ⟨W, st, S, ⟨rfl, s, ee⟩, ?_⟩
    cases e1 : mo st S with
    | bad => rw [e1] at q; exact q.elim
    | err x S1 => rw [e1] at q; exact q.elim
    | ok x S1 =>
      rw [e1] at q
      intro W1 xv l1 s1 r1
      refine ⟨W1, st, S1, ⟨rfl, s1, ee.mono l1⟩, ?_⟩
      simp only [bind_ok] at q
      cases e2 : me st S1 with
      | bad => rw [e2] at q; exact q.elim
      | err x S1 => rw [e2] at q; exact q.elim
      | ok y S2 =>
        rw [e2] at q
        intro W2 yv l2 s2 r2
        simp only [bind_ok] at q
        unfold setR at q
        cases h : setIt x y d S2 with
        | none => rw [h] at q; exact q.elim
        | some S3 =>
          rw [h] at q
          unfold setIt at h
          split at h
          · rename_i n xs k hm
            cases hx : ixN xs.length k with
            | none => rw [hx] at h; cases h
            | some j =>
              rw [hx] at h
              cases h
              obtain ⟨p, vs, rfl, h2, h3, h4, h5⟩ := mutL_rep s2 (r1.mono l2 _ _) hm
              obtain rfl := rep_i r2
              have l := Wd.wr_le (W := W2) (o := .lst (vs.set j v)) (b := True) h3 (s2.nl h2)
              have rd := (r.mono l1 _ _).mono l2 _ _
              refine ⟨p, vs, k, j, rfl, rfl, h4, by rw [← h5.length]; exact hx, ?_⟩
              exact q (W2.wr p (.lst (vs.set j v)) True) σ ((l1.trans l2).trans l) hp (s2.wr h2 h3 ⟨_, upd_same, ⟨h3, fun _ => trivial⟩, (RepL.set rd j h5).mono l _ _⟩) (((ee.mono l1).mono l2).mono l)
          · cases h⟩
end
section
variable {ρ τ κ σσ : Type} {X : Cx} {Wx : WX} {M : Mode ρ τ κ} {ss aa bb : List Stmt} {st : DSt} {p : Store → Res ρ} {e c : Expr} {me : EM D} {tc : EM Bool} {pos : Pos} {i : Nat} {x : Str}
/-- what a target's storing leaves, then a block: r is the block's reading for this item -/
def Goes (X : Cx) (Wx : WX) (M : Mode ρ τ κ) (ss : List Stmt) (g : Res DSt) (r : Res ρ) : Prop := r = .bad ∨ ∃ st1 S1 p, g = .ok st1 S1 ∧ DH X Wx M ss st1 p ∧ r = p S1
theorem Goes.to {g : Res DSt} {st1 : DSt} {S1 : Store} (hg : g = .ok st1 S1) (h : DH X Wx M ss st1 p) : Goes X Wx M ss g (p S1) := .inr ⟨st1, S1, p, hg, h, rfl⟩
/-- the union of a block's readings -/
def tAll (X : Cx) (Wx : WX) (M : Mode ρ τ κ) (ss : List Stmt) : TS := fun D σ H => ∃ st p, DH X Wx M ss st p ∧ tH X.K Wx M st p D σ H
theorem pss_all : PSs X ss (tAll X Wx M ss) := ⟨fun pins s σ H D I ⟨_, _, h, q⟩ => h.p.run pins s σ H D I q⟩
/-- target = e -/
theorem dh_asg {tg : Expr} {g : GY} {k : D → Store → Res ρ} (h : DE X Wx e me) (hg : GX X Wx tg g) (hk : ∀ d S, Goes X Wx M ss (g d st S) (k d S)) (hs : swapsWithSole [tg] e pos.line X.env = pure false := by rfl) (hw : swappedStores [tg] e X.env = pure none := by rfl)
    (h1 : (assignEach [tg] X.env).map (·.2) = [assign tg X.env] := by rfl) (hse : SubX M.se st := by exact .inl rfl) : DH X Wx M (.Assign [tg] e pos :: ss) st (fun S => (me st S).bind k) :=
  dh_of (pss_cons (ps_asg h.p hg.p hs hw h1) (pss_all (Wx := Wx) (M := M))) fun W S σ D c a q =>
    goH a hse q fun W1 d S1 v l a1 rv q1 => by
      refine ⟨W1, st, S1, d, ownA st σ, a1, fun _ z => z, rv, ?_⟩
      rcases hk d S1 with z | ⟨st1, S2, p1, z1, z2, z3⟩
      · rw [z] at q1; exact q1.elim
      · rw [z3] at q1
        rw [z1]
        exact fun W' σ' l' hp s' e' => ⟨st1, p1, z2, c, W', S2, ⟨rfl, s', e'⟩, q1.mono a1.s (l'.evo hp)⟩

/-! ### if -/
def Mode.sub (M : Mode ρ τ κ) (slj : σσ → DSt) : Mode (Step σσ κ) σσ κ := { J := fun r => r, ir := .rt, ib := .bk, ic := .ct, hr := fun _ => rfl, hb := fun _ => rfl, hc := fun _ => rfl, sl := slj, sk := M.sk, se := M.se, C := fun _ => True }
def thn (ir : D → ρ) (ib ic : κ → ρ) (r : Res (Step σσ κ)) (k : σσ → Store → Res ρ) : Res ρ := match r with
  | .ok (.nx s) S => k s S
  | .ok (.rt d) S => .ok (ir d) S
  | .ok (.bk s) S => .ok (ib s) S
  | .ok (.ct s) S => .ok (ic s) S
  | .err e S => .err e S
  | .bad => .bad
theorem thn_go {K : PySem.W.Frag} {W : Wd} {P : Addr → Prop} {D : Ends} {S0 : Store} {slj : σσ → DSt} {r : Res (Step σσ κ)} {k : σσ → Store → Res ρ} {N : St → Hp → Prop} (s : SRep K W S0) (q : HQ K W P M D Wx (thn M.ir M.ib M.ic r k))
    (h : ∀ W' σ j S, Evo P (ownA (slj j) σ) W W' → SRep K W' S → RepE K W' (slj j) σ → HQ K W' (ownA (slj j) σ) M D Wx (k j S) → N σ W'.H) : HQ K W P (M.sub slj) { D with nx := N } Wx r := by
  cases r with
  | bad => exact q
  | err e S => exact q
  | ok r S =>
    cases r with
    | nx j => exact fun W' σ x y z => h W' σ j S x y z (HQ.mono (r := k j S) s x q)
    | rt d =>
      unfold thn HQ at q
      simp only [M.hr] at q
      exact q
    | bk d =>
      unfold thn HQ at q
      simp only [M.hb] at q
      exact q
    | ct d =>
      unfold thn HQ at q
      simp only [M.hc] at q
      exact q
theorem dh_if {slj : σσ → DSt} {pa pb : Store → Res (Step σσ κ)} {k : σσ → Store → Res ρ} (hc : DT X Wx c tc) (ha : DH X Wx (M.sub slj) aa st pa) (hb : DH X Wx (M.sub slj) bb st pb) (hk : ∀ j, DH X Wx M ss (slj j) (k j)) (hse : SubX M.se st := by exact .inl rfl) :
    DH X Wx M (.If c aa bb pos :: ss) st (fun S => (tc st S).bind fun b S1 => thn M.ir M.ib M.ic (if b then pa S1 else pb S1) k) := by
  refine dh_of (pss_cons (ps_if hc.p ha.p hb.p) (pss_all (Wx := Wx) (M := M))) fun W S σ D cD a q => ?_
  refine goHT a hse q fun W1 b S1 l a1 q1 => ?_
  have go := thn_go (slj := slj) (N := fun σ H => tAll X Wx M ss D σ H) a1.s q1 fun W' σ' j S' x y z w => ⟨slj j, k j, hk j, cD, W', S', ⟨rfl, y, z⟩, w⟩
  cases b with
  | true => exact ⟨trivial, W1, S1, a1, go⟩
  | false => exact ⟨trivial, W1, S1, a1, go⟩
/-- the last statement -/
theorem dh_ifT {pa pb : Store → Res ρ} (hc : DT X Wx c tc) (ha : DH X Wx M aa st pa) (hb : DH X Wx M bb st pb) (hse : SubX M.se st := by exact .inl rfl) :
    DH X Wx M [.If c aa bb pos] st (fun S => (tc st S).bind fun b S1 => if b then pa S1 else pb S1) := by
  refine dh_of (pss_one (ps_if hc.p ha.p hb.p)) fun W S σ D cD a q => ?_
  refine goHT a hse q fun W1 b S1 l a1 q1 => ?_
  cases b with
  | true => exact ⟨cD, W1, S1, a1, q1⟩
  | false => exact ⟨cD, W1, S1, a1, q1⟩
/-- the same where nothing falls through -/
def Mode.dv (M : Mode ρ τ κ) : Mode ρ τ κ := { M with C := fun _ => True }
theorem dh_ifr {pa pb : Store → Res ρ} (hn : ∀ r s, M.J r ≠ .nx s) (hc : DT X Wx c tc) (ha : DH X Wx M.dv aa st pa) (hb : DH X Wx M ss st pb) (hse : SubX M.se st := by exact .inl rfl) :
    DH X Wx M (.If c aa [] pos :: ss) st (fun S => (tc st S).bind fun b S1 => if b then pa S1 else pb S1) := by
  refine dh_of (pss_cons (ps_if hc.p ha.p pss_nil) hb.p) fun W S σ D cD a q => ?_
  refine goHT a hse q fun W1 b S1 l a1 q1 => ?_
  cases b with
  | false => exact ⟨cD, W1, S1, a1, q1⟩
  | true =>
    refine ⟨trivial, W1, S1, a1, ?_⟩
    replace q1 : HQ X.K W1 (ownA st σ) M D Wx (pa S1) := q1
    show HQ X.K W1 (ownA st σ) M.dv _ Wx (pa S1)
    generalize pa S1 = r at q1
    cases r with
    | bad => exact q1
    | err e S => exact q1
    | ok r S =>
      unfold HQ at q1 ⊢
      simp only [Mode.dv] at q1 ⊢
      cases e : M.J r with
      | nx s => exact absurd e (hn r s)
      | _ => rw [e] at q1; exact q1

/-! ### for -/
def forP (step : D → σσ → Store → Res (Step σσ σσ)) : List D → σσ → Store → Res (Step σσ κ)
  | [], s, S => .ok (.nx s) S
  | d :: ds, s, S => match step d s S with
    | .ok (.nx s1) S1 => forP step ds s1 S1
    | .ok (.ct s1) S1 => forP step ds s1 S1
    | .ok (.bk s1) S1 => .ok (.nx s1) S1
    | .ok (.rt r) S1 => .ok (.rt r) S1
    | .err e S1 => .err e S1
    | .bad => .bad
def Mode.loop (M : Mode ρ τ κ) (slj : σσ → DSt) : Mode (Step σσ σσ) σσ σσ := { J := fun r => r, ir := .rt, ib := .bk, ic := .ct, hr := fun _ => rfl, hb := fun _ => rfl, hc := fun _ => rfl, sl := slj, sk := slj, se := M.se, C := fun _ => True }
/-- a turn, then what follows -/
def turn (r : Res (Step σσ σσ)) (f : σσ → Store → Res (Step σσ κ)) : Res (Step σσ κ) := match r with
  | .ok (.nx s1) S1 => f s1 S1
  | .ok (.ct s1) S1 => f s1 S1
  | .ok (.bk s1) S1 => .ok (.nx s1) S1
  | .ok (.rt r) S1 => .ok (.rt r) S1
  | .err e S1 => .err e S1
  | .bad => .bad
theorem forP_cons {step : D → σσ → Store → Res (Step σσ σσ)} {d : D} {ds : List D} {s : σσ} {S : Store} : forP (κ := κ) step (d :: ds) s S = turn (step d s S) (forP step ds) := by
  unfold turn
  rw [forP]
theorem turn_go {K : PySem.W.Frag} {W : Wd} {P : Addr → Prop} {D : Ends} {S0 : Store} {slj : σσ → DSt} {r : Res (Step σσ σσ)} {f : σσ → Store → Res (Step σσ κ)} {k : σσ → Store → Res ρ} {N B : St → Hp → Prop} (s : SRep K W S0)
    (q : HQ K W P M D Wx (thn M.ir M.ib M.ic (turn r f) k))
    (h : ∀ W' σ j S, Evo P (ownA (slj j) σ) W W' → SRep K W' S → RepE K W' (slj j) σ → HQ K W' (ownA (slj j) σ) M D Wx (thn M.ir M.ib M.ic (f j S) k) → N σ W'.H)
    (hb : ∀ W' σ j S, Evo P (ownA (slj j) σ) W W' → SRep K W' S → RepE K W' (slj j) σ → HQ K W' (ownA (slj j) σ) M D Wx (k j S) → B σ W'.H) :
    HQ K W P (M.loop slj) { nx := N, ct := N, bk := B, rt := D.rt } Wx r := by
  cases r with
  | bad => exact q
  | err e S => exact q
  | ok r S =>
    cases r with
    | nx j => exact fun W' σ x y z => h W' σ j S x y z (HQ.mono (r := thn M.ir M.ib M.ic (f j S) k) s x q)
    | ct j => exact fun W' σ x y z => h W' σ j S x y z (HQ.mono (r := thn M.ir M.ib M.ic (f j S) k) s x q)
    | bk j => exact fun W' σ x y z => hb W' σ j S x y z (HQ.mono (r := k j S) s x q)
    | rt d =>
      unfold turn thn HQ at q
      simp only [M.hr] at q
      exact q
theorem dh_for {tg iter : Expr} {body : List Stmt} {mi : EM (List D)} {g : GY} {slj : σσ → DSt} {s0 : σσ} {step : D → σσ → Store → Res (Step σσ σσ)} {k : σσ → Store → Res ρ} (hp : PassesOwn (model X.prog X.w) X.A X.env X.xe) (hc : X.calm = true)
    (hi : DI X Wx tg iter mi) (hg : GX X Wx tg g) (hb : ∀ d s S, Goes X Wx (M.loop slj) body (g d (slj s) S) (step d s S)) (hk : ∀ s, DH X Wx M ss (slj s) (k s)) (h0 : Sub (slj s0) st)
    (hs : ∀ x, foldedSetIterable iter X.env x = pure x := by intro _; rfl) (hse : SubX M.se st := by exact .inl rfl) :
    DH X Wx M (.For tg iter body [] pos :: ss) st (fun S => (mi st S).bind fun ds S1 => thn M.ir M.ib M.ic (forP step ds s0 S1) k) := by
  refine dh_of (pss_cons (ps_for hp hc hi.p hg.p (pss_all (Wx := Wx) (M := M.loop slj)) hs) (pss_all (Wx := Wx) (M := M))) fun W S σ D cD a q => ?_
  refine ⟨W, st, S, a, ?_⟩
  cases e : mi st S with
  | bad => rw [e] at q; exact q.elim
  | err x S1 =>
    rw [e] at q
    exact fun W' od l s z => q W' σ od (l.evo fun _ q => hse.own q) s (hse.rep (a.e.mono l)) z
  | ok ds S1 =>
    rw [e] at q
    simp only [bind_ok] at q
    intro W1 J l a1 kk
    obtain ⟨G, Y, w, hG, hY⟩ := kk.w
    have fin : ∀ W2 σ2 j S2, Evo (ownA st σ) (ownA (slj j) σ2) W1 W2 → SRep X.K W2 S2 → RepE X.K W2 (slj j) σ2 → HQ X.K W2 (ownA (slj j) σ2) M D Wx (k j S2) → tAll X Wx M ss D σ2 W2.H :=
      fun W2 σ2 j S2 x y z w => ⟨slj j, k j, hk j, cD, W2, S2, ⟨rfl, y, z⟩, w⟩
    refine for_it (D := { D with nx := tAll X Wx M ss D }) w (fun i σ2 H => ∃ W2 j S2, Evo (ownA st σ) (ownA (slj j) σ2) W1 W2 ∧ At X.K W2 (slj j) S2 σ2 H ∧ HQ X.K W2 (ownA (slj j) σ2) M D Wx (thn M.ir M.ib M.ic (forP step (ds.drop i) j S2) k))
      ⟨W1, s0, S1, (Wd.le.refl W1).evo fun _ z => h0.own z, ⟨rfl, a1.s, h0.rep a1.e⟩, ?_⟩ ?_ ?_ ?_
    · exact HQ.mono (r := thn M.ir M.ib M.ic (forP step ds s0 S1) k) a.s (l.evo fun _ z => h0.own z) q
    · rintro i σ2 H hi ⟨W2, j, S2, l2, a2, _⟩
      rw [← a2.h]
      exact hG W2 l2.toev
    · rintro i x σ2 H H' hi ⟨W2, j, S2, l2, a2, q2⟩ y
      obtain ⟨rfl, s2, e2⟩ := a2
      have hd : ds[i]? = some ds[i] := List.getElem?_eq_getElem hi
      obtain ⟨W3, rfl, l3, s3, r3⟩ := hY W2 S2 i x H' _ l2.toev s2 hd y
      refine ⟨W3, slj j, S2, ds[i], ownA (slj j) σ2, ⟨rfl, s3, e2.mono l3⟩, fun _ z => z, r3, ?_⟩
      rw [List.drop_eq_getElem_cons hi, forP_cons] at q2
      have q3 := HQ.mono (r := thn M.ir M.ib M.ic (turn (step ds[i] j S2) (forP step (ds.drop (i + 1)))) k) s2 (l3.evo fun _ z => z) q2
      have l23 : Evo (ownA st σ) (ownA (slj j) σ2) W1 W3 := l2.trans a1.s (l3.evo fun _ z => z)
      rcases hb ds[i] j S2 with z | ⟨st1, S3, p1, z1, z2, z3⟩
      · rw [z] at q3; exact q3.elim
      · rw [z1]
        rw [z3] at q3
        intro W4 σ4 l4 hp4 s4 e4
        have l34 : Evo (ownA (slj j) σ2) (ownA st1 σ4) W3 W4 := l4.evo hp4
        have q4 := HQ.mono (r := thn M.ir M.ib M.ic (turn (p1 S3) (forP step (ds.drop (i + 1)))) k) s3 l34 q3
        have l14 := l23.trans a1.s l34
        refine ⟨st1, p1, z2, trivial, W4, S3, ⟨rfl, s4, e4⟩, ?_⟩
        exact turn_go (D := D) (M := M) (k := k) (slj := slj) s4 q4 (fun W5 σ5 j5 S5 x y z w => ⟨W5, j5, S5, l14.trans a1.s x, ⟨rfl, y, z⟩, w⟩) fun W5 σ5 j5 S5 x y z w => fin W5 σ5 j5 S5 (l14.trans a1.s x) y z w
    · rintro σ2 H ⟨W2, j, S2, l2, a2, q2⟩
      obtain ⟨rfl, s2, e2⟩ := a2
      rw [List.drop_of_length_le (Nat.le_refl _)] at q2
      exact fin W2 σ2 j S2 l2 s2 e2 q2
end
end KF

set_option Elab.async false
set_option linter.all false
set_option maxRecDepth 100000
set_option maxHeartbeats 4000000
/-! KGC: lists of one slot's own; while; thaw. -/
namespace KF
open PySem PySem.Spec PyProof.Rows L2
section
variable {K : PySem.W.Frag} {W : Wd} {S : Store} {st : DSt} {σ : St} {i : Nat} {xs ys : List D} {a : Addr}
/-- the list at a is another one now -/
def Wd.hp (W : Wd) (a : Addr) (o : HO) : Wd := { W with H := upd W.H a o }
theorem set_self {α : Type} {l : List α} {i : Nat} {x : α} (h : l[i]? = some x) : l.set i x = l := by
  apply List.ext_getElem?
  intro j
  by_cases hj : i = j
  · subst hj
    rw [List.getElem?_set_self (List.getElem?_eq_some_iff.mp h).1, h]
  · rw [List.getElem?_set_ne hj]
theorem own_upd (e : RepE K W st σ) (s : SRep K W S) (hs : st[i]? = some (some (.o xs))) {us : List V} : ∃ a vs, σ[i]? = some (some (.ref a)) ∧ W.H a = some (.lst vs) ∧ RepL K W xs vs ∧
    (RepL K W ys us → SRep K (W.hp a (.lst us)) S ∧ RepE K (W.hp a (.lst us)) (st.set i (some (.o ys))) σ ∧ Evo (ownA st σ) (ownA (st.set i (some (.o ys))) σ) W (W.hp a (.lst us))) := by
  obtain ⟨v, h1, h2⟩ := e.at_ i _ hs
  obtain ⟨a, vs, rfl, q1, q2, q3, q4⟩ := h2
  refine ⟨a, vs, h1, q1, q4, fun r => ?_⟩
  have ev : W.ev (W.hp a (.lst us)) := ⟨fun _ _ h => h, fun b o h m => by
    have ne : b ≠ a := fun z => m (z ▸ q2)
    exact ⟨by show upd W.H a _ b = _; rw [upd_ne ne]; exact h, m⟩⟩
  have up : ∀ {b : Addr}, b ≠ a → (W.hp a (.lst us)).H b = W.H b := fun h => upd_ne h
  have sσ : σ.set i (some (.ref a)) = σ := set_self h1
  have ow : ∀ b, ownA (st.set i (some (.o ys))) σ b → ownA st σ b := fun b hb => by
    rw [← sσ] at hb
    rcases own_set hb with z | ⟨_, z⟩
    · exact z
    · cases z; exact ⟨i, _, hs, rfl, h1⟩
  refine ⟨⟨s.len, s.nd, fun x hx => upd_nn (s.tr x hx), fun x hx => upd_nn (s.mn x hx), fun x hx => ⟨upd_nn (s.lk x hx).1, (s.lk x hx).2⟩, fun n x c h3 h4 => (s.at_ n x c h3 h4).mono ev (up fun z => (s.lk a q3).2 (z ▸ List.mem_of_getElem? h3)) Iff.rfl⟩, ?_,
    ⟨⟨ev, fun b o h3 h4 h5 => ⟨h3, ?_⟩, fun _ _ _ _ _ m => m⟩, fun b hb => .inl (ow b hb)⟩⟩
  · -- the slots
    have old : ∀ j (d : Sl), j ≠ i → st[j]? = some (some d) → ∃ v, σ[j]? = some (some v) ∧ RepS K (W.hp a (.lst us)) d v := fun j d hj hd => by
      obtain ⟨v, z1, z2⟩ := e.at_ j d hd
      refine ⟨v, z1, ?_⟩
      cases d with
      | o zs =>
        obtain ⟨b, ws, rfl, w1, w2, w3, w4⟩ := z2
        have ne : b ≠ a := fun z => e.sep j i _ _ b hj hd rfl hs rfl z1 (by rw [z]; exact h1)
        exact ⟨b, ws, rfl, by rw [up ne]; exact w1, w2, w3, w4.monoE ev _ _⟩
      | v z => exact Rep.monoE ev _ _ z2
    have hi : i < st.length := (List.getElem?_eq_some_iff.mp hs).1
    have gt : ∀ (j : Nat) (d : Sl), (st.set i (some (.o ys)))[j]? = some (some d) → (j = i ∧ d = .o ys) ∨ (j ≠ i ∧ st[j]? = some (some d)) := fun j d hd => by
      by_cases hj : i = j
      · subst hj
        rw [List.getElem?_set_self hi] at hd
        cases hd
        exact .inl ⟨rfl, rfl⟩
      · rw [List.getElem?_set_ne hj] at hd
        exact .inr ⟨fun z => hj z.symm, hd⟩
    refine ⟨by simpa using e.len, fun j d hd => ?_, fun j k d d' b hjk e1 o1 e2 o2 s1 s2 => ?_⟩
    · rcases gt j d hd with ⟨rfl, rfl⟩ | ⟨hj, hd'⟩
      · exact ⟨_, h1, a, us, rfl, upd_same, q2, q3, r.monoE ev _ _⟩
      · exact old j d hj hd'
    · rcases gt j d e1 with ⟨rfl, rfl⟩ | ⟨hj, e1'⟩
      · rcases gt k d' e2 with ⟨rfl, rfl⟩ | ⟨hk, e2'⟩
        · exact hjk rfl
        · exact e.sep j k _ d' b hjk hs rfl e2' o2 s1 s2
      · rcases gt k d' e2 with ⟨rfl, rfl⟩ | ⟨hk, e2'⟩
        · exact e.sep j k d _ b hjk e1' o1 hs rfl s1 s2
        · exact e.sep j k d d' b hjk e1' o1 e2' o2 s1 s2
  · have ne : b ≠ a := fun z => h4 ⟨i, _, hs, rfl, by rw [z]; exact h1⟩
    rw [up ne]
    exact h5
/-- nobody changes it any more -/
def Wd.frz (W : Wd) (a : Addr) : Wd := { W with M := fun x => W.M x ∧ x ≠ a, L := fun x => W.L x ∧ x ≠ a }
theorem own_frz (e : RepE K W st σ) (s : SRep K W S) (hs : st[i]? = some (some (.o xs))) : ∃ a, σ[i]? = some (some (.ref a)) ∧ SRep K (W.frz a) S ∧ Rep K (W.frz a) (.lst xs) (.ref a) ∧ RepE K (W.frz a) (st.set i (some (.v (.lst xs)))) σ ∧ Evo (ownA st σ) (ownA (st.set i (some (.v (.lst xs)))) σ) W (W.frz a) := by
  obtain ⟨v, h1, h2⟩ := e.at_ i _ hs
  obtain ⟨a, vs, rfl, q1, q2, q3, q4⟩ := h2
  have ev : W.ev (W.frz a) := ⟨fun _ _ h => h, fun b o h m => ⟨h, fun z => m z.1⟩⟩
  have nN := (s.lk a q3).2
  have hi : i < st.length := (List.getElem?_eq_some_iff.mp hs).1
  have rl : Rep K (W.frz a) (.lst xs) (.ref a) := by
    simp only [Rep]
    exact ⟨a, vs, rfl, q1, fun z => z.2 rfl, q4.monoE ev _ _⟩
  have sσ : σ.set i (some (.ref a)) = σ := set_self h1
  have ow : ∀ b, ownA (st.set i (some (.v (.lst xs)))) σ b → ownA st σ b ∧ b ≠ a := fun b hb => by
    obtain ⟨j, x, z1, z2, z3⟩ := hb
    by_cases hj : i = j
    · subst hj
      rw [List.getElem?_set_self hi] at z1
      cases z1
      cases z2
    · rw [List.getElem?_set_ne hj] at z1
      exact ⟨⟨j, x, z1, z2, z3⟩, fun z => e.sep j i _ _ b (fun y => hj y.symm) z1 z2 hs rfl z3 (by rw [z]; exact h1)⟩
  refine ⟨a, h1, ⟨s.len, s.nd, s.tr, fun x hx => s.mn x hx.1, fun x hx => s.lk x hx.1, fun n x c h3 h4 => (s.at_ n x c h3 h4).mono ev rfl ⟨fun z => z.1, fun z => ⟨z, fun y => nN (y ▸ List.mem_of_getElem? h3)⟩⟩⟩, rl, ?_,
    ⟨⟨ev, fun b o h3 h4 h5 => ⟨⟨h3, fun z => h4 ⟨i, _, hs, rfl, by rw [z]; exact h1⟩⟩, h5⟩, fun b o h3 h4 h5 m => ⟨m, fun z => h4 ⟨i, _, hs, rfl, by rw [z]; exact h1⟩⟩⟩, fun b hb => .inl (ow b hb).1⟩⟩
  have gt : ∀ (j : Nat) (d : Sl), (st.set i (some (.v (.lst xs))))[j]? = some (some d) → (j = i ∧ d = .v (.lst xs)) ∨ (j ≠ i ∧ st[j]? = some (some d)) := fun j d hd => by
    by_cases hj : i = j
    · subst hj
      rw [List.getElem?_set_self hi] at hd
      cases hd
      exact .inl ⟨rfl, rfl⟩
    · rw [List.getElem?_set_ne hj] at hd
      exact .inr ⟨fun z => hj z.symm, hd⟩
  refine ⟨by simpa using e.len, fun j d hd => ?_, fun j k d d' b hjk e1 o1 e2 o2 s1 s2 => ?_⟩
  · rcases gt j d hd with ⟨rfl, rfl⟩ | ⟨hj, hd'⟩
    · exact ⟨_, h1, rl⟩
    · obtain ⟨v, z1, z2⟩ := e.at_ j d hd'
      refine ⟨v, z1, ?_⟩
      cases d with
      | o zs =>
        obtain ⟨b, ws, rfl, w1, w2, w3, w4⟩ := z2
        have ne : b ≠ a := fun z => e.sep j i _ _ b hj hd' rfl hs rfl z1 (by rw [z]; exact h1)
        exact ⟨b, ws, rfl, w1, ⟨w2, ne⟩, ⟨w3, ne⟩, w4.monoE ev _ _⟩
      | v z => exact Rep.monoE ev _ _ z2
  · rcases gt j d e1 with ⟨rfl, rfl⟩ | ⟨hj, e1'⟩
    · cases o1
    · rcases gt k d' e2 with ⟨rfl, rfl⟩ | ⟨hk, e2'⟩
      · cases o2
      · exact e.sep j k d d' b hjk e1' o1 e2' o2 s1 s2
end
section
variable {ρ τ κ σσ : Type} {X : Cx} {Wx : WX} {M : Mode ρ τ κ} {ss : List Stmt} {st : DSt} {p : Store → Res ρ} {e e2 : Expr} {me me2 : EM D} {pos apos cpos vp : Pos} {i : Nat} {x : Str} {xs : List D}
/-- a list that is not changed any more -/
theorem dh_frz (i : Nat) (h : DH X Wx M ss (st.set i (some (.v (.lst xs)))) p) (hs : st[i]? = some (some (.o xs)) := by rfl) : DH X Wx M ss st p :=
  dh_of h.p fun W S σ D c a q => by
    obtain ⟨b, h1, h2, h3, h4, h5⟩ := own_frz a.e a.s hs
    exact ⟨c, W.frz b, S, ⟨rfl, h2, h4⟩, q.mono a.s h5⟩
theorem dh_retO {r : D → ρ} (i : Nat) (hj : ∀ d, M.J (r d) = .rt d) (hN : X.N[i]? = some x := by rfl) (hv : Vis X.env.scope x := by first | exact Or.inl rfl | exact Or.inr (Or.inl rfl) | exact Or.inr (Or.inr rfl)) (hd : (x == ("__debug__" : Str)) = false := by decide)
    (hcd : (x == ("__classdict__" : Str)) = false := by decide) (hs : st[i]? = some (some (.o xs)) := by rfl) : DH X Wx M (.Return (some (.Name x vp)) pos :: ss) st (fun S => .ok (r (.lst xs)) S) :=
  dh_frz i (dh_of (pss_cons (ps_ret (pe_var hN hv hd hcd)) pss_never) fun W S σ D c a q => by
    have hi : i < st.length := (List.getElem?_eq_some_iff.mp hs).1
    obtain ⟨v, h1, h2⟩ := a.e.get (i := i) (d := .lst xs) (by rw [List.getElem?_set_self hi])
    refine ⟨v, h1, ?_⟩
    unfold HQ at q
    simp only at q
    rw [hj] at q
    exact q W v (Wd.le.refl W).x a.s h2) hs
/-- the receiver: a slot's own list -/
theorem own_rcv {K : PySem.W.Frag} {σ : St} {H : Hp} {Q : VK} {r : V → List V → Hp → VK → Prop} {t : TA} {b : Addr} {vs : List V} (h1 : σ[i]? = some (some (.ref b))) (hH : H b = some (.lst vs)) (h : t σ H fun xs H2 => r (.ref b) xs H2 Q) : tBM K "list" r (tVar i) t σ H Q :=
  ⟨.ref b, h1, .inl ⟨rfl, vs, .inl (.inl hH)⟩, h⟩
theorem dh_app (i : Nat) {k : D → Store → Res ρ} (h : DE X Wx e me) (hk : ∀ d, DH X Wx M ss (st.set i (some (.o (xs ++ [d])))) (k d)) (hse : SubX M.se st := by exact .inl rfl) (hs : st[i]? = some (some (.o xs)) := by rfl)
    (hN : X.N[i]? = some x := by rfl) (hv : Vis X.env.scope x := by first | exact Or.inl rfl | exact Or.inr (Or.inl rfl) | exact Or.inr (Or.inr rfl)) (hd : (x == ("__debug__" : Str)) = false := by decide) (hcd : (x == ("__classdict__" : Str)) = false := by decide)
    (h1 : attributeBase (.Name x vp) (Str.ofString "append") X.env (eval (.Name x vp) X.env) = eval (.Name x vp) X.env := by rfl)
    (h2 : ((backTo cpos (starEach [e] X.env)).all (fun x => !x.1) && (backToKw cpos (keywordEach [] X.env)).all (fun x => x.1.isSome) && decide ([e].length + ([] : List Keyword).length + (if ([] : List Keyword).isEmpty then 0 else 1) < 30)) = true := by rfl)
    (h3 : (apos.endLine == cpos.line) = true := by rfl) (h4 : starEach [e] X.env = (false, eval e X.env) :: starEach [] X.env := by rfl) (h5 : (backTo cpos (starEach [] X.env)).any (·.1) = false := by rfl)
    (hsw : swapsWith (.Call (.Attribute (.Name x vp) (Str.ofString "append") apos) [e] [] cpos) none pos.line X.env = pure false := by rfl) :
    DH X Wx M (.Expr (.Call (.Attribute (.Name x vp) (Str.ofString "append") apos) [e] [] cpos) pos :: ss) st (fun S => (me st S).bind fun d S1 => if xs.length < sizeLine then k d S1 else .bad) := by
  refine dh_of (pss_cons (ps_expr (pe_bm PySem.F.plainAttrs_list PySem.F.slot_list_append PySem.F.type_list_append mt_append (pe_var hN hv hd hcd) (pa_cons h.p pa_nil h4) h1 h2 h3 h4 h5) hsw) (pss_all (Wx := Wx) (M := M))) fun W S σ D c a q => ?_
  obtain ⟨b, vs, z1, z2, z3, _⟩ := own_upd (ys := []) (us := []) a.e a.s hs
  show tBM X.K "list" _ (tVar i) _ σ W.H _
  refine own_rcv z1 z2 ?_
  refine goH a hse q fun W1 d S1 v l a1 rv q1 => ?_
  split at q1
  · rename_i hl
    obtain ⟨b', vs', y1, y2, y3, y4⟩ := own_upd (ys := xs ++ [d]) (us := vs ++ [v]) a1.e a1.s hs
    have eb : b' = b := by rw [z1] at y1; cases y1; rfl
    subst eb
    have ev : vs' = vs := by
      obtain ⟨u, w1, w2⟩ := a.e.at_ i _ hs
      obtain ⟨b2, vs2, rfl, r1, r2, r3, r4⟩ := w2
      rw [z1] at w1
      cases w1
      have := (l.l _ _ r3 r1).2
      rw [y2] at this
      rw [z2] at r1
      cases r1
      cases this
      rfl
    subst ev
    obtain ⟨t1, t2, t3⟩ := y4 (repL_append y3 (repL_cons rv repL_nil))
    refine ⟨b', vs', v, rfl, rfl, y2, by rw [← y3.length]; exact hl, ?_⟩
    exact ⟨_, k d, hk d, c, W1.hp b' (.lst (vs' ++ [v])), S1, ⟨rfl, t1, t2⟩, q1.mono a1.s t3⟩
  · exact q1.elim
def rIns : V → List V → Hp → VK → Prop := fun x vs H Q => ∃ (l : Addr) (xs : List V) (i : Int) (y : V), x = .ref l ∧ vs = [.int i, y] ∧ H l = some (.lst xs) ∧ xs.length < sizeLine ∧ 0 ≤ i ∧ i < 2 ^ 63 ∧ Q .non (upd H l (.lst (xs.take i.toNat ++ [y] ++ xs.drop i.toNat)))
theorem mt_ins : MtR X "list.insert" rIns := mt_insert
theorem dh_ins (i : Nat) {k : D → Nat → Store → Res ρ} (hi : DE X Wx e me) (h : DE X Wx e2 me2) (hk : ∀ d n, DH X Wx M ss (st.set i (some (.o (xs.take n ++ [d] ++ xs.drop n)))) (k d n)) (hse : SubX M.se st := by exact .inl rfl) (hs : st[i]? = some (some (.o xs)) := by rfl)
    (hN : X.N[i]? = some x := by rfl) (hv : Vis X.env.scope x := by first | exact Or.inl rfl | exact Or.inr (Or.inl rfl) | exact Or.inr (Or.inr rfl)) (hd : (x == ("__debug__" : Str)) = false := by decide) (hcd : (x == ("__classdict__" : Str)) = false := by decide)
    (h1 : attributeBase (.Name x vp) (Str.ofString "insert") X.env (eval (.Name x vp) X.env) = eval (.Name x vp) X.env := by rfl)
    (h2 : ((backTo cpos (starEach [e, e2] X.env)).all (fun x => !x.1) && (backToKw cpos (keywordEach [] X.env)).all (fun x => x.1.isSome) && decide ([e, e2].length + ([] : List Keyword).length + (if ([] : List Keyword).isEmpty then 0 else 1) < 30)) = true := by rfl)
    (h3 : (apos.endLine == cpos.line) = true := by rfl) (h4 : starEach [e, e2] X.env = (false, eval e X.env) :: starEach [e2] X.env := by rfl) (h4' : starEach [e2] X.env = (false, eval e2 X.env) :: starEach [] X.env := by rfl) (h5 : (backTo cpos (starEach [e2] X.env)).any (·.1) = false := by rfl)
    (hsw : swapsWith (.Call (.Attribute (.Name x vp) (Str.ofString "insert") apos) [e, e2] [] cpos) none pos.line X.env = pure false := by rfl) :
    DH X Wx M (.Expr (.Call (.Attribute (.Name x vp) (Str.ofString "insert") apos) [e, e2] [] cpos) pos :: ss) st (fun S => (me st S).bind fun n S1 => (me2 st S1).bind fun d S2 => match n with
      | .int j => if xs.length < sizeLine ∧ 0 ≤ j ∧ j < 2 ^ 63 then k d j.toNat S2 else .bad
      | _ => .bad) := by
  refine dh_of (pss_cons (ps_expr (pe_bm PySem.F.plainAttrs_list PySem.F.slot_list_insert PySem.F.type_list_insert mt_ins (pe_var hN hv hd hcd) (pa_cons hi.p (pa_cons h.p pa_nil h4') h4) h1 h2 h3 h4 h5) hsw) (pss_all (Wx := Wx) (M := M))) fun W S σ D c a q => ?_
  obtain ⟨b, vs, z1, z2, z3, _⟩ := own_upd (ys := []) (us := []) a.e a.s hs
  show tBM X.K "list" _ (tVar i) _ σ W.H _
  refine own_rcv z1 z2 ?_
  refine goH a hse q fun W1 n S1 u l1 a1 ru q1 => ?_
  replace q1 : HQ X.K W1 (ownA st σ) M D Wx ((me2 st S1).bind _) := q1
  refine goH a1 hse q1 fun W2 d S2 v l2 a2 rv q2 => ?_
  cases n <;> try exact q2.elim
  rename_i j
  obtain rfl := rep_i ru
  simp only at q2
  split at q2
  · rename_i hl
    obtain ⟨b', vs', y1, y2, y3, y4⟩ := own_upd (ys := xs.take j.toNat ++ [d] ++ xs.drop j.toNat) (us := vs.take j.toNat ++ [v] ++ vs.drop j.toNat) a2.e a2.s hs
    have eb : b' = b := by rw [z1] at y1; cases y1; rfl
    subst eb
    have ev : vs' = vs := by
      obtain ⟨u, w1, w2⟩ := a.e.at_ i _ hs
      obtain ⟨b2, vs2, rfl, r1, r2, r3, r4⟩ := w2
      rw [z1] at w1
      cases w1
      have := ((l1.trans l2).l _ _ r3 r1).2
      rw [y2] at this
      rw [z2] at r1
      cases r1
      cases this
      rfl
    subst ev
    obtain ⟨t1, t2, t3⟩ := y4 (repL_append (repL_append (y3.take _) (repL_cons rv repL_nil)) (y3.drop _))
    refine ⟨b', vs', j, v, rfl, rfl, y2, by rw [← y3.length]; exact hl.1, hl.2.1, hl.2.2, ?_⟩
    exact ⟨_, k d j.toNat, hk d j.toNat, c, W2.hp b' _, S2, ⟨rfl, t1, t2⟩, q2.mono a2.s t3⟩
  · exact q2.elim
end
end KF

set_option Elab.async false
set_option linter.all false
set_option maxRecDepth 100000
set_option maxHeartbeats 4000000
/-! KGD: items of own lists; while; parallel assignments; defs. -/
namespace KF
open PySem PySem.Spec PyProof.Rows L2
section
variable {ρ τ κ σσ : Type} {X : Cx} {Wx : WX} {M : Mode ρ τ κ} {ss : List Stmt} {st : DSt} {p : Store → Res ρ} {e e2 c : Expr} {me me2 : EM D} {tc : EM Bool} {pos apos cpos vp sp : Pos} {i : Nat} {x : Str} {xs : List D}
theorem own_same {K : PySem.W.Frag} {W W1 : Wd} {σ : St} {b : Addr} {vs : List V} (e : RepE K W st σ) (l : W.le W1) (hs : st[i]? = some (some (.o xs))) (h1 : σ[i]? = some (some (.ref b))) (h2 : W.H b = some (.lst vs)) {vs' : List V} (h3 : W1.H b = some (.lst vs')) : vs' = vs := by
  obtain ⟨u, w1, w2⟩ := e.at_ i _ hs
  obtain ⟨b2, vs2, rfl, r1, r2, r3, r4⟩ := w2
  rw [h1] at w1
  cases w1
  have := (l.l _ _ r3 r1).2
  rw [h3] at this
  rw [h2] at r1
  cases r1
  cases this
  rfl
/-- x[i] = e, x a list of its own -/
theorem dh_setI (i : Nat) {k : D → Nat → Store → Res ρ} (h : DE X Wx e2 me2) (hi : DE X Wx e me) (hk : ∀ d n, DH X Wx M ss (st.set i (some (.o (xs.set n d)))) (k d n)) (hse : SubX M.se st := by exact .inl rfl) (hs : st[i]? = some (some (.o xs)) := by rfl)
    (hN : X.N[i]? = some x := by rfl) (hv : Vis X.env.scope x := by first | exact Or.inl rfl | exact Or.inr (Or.inl rfl) | exact Or.inr (Or.inr rfl)) (hd : (x == ("__debug__" : Str)) = false := by decide) (hcd : (x == ("__classdict__" : Str)) = false := by decide)
    (ha : ∀ v, assign (.Subscript (.Name x vp) e sp) X.env v = (do
      let ov ← holding [v] (eval (.Name x vp) X.env)
      let iv ← holding [v, ov] (eval e X.env)
      standAt sp
      holding [v, ov, iv] (setItem ov iv v)
      release [v, ov, iv] []) := by intro _; rfl)
    (hw1 : swapsWithSole [.Subscript (.Name x vp) e sp] e2 pos.line X.env = pure false := by rfl) (hw2 : swappedStores [.Subscript (.Name x vp) e sp] e2 X.env = pure none := by rfl)
    (hw3 : (assignEach [.Subscript (.Name x vp) e sp] X.env).map (·.2) = [assign (.Subscript (.Name x vp) e sp) X.env] := by rfl) :
    DH X Wx M (.Assign [.Subscript (.Name x vp) e sp] e2 pos :: ss) st (fun S => (me2 st S).bind fun d S1 => (me st S1).bind fun n S2 => match n with
      | .int j => (match ixN xs.length j with
        | some q => k d q S2
        | none => .bad)
      | _ => .bad) := by
  refine dh_of (pss_cons (ps_asg h.p (pg_sub (pe_var hN hv hd hcd) hi.p set_list ha) hw1 hw2 hw3) (pss_all (Wx := Wx) (M := M))) fun W S σ D c a q => ?_
  refine goH a hse q fun W1 d S1 v l1 a1 rv q1 => ?_
  obtain ⟨b, vs, z1, z2, z3, _⟩ := own_upd (ys := []) (us := []) a1.e a1.s hs
  refine ⟨.ref b, z1, ?_⟩
  refine goH a1 hse q1 fun W2 n S2 u l2 a2 ru q2 => ?_
  cases n <;> try exact q2.elim
  rename_i j
  obtain rfl := rep_i ru
  simp only at q2
  cases hx : ixN xs.length j with
  | none => rw [hx] at q2; exact q2.elim
  | some m =>
    rw [hx] at q2
    obtain ⟨b', vs', y1, y2, y3, y4⟩ := own_upd (ys := xs.set m d) (us := vs.set m v) a2.e a2.s hs
    have eb : b' = b := by rw [z1] at y1; cases y1; rfl
    subst eb
    obtain rfl := own_same a1.e l2 hs z1 z2 y2
    obtain ⟨t1, t2, t3⟩ := y4 (RepL.set (rv.mono l2 _ _) m y3)
    refine ⟨b', vs', j, m, rfl, rfl, y2, by rw [← y3.length]; exact hx, ?_⟩
    exact ⟨_, k d m, hk d m, c, W2.hp b' _, S2, ⟨rfl, t1, t2⟩, q2.mono a2.s t3⟩

/-! ### while -/
def whileP (test : σσ → Store → Res Bool) (step : σσ → Store → Res (Step σσ σσ)) : Nat → σσ → Store → Res (Step σσ κ)
  | 0, _, _ => .bad
  | n + 1, s, S => (test s S).bind fun b S1 => if b then turn (step s S1) (whileP test step n) else .ok (.nx s) S1
/-- as many turns as nobody makes -/
@[irreducible] def fuel : Nat := 2 ^ 80
theorem dh_while {body : List Stmt} {slj : σσ → DSt} {s0 : σσ} {pb : σσ → Store → Res (Step σσ σσ)} {k : σσ → Store → Res ρ} (n : Nat) (hp : PassesOwn (model X.prog X.w) X.A X.env X.xe) (hc : DT X Wx c tc) (hb : ∀ s, DH X Wx (M.loop slj) body (slj s) (pb s))
    (hk : ∀ s, DH X Wx M ss (slj s) (k s)) (h0 : Sub (slj s0) st) (hse : ∀ s, SubX M.se (slj s) := by exact fun _ => .inl rfl) :
    DH X Wx M (.While c body [] pos :: ss) st (fun S => thn M.ir M.ib M.ic (whileP (fun s => tc (slj s)) pb n s0 S) k) := by
  refine dh_of (pss_cons (ps_while hp hc.p (pss_all (Wx := Wx) (M := M.loop slj))) (pss_all (Wx := Wx) (M := M))) fun W S σ D cD a q => ?_
  have fin : ∀ W2 σ2 j S2, SRep X.K W2 S2 → RepE X.K W2 (slj j) σ2 → HQ X.K W2 (ownA (slj j) σ2) M D Wx (k j S2) → tAll X Wx M ss D σ2 W2.H :=
    fun W2 σ2 j S2 y z w => ⟨slj j, k j, hk j, cD, W2, S2, ⟨rfl, y, z⟩, w⟩
  refine ⟨fun m σ H => ∃ W2 j S2, At X.K W2 (slj j) S2 σ H ∧ HQ X.K W2 (ownA (slj j) σ) M D Wx (thn M.ir M.ib M.ic (whileP (fun s => tc (slj s)) pb m j S2) k), ⟨n, W, s0, S, ⟨rfl, a.s, h0.rep a.e⟩, q.mono a.s ((Wd.le.refl W).evo fun _ z => h0.own z)⟩, ?_⟩
  rintro m σ2 H ⟨W2, j, S2, a2, q2⟩
  obtain ⟨rfl, s2, e2⟩ := a2
  cases m with
  | zero => exact q2.elim
  | succ m =>
    have q2' : HQ X.K W2 (ownA (slj j) σ2) M D Wx ((tc (slj j) S2).bind fun b S1 => thn M.ir M.ib M.ic (if b then turn (pb j S1) (whileP (fun s => tc (slj s)) pb m) else .ok (.nx j) S1) k) := by
      unfold whileP at q2
      cases e : tc (slj j) S2 with
      | ok b S1 => rw [e] at q2; exact q2
      | err x S1 => rw [e] at q2; exact q2
      | bad => rw [e] at q2; exact q2
    refine goHT (k := fun b S1 => thn M.ir M.ib M.ic (if b then turn (pb j S1) (whileP (fun s => tc (slj s)) pb m) else .ok (.nx j) S1) k) ⟨rfl, s2, e2⟩ (hse j) q2' fun W3 b S3 l3 a3 q3 => ?_
    cases b with
    | false =>
      rw [if_neg Bool.false_ne_true] at q3 ⊢
      exact fin W3 σ2 j S3 a3.s a3.e q3
    | true =>
      rw [if_pos rfl] at q3 ⊢
      refine ⟨fun σ5 H5 => ∃ W2 j S2, At X.K W2 (slj j) S2 σ5 H5 ∧ HQ X.K W2 (ownA (slj j) σ5) M D Wx (thn M.ir M.ib M.ic (whileP (fun s => tc (slj s)) pb m j S2) k), fun σ' H' w => ⟨m, Nat.lt_succ_self m, w⟩, ?_⟩
      refine ⟨slj j, pb j, hb j, trivial, W3, S3, a3, ?_⟩
      exact turn_go (D := D) (M := M) (k := k) (slj := slj) a3.s q3 (fun W5 σ5 j5 S5 x y z w => ⟨W5, j5, S5, ⟨rfl, y, z⟩, w⟩) fun W5 σ5 j5 S5 x y z w => fin W5 σ5 j5 S5 y z w
/-! ### a, b = e1, e2 -/
/-- values and fresh lists -/
structure RepSL (K : PySem.W.Frag) (W : Wd) (ds : List Sl) (vs : List V) : Prop where
  len : ds.length = vs.length
  at_ : ∀ (i : Nat) (d : Sl) (v : V), ds[i]? = some d → vs[i]? = some v → RepS K W d v
  sep : ∀ (i j : Nat) (d e : Sl) (a : Addr), i ≠ j → ds[i]? = some d → isOwn d = true → ds[j]? = some e → isOwn e = true → vs[i]? = some (V.ref a) → vs[j]? ≠ some (V.ref a)
def VLS (K : PySem.W.Frag) (W : Wd) (Q : List V → Hp → Prop) (E : XK) : Res (List Sl) → Prop
  | .ok ds S' => ∀ W' vs, W.le W' → SRep K W' S' → RepSL K W' ds vs → (∀ (i : Nat) (d : Sl) (a : Addr), ds[i]? = some d → isOwn d = true → vs[i]? = some (V.ref a) → ¬ W.L a) → Q vs W'.H
  | .err e S' => ∀ W' od, W.le W' → SRep K W' S' → ERep K W' e od → E e.c od W'.H
  | .bad => False
def tDVs (K : PySem.W.Frag) (Wx : WX) (m : EM (List Sl)) : TA := fun σ H Q => ∃ W st S, At K W st S σ H ∧ VLS K W Q (fun c d H' => Wx c d σ H') (m st S)
def seqV : List (EM Sl) → EM (List Sl)
  | [] => fun _ S => .ok [] S
  | m :: ms => fun st S => (m st S).bind fun d S1 => (seqV ms st S1).bind fun ds S2 => .ok (d :: ds) S2
structure DVs (X : Cx) (Wx : WX) (es : List Expr) (m : EM (List Sl)) : Prop where
  p : PA X es (tDVs X.K Wx m)
theorem dvs_nil : DVs X Wx [] (seqV []) := ⟨pa_imp pa_nil fun σ H Q ⟨W, st, S, a, q⟩ => by
  obtain ⟨rfl, s, e⟩ := a
  exact q W [] (.refl W) s ⟨rfl, fun i d v h => by simp at h, fun i j d e a n h => by simp at h⟩ fun i d a h => by simp at h⟩
theorem RepS.own_L {K : PySem.W.Frag} {W : Wd} {d : Sl} {a : Addr} (r : RepS K W d (.ref a)) (o : isOwn d = true) : W.L a ∧ W.H a ≠ none := by
  cases d <;> simp only [isOwn] at o <;> try cases o
  obtain ⟨b, vs, e, h1, h2, h3, h4⟩ := r
  cases e
  exact ⟨h3, by rw [h1]; simp⟩
theorem dvs_cons {es : List Expr} {ms : List (EM Sl)} {me : EM Sl} (he : DV X Wx e me) (hr : DVs X Wx es (seqV ms)) (hs : starEach (e :: es) X.env = (false, eval e X.env) :: starEach es X.env := by rfl) : DVs X Wx (e :: es) (seqV (me :: ms)) := ⟨pa_imp (pa_cons he.p hr.p hs) fun σ H Q ⟨W, st, S, a, q⟩ => by
  obtain ⟨rfl, s, ee⟩ := a
  unfold seqV at q
  refine ⟨W, st, S, ⟨rfl, s, ee⟩, ?_⟩
  cases e1 : me st S with
  | bad => rw [e1] at q; exact q.elim
  | err x S1 => rw [e1] at q; exact q
  | ok d S1 =>
    rw [e1] at q
    simp only [bind_ok] at q
    intro W1 v l1 s1 r1 f1
    refine ⟨W1, st, S1, ⟨rfl, s1, ee.mono l1⟩, ?_⟩
    cases e2 : seqV ms st S1 with
    | bad => rw [e2] at q; exact q.elim
    | err x S2 => rw [e2] at q; exact fun W' od l => q W' od (l1.trans l)
    | ok ds S2 =>
      rw [e2] at q
      simp only [bind_ok] at q
      intro W2 vs l2 s2 r2 f2
      have nl : ∀ a, W.L a → W1.L a := fun a h => by
        cases z : W.H a with
        | none => exact absurd z (s.lk a h).1
        | some o => exact (l1.l a o h z).1
      refine q W2 (v :: vs) (l1.trans l2) s2 ⟨by simp [r2.len], fun i x u h1 h2 => ?_, fun i j x y a hij h1 o1 h2 o2 h3 h4 => ?_⟩ fun i x a h1 o h2 => ?_
      · cases i with
        | zero => simp at h1 h2; subst h1 h2; exact r1.mono l2
        | succ i => exact r2.at_ i x u (by simpa using h1) (by simpa using h2)
      · cases i with
        | zero =>
          cases j with
          | zero => exact hij rfl
          | succ j =>
            simp at h1 h3
            subst h1 h3
            exact f2 j y a (by simpa using h2) o2 (by simpa using h4) (r1.own_L o1).1
        | succ i =>
          cases j with
          | zero =>
            simp at h2 h4
            subst h2 h4
            exact f2 i x a (by simpa using h1) o1 (by simpa using h3) (r1.own_L o2).1
          | succ j => exact r2.sep i j x y a (by omega) (by simpa using h1) o1 (by simpa using h2) o2 (by simpa using h3) (by simpa using h4)
      · cases i with
        | zero => simp at h1 h2; subst h1; exact f1 a o h2
        | succ i => exact fun z => f2 i x a (by simpa using h1) o (by simpa using h2) (nl a z)⟩
theorem goVs {K : PySem.W.Frag} {W : Wd} {S : Store} {σ : St} {D : Ends} {m : EM (List Sl)} {k : List Sl → Store → Res ρ} {R : List V → Hp → Prop} (a : At K W st S σ W.H) (hse : SubX M.se st) (q : HQ K W (ownA st σ) M D Wx ((m st S).bind k))
    (h : ∀ W1 ds S1 vs, W.le W1 → At K W1 st S1 σ W1.H → RepSL K W1 ds vs → (∀ (i : Nat) (d : Sl) (a : Addr), ds[i]? = some d → isOwn d = true → vs[i]? = some (V.ref a) → ¬ W.L a) → HQ K W (ownA st σ) M D Wx (k ds S1) → R vs W1.H) : tDVs K Wx m σ W.H R := by
  refine ⟨W, st, S, a, ?_⟩
  cases e : m st S with
  | ok d S1 =>
    rw [e] at q
    exact fun W1 v l s r f => h W1 d S1 v l (a.to l s) r f q
  | err x S1 =>
    rw [e] at q
    exact fun W' od l s z => q W' σ od (l.evo fun _ q => hse.own q) s (hse.rep (a.e.mono l)) z
  | bad =>
    rw [e] at q
    exact q
/-- two slots -/
def un2 {α : Type} (d : List α) (k : α → α → Res ρ) : Res ρ := match d with
  | [a, b] => k a b
  | _ => .bad
def un3 {α : Type} (d : List α) (k : α → α → α → Res ρ) : Res ρ := match d with
  | [a, b, c] => k a b c
  | _ => .bad
/-- values into slots, one behind the other -/
theorem set_many {K : PySem.W.Frag} {W W1 : Wd} {σ : St} {i j : Nat} {d d' : Sl} {v u : V} (s : SRep K W1 S0) (e : RepE K W1 st σ) (oL : ∀ b, ownA st σ b → W.L b) (r1 : RepS K W1 d v) (r2 : RepS K W1 d' u)
    (f1 : ∀ a, isOwn d = true → v = .ref a → ¬ W.L a) (f2 : ∀ a, isOwn d' = true → u = .ref a → ¬ W.L a) (sp : ∀ a, isOwn d = true → isOwn d' = true → v = .ref a → u ≠ .ref a) :
    RepE K W1 ((st.set i (some d)).set j (some d')) ((σ.set i (some v)).set j (some u)) ∧ ∀ b, ownA ((st.set i (some d)).set j (some d')) ((σ.set i (some v)).set j (some u)) b → ownA st σ b ∨ ¬ W.L b := by
  have e1 := e.setS i r1 fun a h1 h2 z => f1 a h1 h2 (oL a z)
  refine ⟨e1.setS j r2 fun a h1 h2 z => ?_, fun b hb => ?_⟩
  · rcases own_set z with z | ⟨z1, z2⟩
    · exact f2 a h1 h2 (oL a z)
    · exact sp a z1 h1 z2 h2
  · rcases own_set hb with hb | ⟨z1, z2⟩
    · exact (own_set hb).imp id fun ⟨z1, z2⟩ => f1 b z1 z2
    · exact .inr (f2 b z1 z2)
end
end KF

set_option Elab.async false
set_option linter.all false
set_option maxRecDepth 100000
set_option maxHeartbeats 4000000
/-! KGE: parallel assignments; defs; thaw. -/
namespace KF
open PySem PySem.Spec PyProof.Rows L2
section
variable {ρ τ κ σσ : Type} {X : Cx} {Wx : WX} {M : Mode ρ τ κ} {ss : List Stmt} {st : DSt} {p : Store → Res ρ} {a b c e : Expr} {ma mb mc me : EM D} {pos apos cpos vp sp : Pos} {xs : List D}
theorem seq2 {ma mb : EM Sl} {k : Sl → Sl → Store → Res ρ} {S : Store} : ((seqV [ma, mb] st S).bind fun ds S1 => un2 ds fun d d' => k d d' S1) = (ma st S).bind fun d S1 => (mb st S1).bind fun d' S2 => k d d' S2 := by
  unfold seqV
  rw [bind_assoc]
  congr 1
  funext d S1
  rw [bind_assoc]
  unfold seqV
  rw [bind_assoc]
  rfl
theorem seq3 {ma mb mc : EM Sl} {k : Sl → Sl → Sl → Store → Res ρ} {S : Store} : ((seqV [ma, mb, mc] st S).bind fun ds S1 => un3 ds fun d d' d2 => k d d' d2 S1) = (ma st S).bind fun d S1 => (mb st S1).bind fun d' S2 => (mc st S2).bind fun d2 S3 => k d d' d2 S3 := by
  unfold seqV
  rw [bind_assoc]
  congr 1
  funext d S1
  rw [bind_assoc]
  unfold seqV
  rw [bind_assoc]
  congr 1
  funext d' S2
  rw [bind_assoc]
  unfold seqV
  rw [bind_assoc]
  rfl
theorem repSL_2 {K : PySem.W.Frag} {W : Wd} {d d' : Sl} {vs : List V} (r : RepSL K W [d, d'] vs) : ∃ v u, vs = [v, u] ∧ RepS K W d v ∧ RepS K W d' u ∧ ∀ a, isOwn d = true → isOwn d' = true → v = .ref a → u ≠ .ref a := by
  match vs, r.len with
  | [v, u], _ => exact ⟨v, u, rfl, r.at_ 0 d v rfl rfl, r.at_ 1 d' u rfl rfl, fun a h1 h2 h3 h4 => r.sep 0 1 d d' a (by decide) rfl h1 rfl h2 (by rw [h3]; rfl) (by rw [h4]; rfl)⟩
theorem dh_par2 {i j : Nat} {x y : Str} {px py pt : Pos} {kt k2 pt2} {ma mb : EM Sl} {k : Sl → Sl → Store → Res ρ} (hc : X.calm = true) (hN : X.N.Nodup) (ha : DV X Wx a ma) (hb : DV X Wx b mb) (hk : ∀ d d', DH X Wx M ss ((st.set i (some d)).set j (some d')) (k d d')) (hse : SubX M.se st := by exact .inl rfl)
    (hi : X.N[i]? = some x := by rfl) (hj : X.N[j]? = some y := by rfl) (hij : i ≠ j := by decide)
    (hx : X.env.scope.names.lookup x = some .local := by rfl) (hy : X.env.scope.names.lookup y = some .local := by rfl)
    (hs1 : starEach [a, b] X.env = (false, eval a X.env) :: starEach [b] X.env := by rfl) (hs2 : starEach [b] X.env = (false, eval b X.env) :: starEach [] X.env := by rfl)
    (hw : swappedStores [.Tuple [.Name x px, .Name y py] kt pt] (.Tuple [a, b] k2 pt2) X.env = pure (some [x, y]) := by rfl)
    (hs : swapsWithSole [.Tuple [.Name x px, .Name y py] kt pt] (.Tuple [a, b] k2 pt2) pos.line X.env = pure false := by rfl) :
    DH X Wx M (.Assign [.Tuple [.Name x px, .Name y py] kt pt] (.Tuple [a, b] k2 pt2) pos :: ss) st (fun S => (ma st S).bind fun d S1 => (mb st S1).bind fun d' S2 => k d d' S2) := by
  refine dh_of (pss_cons (ps_par hc hN hi hj hij hx hy (dvs_cons ha (dvs_cons hb dvs_nil hs2) hs1).p hw hs) (pss_all (Wx := Wx) (M := M))) fun W S σ D c a q => ?_
  rw [← seq2] at q
  have oL : ∀ b, ownA st σ b → W.L b := fun b => own_L a.e
  refine goVs a hse q fun W1 ds S1 vs l a1 r fr q1 => ?_
  match ds, q1, r, fr with
  | [d, d'], q1, r, fr =>
    obtain ⟨v, u, rfl, r1, r2, sp⟩ := repSL_2 r
    refine ⟨v, u, rfl, ?_⟩
    obtain ⟨e1, e2⟩ := set_many (i := i) (j := j) a1.s a1.e oL r1 r2 (fun b h1 h2 => fr 0 d b rfl h1 (by rw [h2]; rfl)) (fun b h1 h2 => fr 1 d' b rfl h1 (by rw [h2]; rfl)) sp
    exact ⟨_, k d d', hk d d', c, W1, S1, ⟨rfl, a1.s, e1⟩, q1.mono a.s ⟨l.x, e2⟩⟩
  | [], q1, _, _ => exact q1.elim
  | [_], q1, _, _ => exact q1.elim
  | _ :: _ :: _ :: _, q1, _, _ => exact q1.elim
theorem repSL_3 {K : PySem.W.Frag} {W : Wd} {d d' d2 : Sl} {vs : List V} (r : RepSL K W [d, d', d2] vs) : ∃ v u t, vs = [v, u, t] ∧ RepS K W d v ∧ RepS K W d' u ∧ RepS K W d2 t ∧ (∀ a, isOwn d = true → isOwn d' = true → v = .ref a → u ≠ .ref a) ∧
    (∀ a, isOwn d = true → isOwn d2 = true → v = .ref a → t ≠ .ref a) ∧ (∀ a, isOwn d' = true → isOwn d2 = true → u = .ref a → t ≠ .ref a) := by
  match vs, r.len with
  | [v, u, t], _ => exact ⟨v, u, t, rfl, r.at_ 0 d v rfl rfl, r.at_ 1 d' u rfl rfl, r.at_ 2 d2 t rfl rfl, fun a h1 h2 h3 h4 => r.sep 0 1 d d' a (by decide) rfl h1 rfl h2 (by rw [h3]; rfl) (by rw [h4]; rfl),
      fun a h1 h2 h3 h4 => r.sep 0 2 d d2 a (by decide) rfl h1 rfl h2 (by rw [h3]; rfl) (by rw [h4]; rfl), fun a h1 h2 h3 h4 => r.sep 1 2 d' d2 a (by decide) rfl h1 rfl h2 (by rw [h3]; rfl) (by rw [h4]; rfl)⟩
theorem dh_par3 {i j l : Nat} {x y z : Str} {px py pz pt : Pos} {kt k2 pt2} {ma mb mc : EM Sl} {k : Sl → Sl → Sl → Store → Res ρ} (hc : X.calm = true) (hN : X.N.Nodup) (ha : DV X Wx a ma) (hb : DV X Wx b mb) (hcc : DV X Wx c mc) (hk : ∀ d d' d2, DH X Wx M ss (((st.set i (some d)).set j (some d')).set l (some d2)) (k d d' d2)) (hse : SubX M.se st := by exact .inl rfl)
    (hi : X.N[i]? = some x := by rfl) (hj : X.N[j]? = some y := by rfl) (hl : X.N[l]? = some z := by rfl) (hij : i ≠ j := by decide) (hil : i ≠ l := by decide) (hjl : j ≠ l := by decide)
    (hx : X.env.scope.names.lookup x = some .local := by rfl) (hy : X.env.scope.names.lookup y = some .local := by rfl) (hz : X.env.scope.names.lookup z = some .local := by rfl)
    (hs1 : starEach [a, b, c] X.env = (false, eval a X.env) :: starEach [b, c] X.env := by rfl) (hs2 : starEach [b, c] X.env = (false, eval b X.env) :: starEach [c] X.env := by rfl) (hs3 : starEach [c] X.env = (false, eval c X.env) :: starEach [] X.env := by rfl)
    (hw : swappedStores [.Tuple [.Name x px, .Name y py, .Name z pz] kt pt] (.Tuple [a, b, c] k2 pt2) X.env = pure (some [x, y, z]) := by rfl)
    (hs : swapsWithSole [.Tuple [.Name x px, .Name y py, .Name z pz] kt pt] (.Tuple [a, b, c] k2 pt2) pos.line X.env = pure false := by rfl) :
    DH X Wx M (.Assign [.Tuple [.Name x px, .Name y py, .Name z pz] kt pt] (.Tuple [a, b, c] k2 pt2) pos :: ss) st (fun S => (ma st S).bind fun d S1 => (mb st S1).bind fun d' S2 => (mc st S2).bind fun d2 S3 => k d d' d2 S3) := by
  refine dh_of (pss_cons (ps_par3 hc hN hi hj hl hij hil hjl hx hy hz (dvs_cons ha (dvs_cons hb (dvs_cons hcc dvs_nil hs3) hs2) hs1).p hw hs) (pss_all (Wx := Wx) (M := M))) fun W S σ D c a q => ?_
  rw [← seq3] at q
  have oL : ∀ b, ownA st σ b → W.L b := fun b => own_L a.e
  refine goVs a hse q fun W1 ds S1 vs l0 a1 r fr q1 => ?_
  match ds, q1, r, fr with
  | [d, d', d2], q1, r, fr =>
    obtain ⟨v, u, t, rfl, r1, r2, r3, sp1, sp2, sp3⟩ := repSL_3 r
    refine ⟨v, u, t, rfl, ?_⟩
    have f1 : ∀ b, isOwn d = true → v = .ref b → ¬ W.L b := fun b h1 h2 => fr 0 d b rfl h1 (by rw [h2]; rfl)
    have f2 : ∀ b, isOwn d' = true → u = .ref b → ¬ W.L b := fun b h1 h2 => fr 1 d' b rfl h1 (by rw [h2]; rfl)
    have f3 : ∀ b, isOwn d2 = true → t = .ref b → ¬ W.L b := fun b h1 h2 => fr 2 d2 b rfl h1 (by rw [h2]; rfl)
    obtain ⟨e1, e2⟩ := set_many (i := i) (j := j) a1.s a1.e oL r1 r2 f1 f2 sp1
    have e3 := e1.setS l r3 fun b h1 h2 z => by
      rcases own_set z with z | ⟨z1, z2⟩
      · rcases own_set z with z | ⟨z1, z2⟩
        · exact f3 b h1 h2 (oL b z)
        · exact sp2 b z1 h1 z2 h2
      · exact sp3 b z1 h1 z2 h2
    exact ⟨_, k d d' d2, hk d d' d2, c, W1, S1, ⟨rfl, a1.s, e3⟩, q1.mono a.s ⟨l0.x, fun b hb => (own_set hb).elim (e2 b) fun ⟨z1, z2⟩ => .inr (f3 b z1 z2)⟩⟩
  | [], q1, _, _ => exact q1.elim
  | [_], q1, _, _ => exact q1.elim
  | [_, _], q1, _, _ => exact q1.elim
  | _ :: _ :: _ :: _ :: _, q1, _, _ => exact q1.elim
end
/-! ### defs -/
def FM : Mode D Unit Empty := { J := .rt, ir := id, ib := Empty.elim, ic := Empty.elim, hr := fun _ => rfl, hb := fun s => s.elim, hc := fun s => s.elim, sl := fun _ => [], sk := fun s => s.elim, se := [], C := fun D => ∀ σ H, D.rt .non H → D.nx σ H }
abbrev thnF {σσ : Type} (r : Res (Step σσ Empty)) (k : σσ → Store → Res D) : Res D := thn id Empty.elim Empty.elim r k
abbrev thnS {σσ τ κ : Type} (r : Res (Step σσ κ)) (k : σσ → Store → Res (Step τ κ)) : Res (Step τ κ) := thn .rt .bk .ct r k
section
variable {X : Cx} {Wx : WX} {ss : List Stmt} {st : DSt} {e : Expr} {me : EM D} {pos : Pos}
theorem FM.nn : ∀ r s, FM.J r ≠ .nx s := fun _ _ h => nomatch h
theorem dh_nilF : DH X Wx FM [] st (fun S => .ok .non S) :=
  dh_of pss_nil fun W S σ D c a q => c σ W.H (q W .non (Wd.le.refl W).x a.s rep_nI)
theorem bind_self {α : Type} (r : Res α) : (r.bind fun a S => .ok a S) = r := by cases r <;> rfl
theorem dh_retF (h : DE X Wx e me) : DH X Wx FM (.Return (some e) pos :: ss) st (me st) := by
  have := dh_ret (M := FM) (r := id) (ss := ss) (pos := pos) (st := st) (fun _ => rfl) h
  have e : (fun S => (me st S).bind fun d S1 => .ok (id d) S1) = me st := funext fun S => bind_self (me st S)
  rw [e] at this
  exact this
theorem dh_retFd (h : DE X Wx e me) : DH X Wx FM.dv (.Return (some e) pos :: ss) st (me st) := by
  have := dh_ret (M := FM.dv) (r := id) (ss := ss) (pos := pos) (st := st) (fun _ => rfl) h
  have e : (fun S => (me st S).bind fun d S1 => .ok (id d) S1) = me st := funext fun S => bind_self (me st S)
  rw [e] at this
  exact this
end
/-- THE RULE of a def -/
theorem fnH {P : Program} {w : World} {K : PySem.W.Frag} {mg : Str → Option Value} {base : Heap} {k : Nat} {f : Addr} {x qual : Str} {st : Stmt} {fd : FuncData} {N ps : List Str} {m : List D → Store → Res D} (F : FnIs K x qual st f fd) (S : FnScope N ps (defScope st))
    (hB : ∀ (cdv : Value) (A : Around) (outer : List Env) (s : Shared) (H : Hp) (E : XK), Cal (cxOf (L2.CX P w) P w K mg base N qual (defScope st) f cdv A outer s H E) (fun c d _ H' => E c d H') k → ∀ ds : List D, ds.length = ps.length →
      DH (cxOf (L2.CX P w) P w K mg base N qual (defScope st) f cdv A outer s H E) (fun c d _ H' => E c d H') FM (defBody st) (ds.map sv ++ List.replicate (N.length - ds.length) none) (m ds)) :
    FnG P w K mg base (k + 1) f fd ps (spD K m ps.length) := by
  obtain ⟨oc, od, dV, kV, doc, pm, an, cdv, ct, osl, rfl, lk, hcd⟩ := F.ex
  refine ⟨fun vs H Q E ⟨W, ds, S0, _, _, r, hl, _⟩ => by rw [← r.length]; exact hl, ?_⟩
  intro A outer s H args us vs Q E hg hroom env0 hbind rv hsp
  obtain ⟨W, ds, S0, rfl, sr, rds, hlen, hq⟩ := hsp
  have kin : K.In s.heap := env0.mod.kin.keeps fun b o e => (env0.bs b o e).1
  have nol : s.heap.NoLimit := env0.mod.nolimit.keeps fun b o e => (env0.bs b o e).1
  have hl : vs.length = ps.length := by rw [← rds.length]; exact hlen
  have kinds : ∀ y ∈ ps.zip us, (defScope st).names.lookup y.1 = some .local ∨ ((defScope st).names.lookup y.1 = some .cell ∧ ((cellsFrom (s.heap.objs.size + 1) (defScope st).names []).lookup y.1).isSome = true) := by
    rintro ⟨n, v⟩ hy
    exact (S.par n (List.of_mem_zip hy).1).imp id fun q => ⟨q, PySem.W.cellsFrom_some _ _ _ (.inl q)⟩
  refine codeAny_call_function hroom.depth (kin _ _ lk) rfl S.co S.gen rfl (PySem.W.codeRec_of kin hcd) (hbind _ _ _ _ (wpAny_newFunctionEnv_cells S.kind kinds fun env he s1 x => ?_))
  subst he
  refine ⟨nol.keeps x.toInCall.keep, codeAny_func ?_⟩
  have body := hB cdv A outer s W.H E ⟨hroom.deeper _, hg, takes_of rfl rfl rfl rfl, passes_of rfl, rfl⟩ ds hlen
  have I : Inv (cxOf (L2.CX P w) P w K mg base N qual (defScope st) f cdv A outer s W.H E) [] (L2.start N vs) W.H s1 := inv_start S hroom.hd env0 hl rv x
  have e0 : RepE K W (ds.map sv ++ List.replicate (N.length - ds.length) none) (L2.start N vs) := startE rds
  have noP : ∀ a, ¬ ownA (ds.map sv ++ List.replicate (N.length - ds.length) none) (L2.start N vs) a := fun a ⟨i, d, h1, h2, h3⟩ => by
    by_cases hi : i < ds.length
    · rw [List.getElem?_append_left (by simpa using hi), List.getElem?_map] at h1
      cases h : ds[i]? with
      | none => rw [h] at h1; cases h1
      | some y =>
        rw [h] at h1
        cases h1
        cases h2
    · rw [List.getElem?_append_right (by simpa using hi), List.getElem?_replicate] at h1
      split at h1 <;> cases h1
  have go : tH K (fun c d _ H' => E c d H') FM (ds.map sv ++ List.replicate (N.length - ds.length) none) (m ds) { nx := fun _ H' => Q .non H', rt := Q } (L2.start N vs) W.H := by
    refine ⟨fun _ _ h => h, W, S0, ⟨rfl, sr, e0⟩, ?_⟩
    generalize m ds S0 = rr at hq
    cases rr with
    | ok d S1 => exact fun W' v l s r => hq W' v (l.le noP) s r
    | err e S1 => exact fun W' σ od l s _ z => hq W' od (l.le noP) s z
    | bad => exact hq.elim
  refine wpAny_mono (body.p.run [] s1 (L2.start N vs) W.H _ I go) (fun fl s' hs => ?_) fun e s' hs => hs
  match fl, hs with
  | .ret u, ⟨v, σ', H', J, r, q⟩ => exact ⟨v, H', J.os, J.bare, J.base, J.hok, r, q⟩
  | .next, ⟨σ', H', J, q⟩ => exact ⟨.non, H', J.os, J.bare, J.base, J.hok, rfl, q⟩
  | .brk, ⟨σ', H', J, q⟩ => exact q.elim
  | .cont, ⟨σ', H', J, q⟩ => exact q.elim
end KF

set_option Elab.async false
set_option linter.all false
set_option maxRecDepth 100000
set_option maxHeartbeats 4000000
/-! KGF: fresh lists; thaw. -/
namespace KF
open PySem PySem.Spec PyProof.Rows L2
section
variable {ρ τ κ σσ : Type} {X : Cx} {Wx : WX} {M : Mode ρ τ κ} {ss : List Stmt} {st : DSt} {p : Store → Res ρ} {a b c e : Expr} {es : List Expr} {me : EM D} {ml : EM (List D)} {pos apos cpos vp sp : Pos} {i : Nat} {x : Str}
/-- a new list, free -/
theorem fresh_anon {K : PySem.W.Frag} {W : Wd} {S : Store} {ds : List D} {vs : List V} {Q : VK} {E : XK} (s : SRep K W S) (r : RepL K W ds vs) (q : FQ K W Q E (.ok ds S)) : ∀ p, W.H p = none → Q (.ref p) (upd W.H p (.lst vs)) := fun p hp =>
  q (W.anon p (.lst vs)) p vs (Wd.anon_le hp) (s.anon hp) upd_same (.inr rfl) (fun z => (s.lk p z).1 hp) (s.noN hp) (r.mono (Wd.anon_le hp) _ _)
def lstF (ml : EM (List D)) : EM (List D) := fun st S => (ml st S).bind fun ds S1 => if ds.length ≤ sizeLine then .ok ds S1 else .bad
theorem FQ.mono {K : PySem.W.Frag} {W W1 : Wd} {Q : VK} {E : XK} (l : W.le W1) {r : Res (List D)} (h : FQ K W Q E r) : FQ K W1 Q E r := by
  cases r with
  | ok d S => exact fun W' a vs l' => h W' a vs (l.trans l')
  | err e S => exact fun W' od l' => h W' od (l.trans l')
  | bad => exact h
theorem df_lst (h : DA X Wx es ml) : DF X Wx (.List es pos) (lstF ml) := ⟨pe_imp (pe_lst h.p) fun σ H Q ⟨W, st, S, a, q⟩ => by
  obtain ⟨rfl, s, ee⟩ := a
  refine ⟨W, st, S, ⟨rfl, s, ee⟩, ?_⟩
  unfold lstF at q
  cases e : ml st S with
  | bad => rw [e] at q; exact q
  | err x S1 => rw [e] at q; exact q
  | ok ds S1 =>
    rw [e] at q
    simp only [bind_ok] at q
    intro W1 vs l s1 r
    by_cases hl : ds.length ≤ sizeLine
    · rw [if_pos hl] at q
      exact ⟨by rw [← r.length]; exact hl, fresh_anon s1 r (FQ.mono (r := .ok ds S1) l q)⟩
    · rw [if_neg hl] at q
      exact q.elim⟩
/-- list(x), a fresh one -/
def lstOf (me : EM D) : EM (List D) := fun st S => (me st S).bind fun d S1 => match asQ S1 d with
  | some xs => .ok xs S1
  | none => .bad
def lcF (mi : EM (List D)) (g : TP) (t : EM Bool) (m : EM D) (vs : List Nat) : EM (List D) := fun st S => (mi st S).bind fun ds S1 => if ds.length ≤ sizeLine then noErr (lcL g t m ds (wipeD st vs) S1) else .bad
theorem lc_fq {mi : EM (List D)} {g : TP} {t : EM Bool} {m : EM D} {vs : List Nat} {W : Wd} {S : Store} {σ : St} {R : VK} (q : FQ X.K W R (fun c d H' => Wx c d σ H') (lcF mi g t m vs st S)) :
    match mi st S with
      | .ok ds S1 => ds.length ≤ sizeLine ∧ ∃ out S2, lcL g t m ds (wipeD st vs) S1 = .ok out S2 ∧
          ∀ W2 D us, W.le W2 → SRep X.K W2 S2 → W2.M D → ¬ W2.L D → D ∉ W2.N → W2.H D = some (.lst us) → RepL X.K W2 out us → R (.ref D) W2.H
      | .err e S1 => ∀ W' od, W.le W' → SRep X.K W' S1 → ERep X.K W' e od → Wx e.c od σ W'.H
      | .bad => False := by
  unfold lcF at q
  cases e : mi st S with
  | bad => rw [e] at q; exact q
  | err x S1 => rw [e] at q; exact q
  | ok ds S1 =>
    rw [e] at q
    simp only [bind_ok] at q
    by_cases hl : ds.length ≤ sizeLine
    · rw [if_pos hl] at q
      refine ⟨hl, ?_⟩
      cases h : lcL g t m ds (wipeD st vs) S1 with
      | bad => rw [h] at q; exact q.elim
      | err _ _ => rw [h] at q; exact q.elim
      | ok out S2 =>
        rw [h] at q
        exact ⟨out, S2, rfl, fun W2 D us l s hm hl hn hD r => q W2 D us l s hD hm hl hn r⟩
    · rw [if_neg hl] at q
      exact q.elim
theorem df_lc {elt tg iter : Expr} {ifs : List Expr} {scope : Scope} {own : List (Str × Nat)} {mi : EM (List D)} {g : TP} {t : EM Bool} {m : EM D} (hc : X.calm = true) (hN : X.N.Nodup) (hi : DIL X Wx tg iter mi) (ok : BlkOk X.N X.env.scope scope own)
    (hg : ∀ (s : Shared) (H : Hp) (C : Addr) (cl : List (Str × Addr)) (fp : List Addr), DX (X.blk s H scope (compEnvC scope cl C X.env) fp) (own.map (·.2)) tg g)
    (ht : ∀ (s : Shared) (H : Hp) (C : Addr) (cl : List (Str × Addr)) (fp : List Addr), DTs (X.blk s H scope (compEnvC scope cl C X.env) fp) ifs t)
    (he : ∀ (s : Shared) (H : Hp) (C : Addr) (cl : List (Str × Addr)) (fp : List Addr), DE (X.blk s H scope (compEnvC scope cl C X.env) fp) W0 elt m) (hs : ∀ x, foldedSetIterable iter X.env x = pure x := by intro _; rfl) :
    DF X Wx (.ListComp elt [⟨tg, iter, ifs, 0⟩] scope pos) (lcF mi g t m (own.map (·.2))) :=
  ⟨pe_imp (pe_lc hc hN hi.p ok (fun s H C cl fp => (hg s H C cl fp).p) (fun s H C cl fp => (ht s H C cl fp).p) (fun s H C cl fp => (he s H C cl fp).p) hs) fun σ H Q ⟨W, st, S, a, q⟩ => by
    obtain ⟨rfl, s, ee⟩ := a
    exact lc_go (tg := tg) (iter := iter) ⟨rfl, s, ee⟩ (lc_fq q)⟩
theorem lc_V {mi : EM (List D)} {g : TP} {t : EM Bool} {m : EM D} {vs : List Nat} {tg iter : Expr} : ∀ σ H Q, tDV X.K Wx (valE (lcE mi g t m vs)) σ H Q → tLc (tDIL X.K Wx mi) (tDX X.K vs g) (tDB X.K W0 t) (tD X.K W0 m) vs σ H Q := fun σ H Q ⟨W, st, S, a, q⟩ => by
  obtain ⟨rfl, s, ee⟩ := a
  have q' : VQ X.K W Q (fun c d H' => Wx c d σ H') (lcE mi g t m vs st S) := by
    unfold valE lcE at q
    unfold lcE
    cases e : mi st S with
    | bad => rw [e] at q; exact q
    | err x S1 => rw [e] at q; exact q
    | ok ds S1 =>
      rw [e] at q
      simp only [bind_ok] at q ⊢
      by_cases hl : ds.length ≤ sizeLine
      · rw [if_pos hl] at q ⊢
        cases h : lcL g t m ds (wipeD st vs) S1 with
        | bad => rw [h] at q; exact q
        | err _ _ => rw [h] at q; exact q
        | ok out S2 =>
          rw [h] at q
          exact fun W' v l s r => q W' v l s r fun _ h => by cases h
      · rw [if_neg hl] at q ⊢
        exact q
  exact lc_go (tg := tg) (iter := iter) ⟨rfl, s, ee⟩ (lc_frz q')
theorem lcF_V {mi : EM (List D)} {g : TP} {t : EM Bool} {m : EM D} {vs : List Nat} {tg iter : Expr} : ∀ σ H Q, tDV X.K Wx (ownE (lcF mi g t m vs)) σ H Q → tLc (tDIL X.K Wx mi) (tDX X.K vs g) (tDB X.K W0 t) (tD X.K W0 m) vs σ H Q := fun σ H Q ⟨W, st, S, a, q⟩ => by
  obtain ⟨rfl, s, ee⟩ := a
  have q' : FQ X.K W Q (fun c d H' => Wx c d σ H') (lcF mi g t m vs st S) := by
    unfold ownE at q
    cases e : lcF mi g t m vs st S with
    | bad => rw [e] at q; exact q
    | err x S1 => rw [e] at q; exact q
    | ok xs S' =>
      rw [e] at q
      intro W' a vs l s' h1 h2 h3 h4 h5
      have l2 : W'.le (W'.lock a) := Wd.lock_le
      refine q (W'.lock a) (.ref a) (l.trans l2) (s'.lock h4 h2) ⟨a, vs, rfl, h1, h2, .inr rfl, h5.mono l2 _ _⟩ fun b _ e hl => ?_
      cases e
      refine h3 ?_
      cases e2 : W.H a with
      | none => exact absurd e2 (s.lk a hl).1
      | some o => exact (l.l a o hl e2).1
  exact lc_go (tg := tg) (iter := iter) ⟨rfl, s, ee⟩ (lc_fq q')
section
variable {elt tg iter : Expr} {ifs : List Expr} {scope : Scope} {own : List (Str × Nat)} {mi : EM (List D)} {g : TP} {t : EM Bool} {m : EM D} {y : Str} {py spos : Pos}
/-- y = [..] on one line -/
theorem dh_setLc {k : D → Store → Res ρ} (hc : X.calm = true) (hN : X.N.Nodup) (hi : DIL X Wx tg iter mi) (ok : BlkOk X.N X.env.scope scope own)
    (hg : ∀ (s : Shared) (H : Hp) (C : Addr) (cl : List (Str × Addr)) (fp : List Addr), DX (X.blk s H scope (compEnvC scope cl C X.env) fp) (own.map (·.2)) tg g)
    (ht : ∀ (s : Shared) (H : Hp) (C : Addr) (cl : List (Str × Addr)) (fp : List Addr), DTs (X.blk s H scope (compEnvC scope cl C X.env) fp) ifs t)
    (he : ∀ (s : Shared) (H : Hp) (C : Addr) (cl : List (Str × Addr)) (fp : List Addr), DE (X.blk s H scope (compEnvC scope cl C X.env) fp) W0 elt m) (hk : ∀ d, DH X Wx M ss (st.set i (some (.v d))) (k d))
    (hsw : swapsWith (.ListComp elt [⟨tg, iter, ifs, 0⟩] scope pos) (some (.Name y py)) spos.line X.env = pure true := by rfl)
    (hy : X.N[i]? = some y := by rfl) (hyl : X.env.scope.names.lookup y = some .local := by rfl) (hs : ∀ x, foldedSetIterable iter X.env x = pure x := by intro _; rfl) (hse : SubX M.se st := by exact .inl rfl) :
    DH X Wx M (.Assign [.Name y py] (.ListComp elt [⟨tg, iter, ifs, 0⟩] scope pos) spos :: ss) st (fun S => (lcE mi g t m (own.map (·.2)) st S).bind k) :=
  dh_eq (funext fun S => val_bind2 fun _ _ => rfl) (dh_set0 (k := ofV k) (ps_setLc hc hN hy hyl hsw hi.p ok (fun s H C cl fp => (hg s H C cl fp).p) (fun s H C cl fp => (ht s H C cl fp).p) (fun s H C cl fp => (he s H C cl fp).p) hs) (lc_V (tg := tg) (iter := iter)) (dh_val (st2 := fun d => st.set i (some d)) hk) hse)
theorem dh_setLcF {k : List D → Store → Res ρ} (hc : X.calm = true) (hN : X.N.Nodup) (hi : DIL X Wx tg iter mi) (ok : BlkOk X.N X.env.scope scope own)
    (hg : ∀ (s : Shared) (H : Hp) (C : Addr) (cl : List (Str × Addr)) (fp : List Addr), DX (X.blk s H scope (compEnvC scope cl C X.env) fp) (own.map (·.2)) tg g)
    (ht : ∀ (s : Shared) (H : Hp) (C : Addr) (cl : List (Str × Addr)) (fp : List Addr), DTs (X.blk s H scope (compEnvC scope cl C X.env) fp) ifs t)
    (he : ∀ (s : Shared) (H : Hp) (C : Addr) (cl : List (Str × Addr)) (fp : List Addr), DE (X.blk s H scope (compEnvC scope cl C X.env) fp) W0 elt m) (hk : ∀ xs, DH X Wx M ss (st.set i (some (.o xs))) (k xs))
    (hsw : swapsWith (.ListComp elt [⟨tg, iter, ifs, 0⟩] scope pos) (some (.Name y py)) spos.line X.env = pure true := by rfl)
    (hy : X.N[i]? = some y := by rfl) (hyl : X.env.scope.names.lookup y = some .local := by rfl) (hs : ∀ x, foldedSetIterable iter X.env x = pure x := by intro _; rfl) (hse : SubX M.se st := by exact .inl rfl) :
    DH X Wx M (.Assign [.Name y py] (.ListComp elt [⟨tg, iter, ifs, 0⟩] scope pos) spos :: ss) st (fun S => (lcF mi g t m (own.map (·.2)) st S).bind k) :=
  dh_eq (funext fun S => own_bind2 fun _ _ => rfl) (dh_set0 (k := ofOwn k) (ps_setLc hc hN hy hyl hsw hi.p ok (fun s H C cl fp => (hg s H C cl fp).p) (fun s H C cl fp => (ht s H C cl fp).p) (fun s H C cl fp => (he s H C cl fp).p) hs) (lcF_V (tg := tg) (iter := iter)) (dh_own (st2 := fun d => st.set i (some d)) hk) hse)
end
end
end KF

set_option Elab.async false
set_option linter.all false
set_option maxRecDepth 100000
set_option maxHeartbeats 4000000
/-! KGG: an own list is read. -/
namespace KF
open PySem PySem.Spec PyProof.Rows L2
section
variable {K : PySem.W.Frag} {W : Wd} {S : Store} {st : DSt} {σ : St} {i : Nat} {xs : List D}
theorem own_thaw (e : RepE K W st σ) (s : SRep K W S) (hs : st[i]? = some (some (.o xs))) : ∃ a vs, σ[i]? = some (some (.ref a)) ∧ W.H a = some (.lst vs) ∧ W.L a ∧ RepL K W xs vs ∧ SRep K (W.frz a) S ∧ Rep K (W.frz a) (.lst xs) (.ref a) ∧ W.ev (W.frz a) := by
  obtain ⟨v, h1, h2⟩ := e.at_ i _ hs
  obtain ⟨a, vs, rfl, q1, q2, q3, q4⟩ := h2
  obtain ⟨b, z1, z2, z3, z4, z5⟩ := own_frz e s hs
  have eb : b = a := by rw [h1] at z1; cases z1; rfl
  subst eb
  exact ⟨b, vs, h1, q1, q3, q4, z2, z3, z5.toev⟩
end
section
variable {X : Cx} {Wx : WX} {a b e : Expr} {ma mb me : EM D} {pos vp p : Pos} {i : Nat} {x y : Str} {st : DSt}
/-- what the op says, the heap as it was -/
def rN (K : PySem.W.Frag) (g : D → D → Store → Option D) : R2 := fun x y H Q => ∃ W S dx dy d, W.H = H ∧ SRep K W S ∧ Rep K W dx x ∧ Rep K W dy y ∧ g dx dy S = some (.bl d) ∧ Q (.bl d) H
structure OpN (X : Cx) (f : Value → Value → Sem Value) (g : D → D → Store → Option D) : Prop where
  p : OpR X f (rN X.K g)
theorem op_inN (hu : X.A.units + 70 < cLine) : OpN X (compareOp .In) gIn := by
  refine ⟨fun pins s σ H x y v u Q I rx ry q => ?_⟩
  obtain ⟨W, S, dx, dy, d, rfl, sr, r1, r2, e, q⟩ := q
  unfold gIn at e
  cases hb : inD S dx dy with
  | none => rw [hb] at e; cases e
  | some b =>
    rw [hb] at e
    simp only [Option.map_some, Option.some.injEq, D.bl.injEq] at e
    subst e
    rcases inD_cases hb with ⟨c, z, rfl, rfl, rfl⟩ | h
    · obtain rfl : x = .str ⟨#[c]⟩ := by simpa [Rep] using r1
      obtain rfl : y = .str z := by simpa [Rep] using r2
      exact op_in_sign pins s σ W.H _ _ v u Q I rx ry ⟨c, z, rfl, rfl, q⟩
    · exact (in_go hu I sr r1 r2 rx ry h).1 ⟨.bl b, W.H, I, rfl, q⟩
theorem op_notInN (hu : X.A.units + 70 < cLine) : OpN X (compareOp .NotIn) gNotIn := by
  refine ⟨fun pins s σ H x y v u Q I rx ry q => ?_⟩
  obtain ⟨W, S, dx, dy, d, rfl, sr, r1, r2, e, q⟩ := q
  unfold gNotIn at e
  cases hb : inD S dx dy with
  | none => rw [hb] at e; cases e
  | some b =>
    rw [hb] at e
    simp only [Option.map_some, Option.some.injEq, D.bl.injEq] at e
    subst e
    rcases inD_cases hb with ⟨c, z, rfl, rfl, rfl⟩ | h
    · obtain rfl : x = .str ⟨#[c]⟩ := by simpa [Rep] using r1
      obtain rfl : y = .str z := by simpa [Rep] using r2
      exact op_notIn_sign pins s σ W.H _ _ v u Q I rx ry ⟨c, z, rfl, rfl, q⟩
    · exact (in_go hu I sr r1 r2 rx ry h).2 ⟨.bl (!b), W.H, I, rfl, q⟩
theorem op_eqN (hu : X.A.units + 64 < cLine) : OpN X (compareOp .Eq) gEq := by
  refine ⟨fun pins s σ H x y v u Q I rx ry q => ?_⟩
  obtain ⟨W, S, dx, dy, d, rfl, sr, r1, r2, e, q⟩ := q
  unfold gEq at e
  cases hb : eqD S deep dx dy with
  | none => rw [hb] at e; cases e
  | some b =>
    rw [hb] at e
    simp only [Option.map_some, Option.some.injEq, D.bl.injEq] at e
    subst e
    exact rc_at I sr deep dx dy x y v u b X.A r1 r2 rx ry hb (by show X.A.units + 60 < cLine; omega) _ _ _ _ ⟨.bl b, W.H, I, rfl, q⟩
theorem op_neN (hu : X.A.units + 64 < cLine) : OpN X (compareOp .NotEq) gNe := by
  refine ⟨fun pins s σ H x y v u Q I rx ry q => ?_⟩
  obtain ⟨W, S, dx, dy, d, rfl, sr, r1, r2, e, q⟩ := q
  unfold gNe at e
  cases hb : neD S deep dx dy with
  | none => rw [hb] at e; cases e
  | some b =>
    rw [hb] at e
    simp only [Option.map_some, Option.some.injEq, D.bl.injEq] at e
    subst e
    exact rcne_at I sr 59 dx dy x y v u b X.A r1 r2 rx ry hb (by omega) _ _ _ _ ⟨.bl b, W.H, I, rfl, q⟩
/-- the own list of slot i -/
def ownOf (i : Nat) (st : DSt) (f : List D → Res D) : Res D := match st[i]? with
  | some (some (.o xs)) => f xs
  | _ => .bad
/-- e op x, x an own list -/
def opRO (g : D → D → Store → Option D) (i : Nat) (a : EM D) : EM D := fun st S => ownOf i st fun xs => (a st S).bind fun d S1 => match g d (.lst xs) S1 with
  | some (.bl k) => .ok (.bl k) S1
  | _ => .bad
theorem ownOf_go {K : PySem.W.Frag} {W : Wd} {Q : VK} {E : XK} {f : List D → Res D} (h : VQ K W Q E (ownOf i st f)) : ∃ xs, st[i]? = some (some (.o xs)) ∧ VQ K W Q E (f xs) := by
  unfold ownOf at h
  split at h
  · rename_i xs hs
    exact ⟨xs, hs, h⟩
  · exact h.elim
theorem opRO_go {op : CmpOp} {g : D → D → Store → Option D} {W : Wd} {S : Store} {σ : St} {Q : VK} (a : At X.K W st S σ W.H) (q : VQ X.K W Q (fun c d H' => Wx c d σ H') (opRO g i ma st S)) : tOp (rN X.K g) (tD X.K Wx ma) (tVar i) σ W.H Q := by
  obtain ⟨xs, hs, q⟩ := ownOf_go q
  refine goE a q fun W1 d S1 v l a1 r1 q1 => ?_
  obtain ⟨b, vs, h1, h2, _, h3, s2, r2, ev⟩ := own_thaw a1.e a1.s hs
  refine ⟨.ref b, h1, ?_⟩
  cases hg : g d (.lst xs) S1 with
  | none => rw [hg] at q1; exact q1.elim
  | some z =>
    rw [hg] at q1
    cases z <;> try exact q1.elim
    rename_i k
    exact ⟨W1.frz b, S1, d, .lst xs, k, rfl, s2, r1.monoE ev _ _, r2, hg, q1 W1 _ (.refl W1) a1.s (rep_blI k)⟩
theorem de_cmpRO {op : CmpOp} {g : D → D → Store → Option D} (i : Nat) (ho : OpN X (compareOp op) g) (ha : DE X Wx a ma) (hm : behindInMarks op (.Name x vp) = false := by rfl) (hN : X.N[i]? = some x := by rfl)
    (hv : Vis X.env.scope x := by first | exact Or.inl rfl | exact Or.inr (Or.inl rfl) | exact Or.inr (Or.inr rfl)) (hd : (x == ("__debug__" : Str)) = false := by decide) (hcd : (x == ("__classdict__" : Str)) = false := by decide) :
    DE X Wx (.Compare a [op] [.Name x vp] pos) (opRO g i ma) :=
  de_of (pe_cmpR ho.p ha.p (pe_var hN hv hd hcd) hm) fun W st S σ Q at_ q => opRO_go (op := op) at_ q
theorem dt_cmpRO {op : CmpOp} {g : D → D → Store → Option D} (i : Nat) (ho : OpN X (compareOp op) g) (ha : DE X Wx a ma) (hm : behindInMarks op (.Name x vp) = false := by rfl) (hN : X.N[i]? = some x := by rfl)
    (hv : Vis X.env.scope x := by first | exact Or.inl rfl | exact Or.inr (Or.inl rfl) | exact Or.inr (Or.inr rfl)) (hd : (x == ("__debug__" : Str)) = false := by decide) (hcd : (x == ("__classdict__" : Str)) = false := by decide) :
    DT X Wx (.Compare a [op] [.Name x vp] pos) (bE (opRO g i ma)) :=
  dt_of (pt_cmpR ho.p ha.p (pe_var hN hv hd hcd) hm) fun W st S σ Q at_ q => by
    refine opRO_go (g := g) (i := i) (ma := ma) (op := op) (Q := fun x H' => ∃ k, x = .bl k ∧ Q k H') at_ ?_
    unfold bE at q
    cases e : opRO g i ma st S with
    | ok d S1 =>
      rw [e] at q
      simp only [bind_ok] at q
      cases e2 : asB d with
      | none => rw [e2] at q; exact q.elim
      | some k =>
        rw [e2] at q
        exact fun W' v l s r => ⟨k, rep_bl r e2, q W' l s⟩
    | err x S1 => rw [e] at q; exact q
    | bad => rw [e] at q; exact q
/-- x op e -/
def opLO (g : D → D → Store → Option D) (i : Nat) (b : EM D) : EM D := fun st S => ownOf i st fun xs => (b st S).bind fun d S1 => match g (.lst xs) d S1 with
  | some (.bl k) => .ok (.bl k) S1
  | _ => .bad
theorem opLO_go {op : CmpOp} {g : D → D → Store → Option D} {W : Wd} {S : Store} {σ : St} {Q : VK} (a : At X.K W st S σ W.H) (q : VQ X.K W Q (fun c d H' => Wx c d σ H') (opLO g i mb st S)) : tOp (rN X.K g) (tVar i) (tD X.K Wx mb) σ W.H Q := by
    obtain ⟨xs, hs, q⟩ := ownOf_go q
    obtain ⟨b0, vs0, h1, h2, lb, h3, s2, r2, ev⟩ := own_thaw a.e a.s hs
    refine ⟨.ref b0, h1, ?_⟩
    refine goE a q fun W1 d S1 v l a1 r1 q1 => ?_
    obtain ⟨b, vs, h1', h2', _, h3', s2', r2', ev'⟩ := own_thaw a1.e a1.s hs
    have eb : b = b0 := by rw [h1] at h1'; cases h1'; rfl
    subst eb
    cases hg : g (.lst xs) d S1 with
    | none => rw [hg] at q1; exact q1.elim
    | some z =>
      rw [hg] at q1
      cases z <;> try exact q1.elim
      rename_i k
      exact ⟨W1.frz b, S1, .lst xs, d, k, rfl, s2', r2', r1.monoE ev' _ _, hg, q1 W1 _ (.refl W1) a1.s (rep_blI k)⟩
theorem de_cmpLO {op : CmpOp} {g : D → D → Store → Option D} (i : Nat) (ho : OpN X (compareOp op) g) (hb : DE X Wx b mb) (hm : behindInMarks op b = false := by rfl) (hN : X.N[i]? = some x := by rfl)
    (hv : Vis X.env.scope x := by first | exact Or.inl rfl | exact Or.inr (Or.inl rfl) | exact Or.inr (Or.inr rfl)) (hd : (x == ("__debug__" : Str)) = false := by decide) (hcd : (x == ("__classdict__" : Str)) = false := by decide) :
    DE X Wx (.Compare (.Name x vp) [op] [b] pos) (opLO g i mb) :=
  de_of (pe_cmpR ho.p (pe_var hN hv hd hcd) hb.p hm) fun W st S σ Q a q => opLO_go (op := op) a q
theorem dt_cmpLO {op : CmpOp} {g : D → D → Store → Option D} (i : Nat) (ho : OpN X (compareOp op) g) (hb : DE X Wx b mb) (hm : behindInMarks op b = false := by rfl) (hN : X.N[i]? = some x := by rfl)
    (hv : Vis X.env.scope x := by first | exact Or.inl rfl | exact Or.inr (Or.inl rfl) | exact Or.inr (Or.inr rfl)) (hd : (x == ("__debug__" : Str)) = false := by decide) (hcd : (x == ("__classdict__" : Str)) = false := by decide) :
    DT X Wx (.Compare (.Name x vp) [op] [b] pos) (bE (opLO g i mb)) :=
  dt_of (pt_cmpR ho.p (pe_var hN hv hd hcd) hb.p hm) fun W st S σ Q at_ q => by
    refine opLO_go (g := g) (i := i) (mb := mb) (op := op) (Q := fun x H' => ∃ k, x = .bl k ∧ Q k H') at_ ?_
    unfold bE at q
    cases e : opLO g i mb st S with
    | ok d S1 =>
      rw [e] at q
      simp only [bind_ok] at q
      cases e2 : asB d with
      | none => rw [e2] at q; exact q.elim
      | some k =>
        rw [e2] at q
        exact fun W' v l s r => ⟨k, rep_bl r e2, q W' l s⟩
    | err x S1 => rw [e] at q; exact q
    | bad => rw [e] at q; exact q
/-- len(x) -/
def lenO (i : Nat) : EM D := fun st S => ownOf i st fun xs => .ok (.int xs.length) S
theorem de_lenO (i : Nat) (hg : Gl X "len") (hm : X.mg "len" = none) (hN : X.N[i]? = some x := by rfl)
    (hv : Vis X.env.scope x := by first | exact Or.inl rfl | exact Or.inr (Or.inl rfl) | exact Or.inr (Or.inr rfl)) (hd : (x == ("__debug__" : Str)) = false := by decide) (hcd : (x == ("__classdict__" : Str)) = false := by decide)
    (he : starEach [.Name x vp] X.env = (false, eval (.Name x vp) X.env) :: starEach [] X.env := by rfl) (hpl : (backTo pos (starEach [] X.env)).any (·.1) = false := by rfl) : DE X Wx (.Call (.Name "len" p) [.Name x vp] [] pos) (lenO i) :=
  de_of (pe_callB call_len_seq hg hm b_len (pa_cons (pe_var hN hv hd hcd) pa_nil he) (by decide) (by decide) he hpl) fun W st S σ Q a q => by
    obtain ⟨xs, hs, q⟩ := ownOf_go q
    obtain ⟨b, vs, h1, h2, _, h3, s2, r2, ev⟩ := own_thaw a.e a.s hs
    exact ⟨.ref b, h1, b, vs, rfl, .inl (.inl (.inl h2)), by rw [← h3.length]; exact q W _ (.refl W) a.s rep_iI⟩
/-- x[e] -/
def ixO (i : Nat) (m : EM D) : EM D := fun st S => ownOf i st fun xs => (m st S).bind fun d S1 => .of (gIx (.lst xs) d S1) S1
theorem de_ixO (i : Nat) (hb : DE X Wx e me) (hs : PlainIx e := by exact fun _ _ => rfl) (hN : X.N[i]? = some x := by rfl)
    (hv : Vis X.env.scope x := by first | exact Or.inl rfl | exact Or.inr (Or.inl rfl) | exact Or.inr (Or.inr rfl)) (hd : (x == ("__debug__" : Str)) = false := by decide) (hcd : (x == ("__classdict__" : Str)) = false := by decide) :
    DE X Wx (.Subscript (.Name x vp) e pos) (ixO i me) :=
  de_of (pe_ix ix_seq (pe_var hN hv hd hcd) hb.p hs) fun W st S σ Q a q => by
    obtain ⟨xs, hs, q⟩ := ownOf_go q
    obtain ⟨b0, vs0, h1, h2, lb, h3, s2, r2, ev⟩ := own_thaw a.e a.s hs
    refine ⟨.ref b0, h1, ?_⟩
    refine goE a q fun W1 d S1 v l a1 r1 q1 => ?_
    obtain ⟨b, vs, h1', h2', _, h3', s2', r2', ev'⟩ := own_thaw a1.e a1.s hs
    have eb : b = b0 := by rw [h1] at h1'; cases h1'; rfl
    subst eb
    obtain ⟨z, e1, k⟩ := of_go q1
    unfold gIx at e1
    cases ey : asI d with
    | none => rw [ey] at e1; cases e1
    | some j =>
      rw [ey] at e1
      obtain rfl := asI_rep r1 ey
      have e2 : L2.atI xs j = some z := e1
      obtain ⟨u, w1, w2⟩ := h3'.atI e2
      exact .inl ⟨b, vs, j, u, rfl, rfl, .inl (.inl h2'), w1, k W1 _ (.refl W1) a1.s w2⟩
/-- for .. in x, within a comprehension -/
def itO (i : Nat) : EM (List D) := fun st S => match st[i]? with
  | some (some (.o xs)) => .ok xs S
  | _ => .bad
theorem dil_own {tg : Expr} (i : Nat) (hN : X.N[i]? = some x := by rfl) (hv : Vis X.env.scope x := by first | exact Or.inl rfl | exact Or.inr (Or.inl rfl) | exact Or.inr (Or.inr rfl)) (hd : (x == ("__debug__" : Str)) = false := by decide)
    (hcd : (x == ("__classdict__" : Str)) = false := by decide) : DIL X Wx tg (.Name x vp) (itO i) :=
  ⟨pi_imp (pi_list (pe_var hN hv hd hcd)) fun σ H R ⟨W, st, S, a, q⟩ => by
    obtain ⟨rfl, s, ee⟩ := a
    unfold itO at q
    split at q
    · rename_i xs hs
      obtain ⟨b, vs, h1, h2, lb, h3, s2, r2, ev⟩ := own_thaw ee s hs
      refine ⟨.ref b, h1, b, rfl, ⟨vs, .inl (.inl h2)⟩, q W _ (.refl W) ⟨rfl, s, ee⟩ ⟨fun H => SqL X.K H b vs, _, by rw [h3.length]; exact walk_list (K := X.K) (a := b) (xs := vs), fun W2 l => .inl (.inl (l.l _ _ lb h2).2), fun W2 S2 i x H' d l s e y => ?_⟩⟩
      obtain ⟨rfl, hx⟩ := y
      obtain ⟨v, h1, h2⟩ := h3.get e
      rw [hx] at h1
      cases h1
      exact ⟨W2, rfl, .refl W2, s, h2.mono l _ _⟩
    · exact q.elim⟩
end
end KF

set_option Elab.async false
set_option linter.all false
set_option maxRecDepth 100000
set_option maxHeartbeats 4000000
/-! KGH: an instance that is never changed again is a value. -/
namespace KF
open PySem PySem.Spec PyProof.Rows L2
mutual
/-- only cells below n -/
def celLt (n : Nat) : D → Bool
  | .cell k => decide (k < n)
  | .tup xs => celLts n xs
  | .lst xs => celLts n xs
  | .scr xs => celLts n xs
  | .dct _ xs => celLts n xs
  | .ins _ _ xs => celLts n xs
  | .exn _ _ _ _ xs => celLts n xs
  | _ => true
def celLts (n : Nat) : List D → Bool
  | [] => true
  | x :: xs => celLt n x && celLts n xs
end
section
variable {K : PySem.W.Frag} {W W' : Wd}
mutual
theorem Rep.celLt : ∀ (d : D) (v : V), Rep K W d v → celLt W.N.length d = true
  | .non, v, _ | .bl b, v, _ | .int i, v, _ | .str x, v, _ | .ty n, v, _ | .obj a, v, _ => rfl
  | .tup xs, v, h => by
    simp only [Rep] at h
    obtain ⟨a, vs, e, t, r⟩ := h
    exact RepL.celLt xs vs r
  | .lst xs, v, h => by
    simp only [Rep] at h
    obtain ⟨a, vs, e, t, m, r⟩ := h
    exact RepL.celLt xs vs r
  | .scr xs, v, h => by
    simp only [Rep] at h
    obtain ⟨a, vs, e, t, r⟩ := h
    exact RepL.celLt xs vs r
  | .dct ks xs, v, h => by
    simp only [Rep] at h
    obtain ⟨a, vs, e, t, m, z, r⟩ := h
    exact RepL.celLt xs vs r
  | .ins C ks xs, v, h => by
    simp only [Rep] at h
    obtain ⟨a, dx, vs, e, t, m, z, r⟩ := h
    exact RepL.celLt xs vs r
  | .cell n, v, h => by
    simp only [Rep] at h
    obtain ⟨a, e, q⟩ := h
    simpa [KF.celLt] using (List.getElem?_eq_some_iff.mp q).1
  | .exn c a dx ks xs, v, h => by
    simp only [Rep] at h
    obtain ⟨e, vs, t, m, z, r⟩ := h
    exact RepL.celLt xs vs r
theorem RepL.celLt : ∀ (ds : List D) (vs : List V), RepL K W ds vs → celLts W.N.length ds = true
  | [], vs, _ => rfl
  | d :: ds, vs, h => by
    simp only [RepL] at h
    obtain ⟨v, r, e, h1, h2⟩ := h
    simp only [celLts, Rep.celLt d v h1, RepL.celLt ds r h2, Bool.and_self]
end
/-- the names from n on are dropped -/
def Wd.cut (W : Wd) (n : Nat) : Wd := { W with N := W.N.take n }
mutual
theorem Rep.nam {n : Nat} : ∀ (d : D) (v : V), celLt n d = true → Rep K W d v → Rep K (W.cut n) d v
  | .non, v, _, h | .bl b, v, _, h | .int i, v, _, h | .str x, v, _, h | .ty n, v, _, h | .obj a, v, _, h => by simpa only [Rep] using h
  | .tup xs, v, c, h => by
    simp only [KF.celLt] at c
    simp only [Rep] at h ⊢
    obtain ⟨a, vs, e, t, r⟩ := h
    exact ⟨a, vs, e, t, RepL.nam xs vs c r⟩
  | .lst xs, v, c, h => by
    simp only [KF.celLt] at c
    simp only [Rep] at h ⊢
    obtain ⟨a, vs, e, t, m, r⟩ := h
    exact ⟨a, vs, e, t, m, RepL.nam xs vs c r⟩
  | .scr xs, v, c, h => by
    simp only [KF.celLt] at c
    simp only [Rep] at h ⊢
    obtain ⟨a, vs, e, t, r⟩ := h
    exact ⟨a, vs, e, t, RepL.nam xs vs c r⟩
  | .dct ks xs, v, c, h => by
    simp only [KF.celLt] at c
    simp only [Rep] at h ⊢
    obtain ⟨a, vs, e, t, m, z, r⟩ := h
    exact ⟨a, vs, e, t, m, z, RepL.nam xs vs c r⟩
  | .ins C ks xs, v, c, h => by
    simp only [KF.celLt] at c
    simp only [Rep] at h ⊢
    obtain ⟨a, dx, vs, e, t, m, z, r⟩ := h
    exact ⟨a, dx, vs, e, t, m, z, RepL.nam xs vs c r⟩
  | .cell k, v, c, h => by
    simp only [KF.celLt, decide_eq_true_eq] at c
    simp only [Rep] at h ⊢
    obtain ⟨a, e, q⟩ := h
    exact ⟨a, e, by show (W.N.take n)[k]? = _; rw [List.getElem?_take, if_pos c]; exact q⟩
  | .exn e a dx ks xs, v, c, h => by
    simp only [KF.celLt] at c
    simp only [Rep] at h ⊢
    obtain ⟨e, vs, t, m, z, r⟩ := h
    exact ⟨e, vs, t, m, z, RepL.nam xs vs c r⟩
theorem RepL.nam {n : Nat} : ∀ (ds : List D) (vs : List V), celLts n ds = true → RepL K W ds vs → RepL K (W.cut n) ds vs
  | [], vs, _, h => by simpa only [RepL] using h
  | d :: ds, vs, c, h => by
    simp only [celLts, Bool.and_eq_true] at c
    simp only [RepL] at h ⊢
    obtain ⟨v, r, e, h1, h2⟩ := h
    exact ⟨v, r, e, Rep.nam d v c.1 h1, RepL.nam ds r c.2 h2⟩
end
def cellLt (n : Nat) : Cell → Bool
  | .lst xs => celLts n xs
  | .fro xs => celLts n xs
  | .ins _ _ xs => celLts n xs
  | .fins _ _ xs => celLts n xs
  | .dT _ xs => celLts n xs
  | .dK _ xs => celLts n xs
theorem CRep.lt {a : Addr} {c : Cell} (h : CRep K W a c) : cellLt W.N.length c = true := by
  cases c <;> simp only [CRep] at h <;> simp only [cellLt]
  · obtain ⟨vs, _, _, r⟩ := h; exact RepL.celLt _ _ r
  · obtain ⟨vs, _, _, r⟩ := h; exact RepL.celLt _ _ r
  · obtain ⟨_, vs, _, _, _, r⟩ := h; exact RepL.celLt _ _ r
  · obtain ⟨_, vs, _, _, _, r⟩ := h; exact RepL.celLt _ _ r
  · obtain ⟨vs, _, _, _, r⟩ := h; exact RepL.celLt _ _ r
  · obtain ⟨vs, _, _, _, r⟩ := h; exact RepL.celLt _ _ r
theorem CRep.cut {n : Nat} {a : Addr} {c : Cell} (hl : cellLt n c = true) (h : CRep K W a c) : CRep K (W.cut n) a c := by
  cases c <;> simp only [CRep] at h ⊢ <;> simp only [cellLt] at hl
  · obtain ⟨vs, h1, h2, r⟩ := h; exact ⟨vs, h1, h2, r.nam _ _ hl⟩
  · obtain ⟨vs, h1, h2, r⟩ := h; exact ⟨vs, h1, h2, r.nam _ _ hl⟩
  · obtain ⟨dx, vs, h1, h2, h3, r⟩ := h; exact ⟨dx, vs, h1, h2, h3, r.nam _ _ hl⟩
  · obtain ⟨dx, vs, h1, h2, h3, r⟩ := h; exact ⟨dx, vs, h1, h2, h3, r.nam _ _ hl⟩
  · obtain ⟨vs, h1, h2, h3, r⟩ := h; exact ⟨vs, h1, h2, h3, r.nam _ _ hl⟩
  · obtain ⟨vs, h1, h2, h3, r⟩ := h; exact ⟨vs, h1, h2, h3, r.nam _ _ hl⟩
/-- the last cell's name is dropped -/
theorem SRep.cut {S : Store} {c : Cell} (s : SRep K W S) (s' : SRep K W' (S ++ [c])) (l : W.le W') : W.le (W'.cut S.length) ∧ SRep K (W'.cut S.length) S := by
  have hl : W'.N.length = S.length + 1 := by rw [s'.len]; simp
  refine ⟨⟨⟨fun i a h => ?_, l.h⟩, l.l, l.m⟩, ⟨by show (W'.N.take S.length).length = _; rw [List.length_take, hl]; omega, s'.nd.sublist (List.take_sublist _ _), fun a ha => s'.tr a (List.mem_of_mem_take ha), s'.mn, fun a ha => ⟨(s'.lk a ha).1, fun z => (s'.lk a ha).2 (List.mem_of_mem_take z)⟩, fun n a d h1 h2 => ?_⟩⟩
  · show (W'.N.take S.length)[i]? = some a
    rw [List.getElem?_take, if_pos (by rw [← s.len]; exact (List.getElem?_eq_some_iff.mp h).1)]
    exact l.n i a h
  · have h1' : (W'.N.take S.length)[n]? = some a := h1
    have hn : n < S.length := (List.getElem?_eq_some_iff.mp h2).1
    rw [List.getElem?_take, if_pos hn] at h1'
    refine CRep.cut ?_ (s'.at_ n a d h1' (by rw [List.getElem?_append_left hn]; exact h2))
    have hn' : n < W.N.length := by rw [s.len]; exact hn
    have := (s.at_ n _ d (List.getElem?_eq_getElem hn') h2).lt
    rwa [s.len] at this
end
def noCx (n : Nat) (e : Exn) : Bool := match e.fs with
  | none => true
  | some (_, ds) => celLts n ds
theorem ERep.cut {K : PySem.W.Frag} {W : Wd} {n : Nat} {e : Exn} {od : Option Addr} (c : noCx n e = true) (h : ERep K W e od) : ERep K (W.cut n) e od := by
  obtain ⟨cc, fs⟩ := e
  cases fs with
  | none => exact h
  | some p =>
    obtain ⟨ks, ds⟩ := p
    obtain ⟨dx, vs, h1, h2, h3, h4, r⟩ := h
    exact ⟨dx, vs, h1, h2, h3, h4, r.nam _ _ c⟩
open Classical in
/-- an instance, made and never changed again; its making leaves the store as it was -/
noncomputable def mkU (C : Addr) (m : List D → List D → Store → Res D) : List D → List D → Store → Res D := fun ds es S => match m (.cell S.length :: ds) es (S ++ [.ins C [] []]) with
  | .ok .non S' => (match S'.getLast? with
    | some (.ins C' ks xs) => if C' = C ∧ celLts S.length xs = true ∧ S' = S ++ [.ins C ks xs] then .ok (.ins C ks xs) S else .bad
    | _ => .bad)
  | .err e S' => if noCx S.length e = true ∧ ∃ c, S' = S ++ [c] then .err e S else .bad
  | _ => .bad
section
variable {X : Cx} {Wx : WX} {C f : Addr} {k : Nat} {fd : FuncData} {ps ks : List Str} {m : List D → Store → Res D} {nP : Nat} {gD : List D → List D → List D}
theorem cal_mkU (M : Mk X.K C f) (F : FnG X.prog X.w X.K X.mg X.base k f fd ps (spD X.K m ps.length)) (hr : Room (k + 1) X.A) (gd : X.A.guards = some []) (tk : Takes X Wx) (b : BD X.K fd ps ks (nP + 1) gD) : CalD X Wx (.ref C) ks (mkU C (bnd (nP + 1) ks.length gD m)) :=
  ⟨fun pins σ s W S ds es vs zs us ws Q I sr rd re rv rz q => mk_run M F hr gd tk b I sr rd re rv rz fun dx x ne n1 n2 l2 rself => by
    unfold mkU at q
    generalize bnd (nP + 1) ks.length gD m (.cell S.length :: ds) es (S ++ [.ins C [] []]) = r at q
    match r, q with
    | .ok .non S', q =>
      intro W' v l s' r
      refine ⟨by simpa [Rep] using r, ?_⟩
      simp only at q
      cases hS : S'.getLast? with
      | none => rw [hS] at q; exact q.elim
      | some c =>
        rw [hS] at q
        cases c <;> simp only at q <;> try exact q.elim
        split at q
        · rename_i C' ks' xs hc
          obtain ⟨rfl, hx, rfl⟩ := hc
          have hN : W'.N[S.length]? = some x := by
            have := Rep.mono l _ _ rself
            simp only [Rep] at this
            obtain ⟨a, e1, e2⟩ := this
            cases e1
            exact e2
          obtain ⟨dd, vs', h1, h2, h3, h4⟩ := s'.at_ _ _ _ hN (by simp : (S ++ [Cell.ins C' ks' xs])[S.length]? = some (.ins C' ks' xs))
          obtain ⟨l3, s3⟩ := sr.cut s' (l2.trans l)
          have nN : x ∉ (W'.cut S.length).N := fun z => by
            have z' : x ∈ W'.N.take S.length := z
            obtain ⟨j, hj, e⟩ := List.mem_iff_getElem.mp z'
            rw [List.getElem_take] at e
            have hj' : j < S.length := by simp at hj; omega
            have hj2 : j < W'.N.length := by simp at hj; omega
            have := (List.getElem?_inj hj2 s'.nd (j := S.length)).mp (by rw [List.getElem?_eq_getElem hj2, e, hN])
            omega
          have nL : ¬ (W'.cut S.length).L x := s'.nl hN
          have l4 : (W'.cut S.length).le ((W'.cut S.length).wr x (.ins C' dd (ks'.zip vs')) False) := Wd.wr_le h2 nL
          have eH : upd W'.H x (.ins C' dd (ks'.zip vs')) = W'.H := funext fun y => by
            by_cases e : y = x
            · subst e; rw [upd_same, h1]
            · rw [upd_ne e]
          have nM : ¬ ((W'.cut S.length).wr x (.ins C' dd (ks'.zip vs')) False).M x := fun z => z.2 rfl
          have r4 := RepL.mono l4 _ _ (h4.nam _ _ hx)
          have Z := q ((W'.cut S.length).wr x (.ins C' dd (ks'.zip vs')) False) (.ref x) (l3.trans l4) (s3.wrA nN h2 nL) (by
            simp only [Rep]
            exact ⟨x, dd, vs', rfl, upd_same, nM, h3, r4⟩)
          have e2 : ((W'.cut S.length).wr x (.ins C' dd (ks'.zip vs')) False).H = W'.H := eH
          rw [e2] at Z
          exact Z
        · exact q.elim
    | .err e S', q =>
      simp only at q
      split at q
      · rename_i hc
        obtain ⟨hx, c, rfl⟩ := hc
        intro W' od l s' r
        obtain ⟨l3, s3⟩ := sr.cut s' (l2.trans l)
        exact q (W'.cut S.length) od l3 s3 (r.cut hx)
      · exact q.elim⟩
/-- o.f = e -/
def fsetR (C : Addr) (fn : Str) (x d : D) (S : Store) : Res Unit := match mutI S x with
  | some (n, C', ks, xs) => if C' = C ∧ ks.length < 900 then .ok () (S.set n (.ins C (putD fn d ks xs).1 (putD fn d ks xs).2)) else .bad
  | none => .bad
variable {ρ τ κ : Type} {Md : Mode ρ τ κ} {ss : List Stmt} {st : DSt} {e o : Expr} {me mo : EM D} {pos pos' : Pos}
theorem dh_fset {fn : Str} {kk : Store → Res ρ} (c : Cls X.K C) (nn : NoAttr X.K C fn) (ho : DE X Wx o mo) (he : DE X Wx e me) (hk : DH X Wx Md ss st kk) (hs : swapsWith e (some (.Attribute o fn pos')) pos.line X.env = pure false := by rfl) (hse : SubX Md.se st := by exact .inl rfl) :
    DH X Wx Md (.Assign [.Attribute o fn pos'] e pos :: ss) st (fun S => (me st S).bind fun d S1 => (mo st S1).bind fun x S2 => (fsetR C fn x d S2).bind fun _ S3 => kk S3) := by
  refine dh_of (pss_cons (ps_fld ho.p he.p hs) hk.p) fun W S σ D cD a q => ?_
  refine goH a hse q fun W1 d S1 v l1 a1 r1 q1 => ?_
  replace q1 : HQ X.K W1 (ownA st σ) Md D Wx ((mo st S1).bind _) := q1
  refine goH a1 hse q1 fun W2 x S2 xv l2 a2 r2 q2 => ?_
  unfold fsetR at q2
  cases h : mutI S2 x with
  | none => rw [h] at q2; exact q2.elim
  | some t =>
    obtain ⟨n, C', ks, xs⟩ := t
    rw [h] at q2
    simp only at q2
    split at q2
    · rename_i hc
      obtain ⟨rfl, hlen⟩ := hc
      obtain ⟨p, dx, vs, rfl, h2, h3, h4, h5, h6⟩ := mutI_rep a2.s r2 h
      obtain ⟨vs', z1, z2, z3, z4⟩ := putD_rep (r1.mono l2 _ _) (fn := fn) h5 h6
      have l := Wd.wr_le (W := W2) (o := .ins C' dx (putF fn v (ks.zip vs))) (b := True) h3 (a2.s.nl h2)
      refine ⟨p, C', dx, _, rfl, h4, c, nn, ?_, ?_⟩
      · rw [List.length_zip, ← h5, Nat.min_self]; omega
      · have sr : SRep X.K (W2.wr p (.ins C' dx (putF fn v (ks.zip vs))) True) (S2.set n (.ins C' (putD fn d ks xs).1 (putD fn d ks xs).2)) := a2.s.wr h2 h3 ⟨dx, vs', by
          show upd W2.H p _ p = _
          rw [upd_same, z1], ⟨h3, fun _ => trivial⟩, z2, z3.mono l _ _⟩
        exact ⟨cD, _, _, ⟨rfl, sr, a2.e.mono l⟩, HQ.le (r := kk _) a2.s l q2⟩
    · exact q2.elim
end
end KF

set_option Elab.async false
set_option linter.all false
set_option maxRecDepth 100000
set_option maxHeartbeats 4000000
/-! KGI: helpers of printed texts. -/
namespace KF
open PySem PySem.Spec PyProof.Rows L2
section
variable {ρ τ κ : Type} {X : Cx} {Wx : WX} {M : Mode ρ τ κ} {ss : List Stmt} {st : DSt} {S : Store} {d : D}
def unT2 (d : D) (k : D → D → Res ρ) : Res ρ := match d with
  | .tup [a, b] => k a b
  | _ => .bad
def unT3 (d : D) (k : D → D → D → Res ρ) : Res ρ := match d with
  | .tup [a, b, c] => k a b c
  | _ => .bad
def unT4 (d : D) (k : D → D → D → D → Res ρ) : Res ρ := match d with
  | .tup [a, b, c, e] => k a b c e
  | _ => .bad
theorem goes_n {i : Nat} {p : Store → Res ρ} (h : DH X Wx M ss (st.set i (some (.v d))) p) : Goes X Wx M ss (nameY i d st S) (p S) := .to rfl h
theorem goes_t2 {gs : List D → DSt → Store → Res DSt} {k : D → D → Res ρ} (h : ∀ a b, Goes X Wx M ss (gs [a, b] st S) (k a b)) : Goes X Wx M ss (tupY 2 gs d st S) (unT2 d k) := by
  unfold unT2
  split
  · exact h _ _
  · exact .inl rfl
theorem goes_t3 {gs : List D → DSt → Store → Res DSt} {k : D → D → D → Res ρ} (h : ∀ a b c, Goes X Wx M ss (gs [a, b, c] st S) (k a b c)) : Goes X Wx M ss (tupY 3 gs d st S) (unT3 d k) := by
  unfold unT3
  split
  · exact h _ _ _
  · exact .inl rfl
theorem goes_t4 {gs : List D → DSt → Store → Res DSt} {k : D → D → D → D → Res ρ} (h : ∀ a b c e, Goes X Wx M ss (gs [a, b, c, e] st S) (k a b c e)) : Goes X Wx M ss (tupY 4 gs d st S) (unT4 d k) := by
  unfold unT4
  split
  · exact h _ _ _ _
  · exact .inl rfl
/-- a pair within, then what follows -/
theorem goes_b2 {gs : List D → DSt → Store → Res DSt} {f : DSt → Store → Res DSt} {k : D → D → Res ρ} (h : ∀ a b, Goes X Wx M ss ((gs [a, b] st S).bind f) (k a b)) : Goes X Wx M ss ((tupY 2 gs d st S).bind f) (unT2 d k) := by
  unfold unT2
  split
  · exact h _ _
  · exact .inl rfl
theorem goes_s {mo mi : EM D} {x y v : D} {ds : List D} {gs : List D → DSt → Store → Res DSt} {k : Store → Res ρ} (h : ∀ S1, Goes X Wx M ss (gs ds st S1) (k S1)) (ho : mo st S = .ok x S := by rfl) (hi : mi st S = .ok y S := by rfl) : Goes X Wx M ss (consY (subY mo mi) gs (v :: ds) st S) ((setR x y v S).bind fun _ S3 => k S3) := by
  unfold consY subY
  simp only [ho, hi, bind_ok]
  unfold setR
  cases setIt x y v S with
  | none => exact .inl rfl
  | some S3 => exact h S3
theorem goes_s1 {mo mi : EM D} {x y v : D} {k : Store → Res ρ} (h : DH X Wx M ss st k) (ho : mo st S = .ok x S := by rfl) (hi : mi st S = .ok y S := by rfl) : Goes X Wx M ss (subY mo mi v st S) ((setR x y v S).bind fun _ S3 => k S3) := by
  unfold subY
  simp only [ho, hi, bind_ok]
  unfold setR
  cases setIt x y v S with
  | none => exact .inl rfl
  | some S3 => exact .to rfl h
end
/-! ### readings -/
def andR (x : D) (S : Store) (b : Store → Res D) : Res D := match x with
  | .bl true => b S
  | .bl false => .ok (.bl false) S
  | _ => .bad
def orR (x : D) (S : Store) (b : Store → Res D) : Res D := match x with
  | .bl true => .ok (.bl true) S
  | .bl false => b S
  | _ => .bad
def notR (x : D) (S : Store) : Res D := match x with
  | .bl k => .ok (.bl (!k)) S
  | _ => .bad
def negR (x : D) (S : Store) : Res D := match x with
  | .int i => .ok (.int (-i)) S
  | _ => .bad
def chR (x : D) (S : Store) (b : Store → Res D) : Res D := match x with
  | .bl true => b S
  | .bl false => .ok (.bl false) S
  | _ => .bad
def fldR (C : Addr) (fn : Str) (x : D) (S : Store) : Res D := match fldD C fn x S with
  | some d => .ok d S
  | none => .bad
def propR (C : Addr) (g : List D → List D → Store → Res D) (x : D) (S : Store) : Res D := match insOf S x with
  | some (C', _, _) => if C' = C then (g [x] [] S).noE else .bad
  | none => .bad
def tupR (ds : List D) (S : Store) : Res D := if ds.length ≤ sizeLine then .ok (.tup ds) S else .bad
def lstR (ds : List D) (S : Store) : Res D := if ds.length ≤ sizeLine then .ok (.lst ds) S else .bad
def lstCR (ds : List D) (S : Store) : Res D := if ds.length ≤ sizeLine then .ok (.cell S.length) (S ++ [.lst ds]) else .bad
def lstFR (ds : List D) (S : Store) : Res (List D) := if ds.length ≤ sizeLine then .ok ds S else .bad
def blR (o : Option D) (S : Store) : Res D := match o with
  | some (.bl k) => .ok (.bl k) S
  | _ => .bad
def insR {ρ : Type} (xs : List D) (n : D) (k : Nat → Res ρ) : Res ρ := match n with
  | .int j => if xs.length < sizeLine ∧ 0 ≤ j ∧ j < 2 ^ 63 then k j.toNat else .bad
  | _ => .bad
def setIR {ρ : Type} (xs : List D) (n : D) (k : Nat → Res ρ) : Res ρ := match n with
  | .int j => (match ixN xs.length j with
    | some q => k q
    | none => .bad)
  | _ => .bad
def rng1R (d : D) (S : Store) : Res (List D) := match d with
  | .int n => if -(2 ^ 62) ≤ n ∧ n < 2 ^ 62 then .ok (rangeI 0 n) S else .bad
  | _ => .bad
def rng2R (ds : List D) (S : Store) : Res (List D) := match ds with
  | [.int a, .int b] => if (-(2 ^ 62) ≤ a ∧ a < 2 ^ 62) ∧ (-(2 ^ 62) ≤ b ∧ b < 2 ^ 62) then .ok (rangeI a b) S else .bad
  | _ => .bad
section
variable {st : DSt} {S : Store} {a b c m : EM D} {ml : EM (List D)} {t u : EM Bool}
example : andE a b st S = (a st S).bind fun x S1 => andR x S1 (b st) := rfl
example : orE a b st S = (a st S).bind fun x S1 => orR x S1 (b st) := rfl
example : notE a st S = (a st S).bind notR := rfl
example {g g' : D → D → Store → Option D} : chE g g' a b c st S = (a st S).bind fun x S1 => (b st S1).bind fun y S2 => (Res.of (g x y S2) S2).bind fun k S3 => chR k S3 fun S3 => (c st S3).bind fun z S4 => .of (g' y z S4) S4 := rfl
example {C : Addr} {fn : Str} : fldE C fn a st S = (a st S).bind (fldR C fn) := rfl
example : tupE ml st S = (ml st S).bind tupR := rfl
example : rng1E a st S = (a st S).bind rng1R := rfl
example (x y : D) : tupE (seqE [vE 0, vE 1]) [some (.v (.bl true)), some (.v (.int 3))] S = .ok (.tup [.bl true, .int 3]) S := rfl
end
end KF

set_option Elab.async false
set_option linter.all false
set_option maxRecDepth 100000
set_option maxHeartbeats 4000000
/-! KGJ: fresh lists at statements. -/
namespace KF
open PySem PySem.Spec PyProof.Rows L2
def lstOfR (d : D) (S : Store) : Res (List D) := match asQ S d with
  | some xs => .ok xs S
  | none => .bad
section
variable {ρ τ κ σσ : Type} {X : Cx} {Wx : WX} {M : Mode ρ τ κ} {ss : List Stmt} {st : DSt} {a b c e : Expr} {ma mb mc me : EM D} {fa fb fc mf : EM (List D)} {pos apos cpos vp sp : Pos} {i : Nat} {x : Str}
/-- list(x), a fresh one -/
theorem df_list {p : Pos} (hg : Gl X "list") (hm : X.mg "list" = none) (h : DE X Wx e me) (he : starEach [e] X.env = (false, eval e X.env) :: starEach [] X.env := by rfl) (hpl : (backTo pos (starEach [] X.env)).any (·.1) = false := by rfl) : DF X Wx (.Call (.Name "list" p) [e] [] pos) (lstOf me) :=
  ⟨pe_imp (pe_callTy (call_list_of) hg hm b_list (pa_cons h.p pa_nil he) (by decide) (by decide) he hpl) fun σ H Q ⟨W, st, S, a, q⟩ => by
    obtain ⟨rfl, s, ee⟩ := a
    unfold lstOf at q
    refine ⟨W, st, S, ⟨rfl, s, ee⟩, ?_⟩
    cases e1 : me st S with
    | bad => rw [e1] at q; exact q.elim
    | err x S1 => rw [e1] at q; exact q
    | ok d S1 =>
      rw [e1] at q
      simp only [bind_ok] at q
      intro W1 v l s1 r
      cases h : asQ S1 d with
      | none => rw [h] at q; exact q.elim
      | some xs =>
        rw [h] at q
        obtain ⟨p, vs, rfl, r1, z⟩ := asQ_cases s1 r h
        exact ⟨p, vs, rfl, z.imp id fun z => z.1, fresh_anon s1 r1 (FQ.mono (r := .ok xs S1) l q)⟩⟩
section
theorem par_vv {i j : Nat} {x y : Str} {px py pt pt2 : Pos} {kt k2 : Nat} {k : D → D → Store → Res ρ} (hc : X.calm = true) (hN : X.N.Nodup) (h0 : DE X Wx a ma) (h1 : DE X Wx b mb) (hk : ∀ (e0 : D) (e1 : D), DH X Wx M ss ((st.set i (some (.v e0))).set j (some (.v e1))) (k e0 e1))
    (hse : SubX M.se st := by exact .inl rfl)
    (hi0 : X.N[i]? = some x := by rfl)
    (hi1 : X.N[j]? = some y := by rfl)
    (hn01 : i ≠ j := by decide)
    (hl0 : X.env.scope.names.lookup x = some .local := by rfl)
    (hl1 : X.env.scope.names.lookup y = some .local := by rfl)
    (hs0 : starEach [a, b] X.env = (false, eval a X.env) :: starEach [b] X.env := by rfl)
    (hs1 : starEach [b] X.env = (false, eval b X.env) :: starEach [] X.env := by rfl)
    (hw : swappedStores [.Tuple [.Name x px, .Name y py] kt pt] (.Tuple [a, b] k2 pt2) X.env = pure (some [x, y]) := by rfl)
    (hsw : swapsWithSole [.Tuple [.Name x px, .Name y py] kt pt] (.Tuple [a, b] k2 pt2) pos.line X.env = pure false := by rfl) :
    DH X Wx M (.Assign [.Tuple [.Name x px, .Name y py] kt pt] (.Tuple [a, b] k2 pt2) pos :: ss) st (fun S => (ma st S).bind fun e0 S1 => (mb st S1).bind fun e1 S2 => k e0 e1 S2) :=
  dh_eq (by
    funext S
    refine val_bind2 fun e0 S1 => ?_
    refine val_bind2 fun e1 S2 => ?_
    rfl) (dh_par2 (k := fun w0 w1 => ofV (fun e0 => ofV (fun e1 => k e0 e1) w1) w0) hc hN h0.v h1.v (fun w0 w1 => dh_val (st2 := fun z => ((st.set i (some z)).set j (some w1))) (fun e0 => dh_val (st2 := fun z => ((st.set i (some (.v e0))).set j (some z))) (fun e1 => hk e0 e1) w1) w0) hse hi0 hi1 hn01 hl0 hl1 hs0 hs1 hw hsw)
theorem par_vo {i j : Nat} {x y : Str} {px py pt pt2 : Pos} {kt k2 : Nat} {k : D → List D → Store → Res ρ} (hc : X.calm = true) (hN : X.N.Nodup) (h0 : DE X Wx a ma) (h1 : DF X Wx b fb) (hk : ∀ (e0 : D) (e1 : List D), DH X Wx M ss ((st.set i (some (.v e0))).set j (some (.o e1))) (k e0 e1))
    (hse : SubX M.se st := by exact .inl rfl)
    (hi0 : X.N[i]? = some x := by rfl)
    (hi1 : X.N[j]? = some y := by rfl)
    (hn01 : i ≠ j := by decide)
    (hl0 : X.env.scope.names.lookup x = some .local := by rfl)
    (hl1 : X.env.scope.names.lookup y = some .local := by rfl)
    (hs0 : starEach [a, b] X.env = (false, eval a X.env) :: starEach [b] X.env := by rfl)
    (hs1 : starEach [b] X.env = (false, eval b X.env) :: starEach [] X.env := by rfl)
    (hw : swappedStores [.Tuple [.Name x px, .Name y py] kt pt] (.Tuple [a, b] k2 pt2) X.env = pure (some [x, y]) := by rfl)
    (hsw : swapsWithSole [.Tuple [.Name x px, .Name y py] kt pt] (.Tuple [a, b] k2 pt2) pos.line X.env = pure false := by rfl) :
    DH X Wx M (.Assign [.Tuple [.Name x px, .Name y py] kt pt] (.Tuple [a, b] k2 pt2) pos :: ss) st (fun S => (ma st S).bind fun e0 S1 => (fb st S1).bind fun e1 S2 => k e0 e1 S2) :=
  dh_eq (by
    funext S
    refine val_bind2 fun e0 S1 => ?_
    refine own_bind2 fun e1 S2 => ?_
    rfl) (dh_par2 (k := fun w0 w1 => ofV (fun e0 => ofOwn (fun e1 => k e0 e1) w1) w0) hc hN h0.v h1.v (fun w0 w1 => dh_val (st2 := fun z => ((st.set i (some z)).set j (some w1))) (fun e0 => dh_own (st2 := fun z => ((st.set i (some (.v e0))).set j (some z))) (fun e1 => hk e0 e1) w1) w0) hse hi0 hi1 hn01 hl0 hl1 hs0 hs1 hw hsw)
theorem par_ov {i j : Nat} {x y : Str} {px py pt pt2 : Pos} {kt k2 : Nat} {k : List D → D → Store → Res ρ} (hc : X.calm = true) (hN : X.N.Nodup) (h0 : DF X Wx a fa) (h1 : DE X Wx b mb) (hk : ∀ (e0 : List D) (e1 : D), DH X Wx M ss ((st.set i (some (.o e0))).set j (some (.v e1))) (k e0 e1))
    (hse : SubX M.se st := by exact .inl rfl)
    (hi0 : X.N[i]? = some x := by rfl)
    (hi1 : X.N[j]? = some y := by rfl)
    (hn01 : i ≠ j := by decide)
    (hl0 : X.env.scope.names.lookup x = some .local := by rfl)
    (hl1 : X.env.scope.names.lookup y = some .local := by rfl)
    (hs0 : starEach [a, b] X.env = (false, eval a X.env) :: starEach [b] X.env := by rfl)
    (hs1 : starEach [b] X.env = (false, eval b X.env) :: starEach [] X.env := by rfl)
    (hw : swappedStores [.Tuple [.Name x px, .Name y py] kt pt] (.Tuple [a, b] k2 pt2) X.env = pure (some [x, y]) := by rfl)
    (hsw : swapsWithSole [.Tuple [.Name x px, .Name y py] kt pt] (.Tuple [a, b] k2 pt2) pos.line X.env = pure false := by rfl) :
    DH X Wx M (.Assign [.Tuple [.Name x px, .Name y py] kt pt] (.Tuple [a, b] k2 pt2) pos :: ss) st (fun S => (fa st S).bind fun e0 S1 => (mb st S1).bind fun e1 S2 => k e0 e1 S2) :=
  dh_eq (by
    funext S
    refine own_bind2 fun e0 S1 => ?_
    refine val_bind2 fun e1 S2 => ?_
    rfl) (dh_par2 (k := fun w0 w1 => ofOwn (fun e0 => ofV (fun e1 => k e0 e1) w1) w0) hc hN h0.v h1.v (fun w0 w1 => dh_own (st2 := fun z => ((st.set i (some z)).set j (some w1))) (fun e0 => dh_val (st2 := fun z => ((st.set i (some (.o e0))).set j (some z))) (fun e1 => hk e0 e1) w1) w0) hse hi0 hi1 hn01 hl0 hl1 hs0 hs1 hw hsw)
theorem par_oo {i j : Nat} {x y : Str} {px py pt pt2 : Pos} {kt k2 : Nat} {k : List D → List D → Store → Res ρ} (hc : X.calm = true) (hN : X.N.Nodup) (h0 : DF X Wx a fa) (h1 : DF X Wx b fb) (hk : ∀ (e0 : List D) (e1 : List D), DH X Wx M ss ((st.set i (some (.o e0))).set j (some (.o e1))) (k e0 e1))
    (hse : SubX M.se st := by exact .inl rfl)
    (hi0 : X.N[i]? = some x := by rfl)
    (hi1 : X.N[j]? = some y := by rfl)
    (hn01 : i ≠ j := by decide)
    (hl0 : X.env.scope.names.lookup x = some .local := by rfl)
    (hl1 : X.env.scope.names.lookup y = some .local := by rfl)
    (hs0 : starEach [a, b] X.env = (false, eval a X.env) :: starEach [b] X.env := by rfl)
    (hs1 : starEach [b] X.env = (false, eval b X.env) :: starEach [] X.env := by rfl)
    (hw : swappedStores [.Tuple [.Name x px, .Name y py] kt pt] (.Tuple [a, b] k2 pt2) X.env = pure (some [x, y]) := by rfl)
    (hsw : swapsWithSole [.Tuple [.Name x px, .Name y py] kt pt] (.Tuple [a, b] k2 pt2) pos.line X.env = pure false := by rfl) :
    DH X Wx M (.Assign [.Tuple [.Name x px, .Name y py] kt pt] (.Tuple [a, b] k2 pt2) pos :: ss) st (fun S => (fa st S).bind fun e0 S1 => (fb st S1).bind fun e1 S2 => k e0 e1 S2) :=
  dh_eq (by
    funext S
    refine own_bind2 fun e0 S1 => ?_
    refine own_bind2 fun e1 S2 => ?_
    rfl) (dh_par2 (k := fun w0 w1 => ofOwn (fun e0 => ofOwn (fun e1 => k e0 e1) w1) w0) hc hN h0.v h1.v (fun w0 w1 => dh_own (st2 := fun z => ((st.set i (some z)).set j (some w1))) (fun e0 => dh_own (st2 := fun z => ((st.set i (some (.o e0))).set j (some z))) (fun e1 => hk e0 e1) w1) w0) hse hi0 hi1 hn01 hl0 hl1 hs0 hs1 hw hsw)
theorem par_vvv {i j l : Nat} {x y z : Str} {px py pz pt pt2 : Pos} {kt k2 : Nat} {k : D → D → D → Store → Res ρ} (hc : X.calm = true) (hN : X.N.Nodup) (h0 : DE X Wx a ma) (h1 : DE X Wx b mb) (h2 : DE X Wx c mc) (hk : ∀ (e0 : D) (e1 : D) (e2 : D), DH X Wx M ss (((st.set i (some (.v e0))).set j (some (.v e1))).set l (some (.v e2))) (k e0 e1 e2))
    (hse : SubX M.se st := by exact .inl rfl)
    (hi0 : X.N[i]? = some x := by rfl)
    (hi1 : X.N[j]? = some y := by rfl)
    (hi2 : X.N[l]? = some z := by rfl)
    (hn01 : i ≠ j := by decide)
    (hn02 : i ≠ l := by decide)
    (hn12 : j ≠ l := by decide)
    (hl0 : X.env.scope.names.lookup x = some .local := by rfl)
    (hl1 : X.env.scope.names.lookup y = some .local := by rfl)
    (hl2 : X.env.scope.names.lookup z = some .local := by rfl)
    (hs0 : starEach [a, b, c] X.env = (false, eval a X.env) :: starEach [b, c] X.env := by rfl)
    (hs1 : starEach [b, c] X.env = (false, eval b X.env) :: starEach [c] X.env := by rfl)
    (hs2 : starEach [c] X.env = (false, eval c X.env) :: starEach [] X.env := by rfl)
    (hw : swappedStores [.Tuple [.Name x px, .Name y py, .Name z pz] kt pt] (.Tuple [a, b, c] k2 pt2) X.env = pure (some [x, y, z]) := by rfl)
    (hsw : swapsWithSole [.Tuple [.Name x px, .Name y py, .Name z pz] kt pt] (.Tuple [a, b, c] k2 pt2) pos.line X.env = pure false := by rfl) :
    DH X Wx M (.Assign [.Tuple [.Name x px, .Name y py, .Name z pz] kt pt] (.Tuple [a, b, c] k2 pt2) pos :: ss) st (fun S => (ma st S).bind fun e0 S1 => (mb st S1).bind fun e1 S2 => (mc st S2).bind fun e2 S3 => k e0 e1 e2 S3) :=
  dh_eq (by
    funext S
    refine val_bind2 fun e0 S1 => ?_
    refine val_bind2 fun e1 S2 => ?_
    refine val_bind2 fun e2 S3 => ?_
    rfl) (dh_par3 (k := fun w0 w1 w2 => ofV (fun e0 => ofV (fun e1 => ofV (fun e2 => k e0 e1 e2) w2) w1) w0) hc hN h0.v h1.v h2.v (fun w0 w1 w2 => dh_val (st2 := fun z => (((st.set i (some z)).set j (some w1)).set l (some w2))) (fun e0 => dh_val (st2 := fun z => (((st.set i (some (.v e0))).set j (some z)).set l (some w2))) (fun e1 => dh_val (st2 := fun z => (((st.set i (some (.v e0))).set j (some (.v e1))).set l (some z))) (fun e2 => hk e0 e1 e2) w2) w1) w0) hse hi0 hi1 hi2 hn01 hn02 hn12 hl0 hl1 hl2 hs0 hs1 hs2 hw hsw)
theorem par_vvo {i j l : Nat} {x y z : Str} {px py pz pt pt2 : Pos} {kt k2 : Nat} {k : D → D → List D → Store → Res ρ} (hc : X.calm = true) (hN : X.N.Nodup) (h0 : DE X Wx a ma) (h1 : DE X Wx b mb) (h2 : DF X Wx c fc) (hk : ∀ (e0 : D) (e1 : D) (e2 : List D), DH X Wx M ss (((st.set i (some (.v e0))).set j (some (.v e1))).set l (some (.o e2))) (k e0 e1 e2))
    (hse : SubX M.se st := by exact .inl rfl)
    (hi0 : X.N[i]? = some x := by rfl)
    (hi1 : X.N[j]? = some y := by rfl)
    (hi2 : X.N[l]? = some z := by rfl)
    (hn01 : i ≠ j := by decide)
    (hn02 : i ≠ l := by decide)
    (hn12 : j ≠ l := by decide)
    (hl0 : X.env.scope.names.lookup x = some .local := by rfl)
    (hl1 : X.env.scope.names.lookup y = some .local := by rfl)
    (hl2 : X.env.scope.names.lookup z = some .local := by rfl)
    (hs0 : starEach [a, b, c] X.env = (false, eval a X.env) :: starEach [b, c] X.env := by rfl)
    (hs1 : starEach [b, c] X.env = (false, eval b X.env) :: starEach [c] X.env := by rfl)
    (hs2 : starEach [c] X.env = (false, eval c X.env) :: starEach [] X.env := by rfl)
    (hw : swappedStores [.Tuple [.Name x px, .Name y py, .Name z pz] kt pt] (.Tuple [a, b, c] k2 pt2) X.env = pure (some [x, y, z]) := by rfl)
    (hsw : swapsWithSole [.Tuple [.Name x px, .Name y py, .Name z pz] kt pt] (.Tuple [a, b, c] k2 pt2) pos.line X.env = pure false := by rfl) :
    DH X Wx M (.Assign [.Tuple [.Name x px, .Name y py, .Name z pz] kt pt] (.Tuple [a, b, c] k2 pt2) pos :: ss) st (fun S => (ma st S).bind fun e0 S1 => (mb st S1).bind fun e1 S2 => (fc st S2).bind fun e2 S3 => k e0 e1 e2 S3) :=
  dh_eq (by
    funext S
    refine val_bind2 fun e0 S1 => ?_
    refine val_bind2 fun e1 S2 => ?_
    refine own_bind2 fun e2 S3 => ?_
    rfl) (dh_par3 (k := fun w0 w1 w2 => ofV (fun e0 => ofV (fun e1 => ofOwn (fun e2 => k e0 e1 e2) w2) w1) w0) hc hN h0.v h1.v h2.v (fun w0 w1 w2 => dh_val (st2 := fun z => (((st.set i (some z)).set j (some w1)).set l (some w2))) (fun e0 => dh_val (st2 := fun z => (((st.set i (some (.v e0))).set j (some z)).set l (some w2))) (fun e1 => dh_own (st2 := fun z => (((st.set i (some (.v e0))).set j (some (.v e1))).set l (some z))) (fun e2 => hk e0 e1 e2) w2) w1) w0) hse hi0 hi1 hi2 hn01 hn02 hn12 hl0 hl1 hl2 hs0 hs1 hs2 hw hsw)
theorem par_vov {i j l : Nat} {x y z : Str} {px py pz pt pt2 : Pos} {kt k2 : Nat} {k : D → List D → D → Store → Res ρ} (hc : X.calm = true) (hN : X.N.Nodup) (h0 : DE X Wx a ma) (h1 : DF X Wx b fb) (h2 : DE X Wx c mc) (hk : ∀ (e0 : D) (e1 : List D) (e2 : D), DH X Wx M ss (((st.set i (some (.v e0))).set j (some (.o e1))).set l (some (.v e2))) (k e0 e1 e2))
    (hse : SubX M.se st := by exact .inl rfl)
    (hi0 : X.N[i]? = some x := by rfl)
    (hi1 : X.N[j]? = some y := by rfl)
    (hi2 : X.N[l]? = some z := by rfl)
    (hn01 : i ≠ j := by decide)
    (hn02 : i ≠ l := by decide)
    (hn12 : j ≠ l := by decide)
    (hl0 : X.env.scope.names.lookup x = some .local := by rfl)
    (hl1 : X.env.scope.names.lookup y = some .local := by rfl)
    (hl2 : X.env.scope.names.lookup z = some .local := by rfl)
    (hs0 : starEach [a, b, c] X.env = (false, eval a X.env) :: starEach [b, c] X.env := by rfl)
    (hs1 : starEach [b, c] X.env = (false, eval b X.env) :: starEach [c] X.env := by rfl)
    (hs2 : starEach [c] X.env = (false, eval c X.env) :: starEach [] X.env := by rfl)
    (hw : swappedStores [.Tuple [.Name x px, .Name y py, .Name z pz] kt pt] (.Tuple [a, b, c] k2 pt2) X.env = pure (some [x, y, z]) := by rfl)
    (hsw : swapsWithSole [.Tuple [.Name x px, .Name y py, .Name z pz] kt pt] (.Tuple [a, b, c] k2 pt2) pos.line X.env = pure false := by rfl) :
    DH X Wx M (.Assign [.Tuple [.Name x px, .Name y py, .Name z pz] kt pt] (.Tuple [a, b, c] k2 pt2) pos :: ss) st (fun S => (ma st S).bind fun e0 S1 => (fb st S1).bind fun e1 S2 => (mc st S2).bind fun e2 S3 => k e0 e1 e2 S3) :=
  dh_eq (by
    funext S
    refine val_bind2 fun e0 S1 => ?_
    refine own_bind2 fun e1 S2 => ?_
    refine val_bind2 fun e2 S3 => ?_
    rfl) (dh_par3 (k := fun w0 w1 w2 => ofV (fun e0 => ofOwn (fun e1 => ofV (fun e2 => k e0 e1 e2) w2) w1) w0) hc hN h0.v h1.v h2.v (fun w0 w1 w2 => dh_val (st2 := fun z => (((st.set i (some z)).set j (some w1)).set l (some w2))) (fun e0 => dh_own (st2 := fun z => (((st.set i (some (.v e0))).set j (some z)).set l (some w2))) (fun e1 => dh_val (st2 := fun z => (((st.set i (some (.v e0))).set j (some (.o e1))).set l (some z))) (fun e2 => hk e0 e1 e2) w2) w1) w0) hse hi0 hi1 hi2 hn01 hn02 hn12 hl0 hl1 hl2 hs0 hs1 hs2 hw hsw)
theorem par_ovv {i j l : Nat} {x y z : Str} {px py pz pt pt2 : Pos} {kt k2 : Nat} {k : List D → D → D → Store → Res ρ} (hc : X.calm = true) (hN : X.N.Nodup) (h0 : DF X Wx a fa) (h1 : DE X Wx b mb) (h2 : DE X Wx c mc) (hk : ∀ (e0 : List D) (e1 : D) (e2 : D), DH X Wx M ss (((st.set i (some (.o e0))).set j (some (.v e1))).set l (some (.v e2))) (k e0 e1 e2))
    (hse : SubX M.se st := by exact .inl rfl)
    (hi0 : X.N[i]? = some x := by rfl)
    (hi1 : X.N[j]? = some y := by rfl)
    (hi2 : X.N[l]? = some z := by rfl)
    (hn01 : i ≠ j := by decide)
    (hn02 : i ≠ l := by decide)
    (hn12 : j ≠ l := by decide)
    (hl0 : X.env.scope.names.lookup x = some .local := by rfl)
    (hl1 : X.env.scope.names.lookup y = some .local := by rfl)
    (hl2 : X.env.scope.names.lookup z = some .local := by rfl)
    (hs0 : starEach [a, b, c] X.env = (false, eval a X.env) :: starEach [b, c] X.env := by rfl)
    (hs1 : starEach [b, c] X.env = (false, eval b X.env) :: starEach [c] X.env := by rfl)
    (hs2 : starEach [c] X.env = (false, eval c X.env) :: starEach [] X.env := by rfl)
    (hw : swappedStores [.Tuple [.Name x px, .Name y py, .Name z pz] kt pt] (.Tuple [a, b, c] k2 pt2) X.env = pure (some [x, y, z]) := by rfl)
    (hsw : swapsWithSole [.Tuple [.Name x px, .Name y py, .Name z pz] kt pt] (.Tuple [a, b, c] k2 pt2) pos.line X.env = pure false := by rfl) :
    DH X Wx M (.Assign [.Tuple [.Name x px, .Name y py, .Name z pz] kt pt] (.Tuple [a, b, c] k2 pt2) pos :: ss) st (fun S => (fa st S).bind fun e0 S1 => (mb st S1).bind fun e1 S2 => (mc st S2).bind fun e2 S3 => k e0 e1 e2 S3) :=
  dh_eq (by
    funext S
    refine own_bind2 fun e0 S1 => ?_
    refine val_bind2 fun e1 S2 => ?_
    refine val_bind2 fun e2 S3 => ?_
    rfl) (dh_par3 (k := fun w0 w1 w2 => ofOwn (fun e0 => ofV (fun e1 => ofV (fun e2 => k e0 e1 e2) w2) w1) w0) hc hN h0.v h1.v h2.v (fun w0 w1 w2 => dh_own (st2 := fun z => (((st.set i (some z)).set j (some w1)).set l (some w2))) (fun e0 => dh_val (st2 := fun z => (((st.set i (some (.o e0))).set j (some z)).set l (some w2))) (fun e1 => dh_val (st2 := fun z => (((st.set i (some (.o e0))).set j (some (.v e1))).set l (some z))) (fun e2 => hk e0 e1 e2) w2) w1) w0) hse hi0 hi1 hi2 hn01 hn02 hn12 hl0 hl1 hl2 hs0 hs1 hs2 hw hsw)
theorem par_voo {i j l : Nat} {x y z : Str} {px py pz pt pt2 : Pos} {kt k2 : Nat} {k : D → List D → List D → Store → Res ρ} (hc : X.calm = true) (hN : X.N.Nodup) (h0 : DE X Wx a ma) (h1 : DF X Wx b fb) (h2 : DF X Wx c fc) (hk : ∀ (e0 : D) (e1 : List D) (e2 : List D), DH X Wx M ss (((st.set i (some (.v e0))).set j (some (.o e1))).set l (some (.o e2))) (k e0 e1 e2))
    (hse : SubX M.se st := by exact .inl rfl)
    (hi0 : X.N[i]? = some x := by rfl)
    (hi1 : X.N[j]? = some y := by rfl)
    (hi2 : X.N[l]? = some z := by rfl)
    (hn01 : i ≠ j := by decide)
    (hn02 : i ≠ l := by decide)
    (hn12 : j ≠ l := by decide)
    (hl0 : X.env.scope.names.lookup x = some .local := by rfl)
    (hl1 : X.env.scope.names.lookup y = some .local := by rfl)
    (hl2 : X.env.scope.names.lookup z = some .local := by rfl)
    (hs0 : starEach [a, b, c] X.env = (false, eval a X.env) :: starEach [b, c] X.env := by rfl)
    (hs1 : starEach [b, c] X.env = (false, eval b X.env) :: starEach [c] X.env := by rfl)
    (hs2 : starEach [c] X.env = (false, eval c X.env) :: starEach [] X.env := by rfl)
    (hw : swappedStores [.Tuple [.Name x px, .Name y py, .Name z pz] kt pt] (.Tuple [a, b, c] k2 pt2) X.env = pure (some [x, y, z]) := by rfl)
    (hsw : swapsWithSole [.Tuple [.Name x px, .Name y py, .Name z pz] kt pt] (.Tuple [a, b, c] k2 pt2) pos.line X.env = pure false := by rfl) :
    DH X Wx M (.Assign [.Tuple [.Name x px, .Name y py, .Name z pz] kt pt] (.Tuple [a, b, c] k2 pt2) pos :: ss) st (fun S => (ma st S).bind fun e0 S1 => (fb st S1).bind fun e1 S2 => (fc st S2).bind fun e2 S3 => k e0 e1 e2 S3) :=
  dh_eq (by
    funext S
    refine val_bind2 fun e0 S1 => ?_
    refine own_bind2 fun e1 S2 => ?_
    refine own_bind2 fun e2 S3 => ?_
    rfl) (dh_par3 (k := fun w0 w1 w2 => ofV (fun e0 => ofOwn (fun e1 => ofOwn (fun e2 => k e0 e1 e2) w2) w1) w0) hc hN h0.v h1.v h2.v (fun w0 w1 w2 => dh_val (st2 := fun z => (((st.set i (some z)).set j (some w1)).set l (some w2))) (fun e0 => dh_own (st2 := fun z => (((st.set i (some (.v e0))).set j (some z)).set l (some w2))) (fun e1 => dh_own (st2 := fun z => (((st.set i (some (.v e0))).set j (some (.o e1))).set l (some z))) (fun e2 => hk e0 e1 e2) w2) w1) w0) hse hi0 hi1 hi2 hn01 hn02 hn12 hl0 hl1 hl2 hs0 hs1 hs2 hw hsw)
end
end
end KF

set_option linter.all false
set_option maxRecDepth 100000
/-! KT: how printed texts are reckoned. -/
namespace KF
open PySem L2
/-! ### flow -/
section
variable {α β γ ρ τ κ σσ : Type} {S S1 : Store} {r : Res α} {x y d : D} {o : Option D}
@[simp] theorem t_assoc (r : Res α) (f : α → Store → Res β) (g : β → Store → Res γ) : (r.bind f).bind g = r.bind fun a S => (f a S).bind g := bind_assoc r f g
@[simp] theorem t_ofS {a : α} : Res.of (some a) S = .ok a S := rfl
@[simp] theorem t_g1 {f : D → Store → Option D} : Res.of2 (g1 f [x] S) = Res.of (f x S) S := by
  show Res.of2 ((f x S).map fun d => (d, S)) = _
  cases f x S <;> rfl
@[simp] theorem t_g2 {f : D → D → Store → Option D} : Res.of2 (g2 f [x, y] S) = Res.of (f x y S) S := by
  show Res.of2 ((f x y S).map fun d => (d, S)) = _
  cases f x y S <;> rfl
@[simp] theorem t_asB {b : Bool} : asB (.bl b) = some b := rfl
@[simp] theorem t_fn0 {m : List D → Store → Res D} : fnM 0 m [] [] S = m [] S := rfl
@[simp] theorem t_fn1 {m : List D → Store → Res D} {a : D} : fnM 1 m [a] [] S = m [a] S := rfl
@[simp] theorem t_fn2 {m : List D → Store → Res D} {a b : D} : fnM 2 m [a, b] [] S = m [a, b] S := rfl
@[simp] theorem t_fn3 {m : List D → Store → Res D} {a b c : D} : fnM 3 m [a, b, c] [] S = m [a, b, c] S := rfl
@[simp] theorem t_fn4 {m : List D → Store → Res D} {a b c e : D} : fnM 4 m [a, b, c, e] [] S = m [a, b, c, e] S := rfl
@[simp] theorem t_fn5 {m : List D → Store → Res D} {a b c e f : D} : fnM 5 m [a, b, c, e, f] [] S = m [a, b, c, e, f] S := rfl
@[simp] theorem t_fn6 {m : List D → Store → Res D} {a b c e f g : D} : fnM 6 m [a, b, c, e, f, g] [] S = m [a, b, c, e, f, g] S := rfl
@[simp] theorem t_andT {f : Store → Res D} : andR (.bl true) S f = f S := rfl
@[simp] theorem t_andF {f : Store → Res D} : andR (.bl false) S f = .ok (.bl false) S := rfl
@[simp] theorem t_orT {f : Store → Res D} : orR (.bl true) S f = .ok (.bl true) S := rfl
@[simp] theorem t_orF {f : Store → Res D} : orR (.bl false) S f = f S := rfl
@[simp] theorem t_chT {f : Store → Res D} : chR (.bl true) S f = f S := rfl
@[simp] theorem t_chF {f : Store → Res D} : chR (.bl false) S f = .ok (.bl false) S := rfl
@[simp] theorem t_not {b : Bool} : notR (.bl b) S = .ok (.bl (!b)) S := rfl
@[simp] theorem t_neg {i : Int} : negR (.int i) S = .ok (.int (-i)) S := rfl
@[simp] theorem t_bl {b : Bool} : blR (some (.bl b)) S = .ok (.bl b) S := rfl
theorem t_and {p : Bool} {b : Bool} {f : Store → Res D} (h : p = true → f S = .ok (.bl b) S) : andR (.bl p) S f = .ok (.bl (p && b)) S := by
  cases p
  · rfl
  · simpa using h rfl
theorem t_or {p : Bool} {b : Bool} {f : Store → Res D} (h : p = false → f S = .ok (.bl b) S) : orR (.bl p) S f = .ok (.bl (p || b)) S := by
  cases p
  · simpa using h rfl
  · rfl
@[simp] theorem t_un2 {a b : D} {k : D → D → Res ρ} : unT2 (.tup [a, b]) k = k a b := rfl
@[simp] theorem t_un3 {a b c : D} {k : D → D → D → Res ρ} : unT3 (.tup [a, b, c]) k = k a b c := rfl
@[simp] theorem t_un4 {a b c e : D} {k : D → D → D → D → Res ρ} : unT4 (.tup [a, b, c, e]) k = k a b c e := rfl
section
variable {ir : D → ρ} {ib ic : κ → ρ} {k : σσ → Store → Res ρ} {s : σσ} {j : κ}
@[simp] theorem t_nx : thn ir ib ic (.ok (.nx s) S) k = k s S := rfl
@[simp] theorem t_rt : thn ir ib ic (.ok (.rt d) S : Res (Step σσ κ)) k = .ok (ir d) S := rfl
@[simp] theorem t_bk : thn ir ib ic (.ok (.bk j) S : Res (Step σσ κ)) k = .ok (ib j) S := rfl
@[simp] theorem t_ct : thn ir ib ic (.ok (.ct j) S : Res (Step σσ κ)) k = .ok (ic j) S := rfl
@[simp] theorem t_thnb {f : α → Store → Res (Step σσ κ)} : thn ir ib ic (r.bind f) k = r.bind fun a S => thn ir ib ic (f a S) k := by cases r <;> rfl
theorem t_thni {p : Prop} [Decidable p] {a b : Res (Step σσ κ)} : thn ir ib ic (if p then a else b) k = if p then thn ir ib ic a k else thn ir ib ic b k := by split <;> rfl
end
theorem t_bi {p : Prop} [Decidable p] {a b : Res α} {f : α → Store → Res β} : (if p then a else b).bind f = if p then a.bind f else b.bind f := by split <;> rfl
end
/-! ### sizes -/
theorem sz {n : Nat} (h : n ≤ 1000) : n ≤ sizeLine := by rw [sizeLine_eq]; omega
theorem sz' {n : Nat} (h : n ≤ 1000) : n < sizeLine := by rw [sizeLine_eq]; omega
@[simp] theorem sz_0 : 0 ≤ sizeLine := Nat.zero_le _
@[simp] theorem sz_1 : 1 ≤ sizeLine := sz (by decide)
@[simp] theorem sz_2 : 2 ≤ sizeLine := sz (by decide)
@[simp] theorem sz_3 : 3 ≤ sizeLine := sz (by decide)
@[simp] theorem sz_4 : 4 ≤ sizeLine := sz (by decide)
@[simp] theorem sz_5 : 5 ≤ sizeLine := sz (by decide)
@[simp] theorem sz_6 : 6 ≤ sizeLine := sz (by decide)
@[simp] theorem sz_7 : 7 ≤ sizeLine := sz (by decide)
@[simp] theorem sz_8 : 8 ≤ sizeLine := sz (by decide)
section
variable {S : Store} {ds : List D} {a b c e f : D}
theorem t_tup (h : ds.length ≤ 1000) : tupR ds S = .ok (.tup ds) S := if_pos (sz h)
theorem t_lst (h : ds.length ≤ 1000) : lstR ds S = .ok (.lst ds) S := if_pos (sz h)
theorem t_lstF (h : ds.length ≤ 1000) : lstFR ds S = .ok ds S := if_pos (sz h)
theorem t_lstC (h : ds.length ≤ 1000) : lstCR ds S = .ok (.cell S.length) (S ++ [.lst ds]) := if_pos (sz h)
@[simp] theorem t_tup1 : tupR [a] S = .ok (.tup [a]) S := t_tup (by simp)
@[simp] theorem t_tup2 : tupR [a, b] S = .ok (.tup [a, b]) S := t_tup (by simp)
@[simp] theorem t_tup3 : tupR [a, b, c] S = .ok (.tup [a, b, c]) S := t_tup (by simp)
@[simp] theorem t_tup4 : tupR [a, b, c, e] S = .ok (.tup [a, b, c, e]) S := t_tup (by simp)
@[simp] theorem t_lst1 : lstR [a] S = .ok (.lst [a]) S := t_lst (by simp)
@[simp] theorem t_lst2 : lstR [a, b] S = .ok (.lst [a, b]) S := t_lst (by simp)
@[simp] theorem t_lst3 : lstR [a, b, c] S = .ok (.lst [a, b, c]) S := t_lst (by simp)
@[simp] theorem t_lst4 : lstR [a, b, c, e] S = .ok (.lst [a, b, c, e]) S := t_lst (by simp)
end
/-! ### ints, indexes -/
section
variable {S : Store} {i j : Int} {xs ys : List D} {a b : D}
@[simp] theorem t_addI : gAdd (.int i) (.int j) S = some (.int (i + j)) := rfl
@[simp] theorem t_g2I {f : Int → Int → Option D} : g2I f (.int i) (.int j) S = f i j := rfl
theorem t_addL (h : xs.length + ys.length ≤ 100000) : gAdd (.lst xs) (.lst ys) S = some (.lst (xs ++ ys)) := by
  show catL (some xs) (some ys) = _
  unfold catL
  simp only
  rw [if_pos (by rw [sizeLine_eq]; omega)]
theorem t_addT (h : xs.length + ys.length ≤ 100000) : gAdd (.tup xs) (.tup ys) S = some (.tup (xs ++ ys)) := by
  show (if xs.length + ys.length ≤ sizeLine then some (D.tup (xs ++ ys)) else none) = _
  rw [if_pos (by rw [sizeLine_eq]; omega)]
@[simp] theorem t_ixT : gIx (.tup xs) (.int i) S = atI xs i := rfl
@[simp] theorem t_ixL : gIx (.lst xs) (.int i) S = atI xs i := rfl
@[simp] theorem t_ixS : gIx (.scr xs) (.int i) S = atI xs i := rfl
theorem t_ixC {n : Nat} (h : S[n]? = some (.lst xs)) : gIx (.cell n) (.int i) S = atI xs i := by
  have e : asL S (.cell n) = some xs := by
    show (match S[n]? with | some (.lst xs) => some xs | some (.fro xs) => some xs | _ => none) = _
    rw [h]
  show (asL S (.cell n)).bind _ = _
  rw [e]
  rfl
@[simp] theorem t_lenT : gLen (.tup xs) S = some (.int xs.length) := rfl
@[simp] theorem t_lenL : gLen (.lst xs) S = some (.int xs.length) := rfl
@[simp] theorem t_lenS : gLen (.scr xs) S = some (.int xs.length) := rfl
theorem at_nat {α : Type} (xs : List α) (i : Nat) : atI xs (i : Int) = xs[i]? := by
  unfold atI ixN
  rw [if_pos (Int.natCast_nonneg _)]
  by_cases h : i < xs.length
  · rw [if_pos (by omega)]; simp
  · rw [if_neg (by omega)]; simp; omega
theorem at_nn {α : Type} (xs : List α) {k : Int} (h : 0 ≤ k) : atI xs k = xs[k.toNat]? := by
  obtain ⟨j, rfl⟩ := Int.eq_ofNat_of_zero_le h
  exact at_nat xs j
theorem at_neg {α : Type} (xs : List α) (n : Nat) (h : n < xs.length) : atI xs (-((n : Int) + 1)) = xs[xs.length - (n + 1)]? := by
  unfold atI ixN
  rw [if_neg (by omega), if_pos (by omega)]
  have e : (-((n : Int) + 1) + (xs.length : Int)).toNat = xs.length - (n + 1) := by omega
  rw [e]
  rfl
section
variable {α : Type} {x0 x1 x2 x3 x4 : α} {r : List α}
@[simp] theorem at_0 : atI (x0 :: r) 0 = some x0 := by rw [at_nn _ (by decide)]; rfl
@[simp] theorem at_1 : atI (x0 :: x1 :: r) 1 = some x1 := by rw [at_nn _ (by decide)]; rfl
@[simp] theorem at_2 : atI (x0 :: x1 :: x2 :: r) 2 = some x2 := by rw [at_nn _ (by decide)]; rfl
@[simp] theorem at_3 : atI (x0 :: x1 :: x2 :: x3 :: r) 3 = some x3 := by rw [at_nn _ (by decide)]; rfl
@[simp] theorem at_4 : atI (x0 :: x1 :: x2 :: x3 :: x4 :: r) 4 = some x4 := by rw [at_nn _ (by decide)]; rfl
end
@[simp] theorem ix_0 (n : Nat) : ixN (n + 1) 0 = some 0 := by unfold ixN; simp
@[simp] theorem ix_1 (n : Nat) : ixN (n + 2) 1 = some 1 := by unfold ixN; rw [if_pos (by decide), if_pos (by omega)]; rfl
@[simp] theorem ix_2 (n : Nat) : ixN (n + 3) 2 = some 2 := by unfold ixN; rw [if_pos (by decide), if_pos (by omega)]; rfl
@[simp] theorem t_iRes : iRes (.int i) S = .ok (some i) S := rfl
@[simp] theorem t_slT {l h : Option Int} : gSl (.tup xs) l h S = some (.tup (cutX xs l h)) := rfl
@[simp] theorem t_slL {l h : Option Int} : gSl (.lst xs) l h S = some (.lst (cutX xs l h)) := rfl
theorem cut_take {α : Type} (xs : List α) (i : Nat) : cutX xs none (some (i : Int)) = xs.take i := by
  unfold cutX
  rw [HT.sIx_none, HT.sIx_nat, List.drop_zero, Nat.sub_zero]
  by_cases h : i ≤ xs.length
  · rw [Nat.min_eq_left h]
  · rw [Nat.min_eq_right (by omega), List.take_of_length_le (by omega), List.take_of_length_le (by omega)]
theorem cut_drop {α : Type} (xs : List α) (i : Nat) : cutX xs (some (i : Int)) none = xs.drop i := by
  unfold cutX
  rw [HT.sIx_none, HT.sIx_nat]
  by_cases h : i ≤ xs.length
  · rw [Nat.min_eq_left h, List.take_of_length_le (by simp)]
  · rw [Nat.min_eq_right (by omega), List.drop_of_length_le (by omega), List.drop_of_length_le (by omega)]; simp
@[simp] theorem t_seqT : seqOf (.tup xs) S = .ok xs S := rfl
@[simp] theorem t_seqL : seqOf (.lst xs) S = .ok xs S := rfl
@[simp] theorem t_seqS : seqOf (.scr xs) S = .ok xs S := rfl
@[simp] theorem t_seqNT : seqN (.tup xs) S = .ok xs S := rfl
@[simp] theorem t_seqNL : seqN (.lst xs) S = .ok xs S := rfl
@[simp] theorem t_tupT : gTuple (.tup xs) S = some (.tup xs) := rfl
@[simp] theorem t_tupL : gTuple (.lst xs) S = some (.tup xs) := rfl
@[simp] theorem t_tupS : gTuple (.scr xs) S = some (.tup xs) := rfl
@[simp] theorem t_lstT : gList (.tup xs) S = some (.lst xs) := rfl
@[simp] theorem t_lstL : gList (.lst xs) S = some (.lst xs) := rfl
@[simp] theorem t_lofT : lstOfR (.tup xs) S = .ok xs S := rfl
@[simp] theorem t_lofL : lstOfR (.lst xs) S = .ok xs S := rfl
theorem rng_nat {n : Nat} (h : n ≤ 1000000) : rng1R (.int n) S = .ok ((List.range n).map fun (i : Nat) => D.int i) S := by
  have e : rng1R (.int n) S = if -(2 ^ 62) ≤ (n : Int) ∧ (n : Int) < 2 ^ 62 then Res.ok (rangeI 0 n) S else .bad := rfl
  rw [e, if_pos ⟨by omega, by omega⟩]
  unfold rangeI
  simp
theorem rng_int {k : Int} (h0 : 0 ≤ k) (h : k ≤ 1000000) : rng1R (.int k) S = .ok ((List.range k.toNat).map fun (i : Nat) => D.int i) S := by
  obtain ⟨n, rfl⟩ := Int.eq_ofNat_of_zero_le h0
  simpa using rng_nat (S := S) (n := n) (by omega)
end
end KF

set_option linter.all false
set_option maxRecDepth 100000
/-! KU: typed data; loops. -/
namespace KF
open PySem L2
/-! ### equality -/
section
variable {α β : Type} [DecidableEq α] [DecidableEq β]
/-- == of encoded values says whether they are equal, from a depth on -/
def EqAt {α : Type} [DecidableEq α] (k : Nat) (e : α → D) : Prop := ∀ (S : Store) (n : Nat) (x y : α), eqD S (n + k) (e x) (e y) = some (decide (x = y))
theorem beq_dec {α : Type} [BEq α] [LawfulBEq α] [DecidableEq α] (a b : α) : (a == b) = decide (a = b) := by
  by_cases h : a = b
  · subst h; simp
  · simp [h]
theorem eq_int : EqAt 1 D.int := fun S n x y => by
  rw [eqD]
  show some (x == y) = _
  rw [beq_dec]
theorem eq_str : EqAt 1 D.str := fun S n x y => by
  rw [eqD]
  show some (x == y) = _
  rw [beq_dec]
theorem eq_bl : EqAt 1 D.bl := fun S n x y => by
  rw [eqD]
  show some (x == y) = _
  rw [beq_dec]
theorem EqAt.mono {e : α → D} {k j : Nat} (h : EqAt k e) (l : k ≤ j) : EqAt j e := fun S n x y => by
  have := h S (n + (j - k)) x y
  rwa [show n + (j - k) + k = n + j by omega] at this
theorem eqs_map {f : D → D → Option Bool} {e : α → D} (h : ∀ x y, f (e x) (e y) = some (decide (x = y))) : ∀ xs ys : List α, ∃ b, eqs f (xs.map e) (ys.map e) = some b ∧ (b && xs.length == ys.length) = decide (xs = ys)
  | [], [] => ⟨true, rfl, by simp⟩
  | [], y :: ys => ⟨true, rfl, by simp⟩
  | x :: xs, [] => ⟨true, rfl, by simp⟩
  | x :: xs, y :: ys => by
    obtain ⟨b, h1, h2⟩ := eqs_map h xs ys
    refine ⟨decide (x = y) && b, by simp only [List.map_cons, eqs, h, h1], ?_⟩
    simp only [List.length_cons]
    rw [show ((xs.length + 1 == ys.length + 1) : Bool) = (xs.length == ys.length) by simp, Bool.and_assoc, h2]
    simp
theorem eq_tup {e : α → D} {k : Nat} (h : EqAt k e) : EqAt (k + 1) (fun xs : List α => D.tup (xs.map e)) := fun S n xs ys => by
  show eqD S (n + k + 1) _ _ = _
  rw [eqD]
  show ((eqs (eqD S (n + k)) (xs.map e) (ys.map e)).map fun b => b && (xs.map e).length == (ys.map e).length) = _
  obtain ⟨b, h1, h2⟩ := eqs_map (h S n) xs ys
  rw [h1]
  simpa using h2
theorem eq_lst {e : α → D} {k : Nat} (h : EqAt k e) : EqAt (k + 1) (fun xs : List α => D.lst (xs.map e)) := fun S n xs ys => by
  show eqD S (n + k + 1) _ _ = _
  rw [eqD]
  show (if (xs.map e).length = (ys.map e).length then eqs (eqD S (n + k)) (xs.map e) (ys.map e) else some false) = _
  obtain ⟨b, h1, h2⟩ := eqs_map (h S n) xs ys
  by_cases hl : xs.length = ys.length
  · rw [if_pos (by simpa using hl), h1, ← h2]
    simp [hl]
  · rw [if_neg (by simpa using hl)]
    congr 1
    symm
    simp only [decide_eq_false_iff_not]
    exact fun z => hl (by rw [z])
theorem eq_pair {e : α → D} {f : β → D} {k : Nat} (h : EqAt k e) (h' : EqAt k f) : EqAt (k + 1) (fun p : α × β => D.tup [e p.1, f p.2]) := fun S n p q => by
  show eqD S (n + k + 1) _ _ = _
  rw [eqD]
  show ((eqs (eqD S (n + k)) [e p.1, f p.2] [e q.1, f q.2]).map fun b => b && [e p.1, f p.2].length == [e q.1, f q.2].length) = _
  simp only [eqs, h S n, h' S n, Option.map_some, List.length_cons, List.length_nil, beq_self_eq_true, Bool.and_true]
  congr 1
  rw [← Bool.decide_and]
  exact decide_eq_decide.mpr Prod.ext_iff.symm
variable {S : Store} {e : α → D} {k : Nat} {x y : α} {xs ys : List α}
theorem EqAt.deep (h : EqAt k e) (hk : k ≤ 60) : eqD S KF.deep (e x) (e y) = some (decide (x = y)) := by
  have := h S (60 - k) x y
  rwa [show 60 - k + k = KF.deep by unfold KF.deep; omega] at this
theorem t_eq (h : EqAt k e) (hk : k ≤ 60) : gEq (e x) (e y) S = some (.bl (decide (x = y))) := by
  unfold gEq
  rw [h.deep hk]
  rfl
theorem optAny_map {f : D → Option Bool} (h : ∀ y, f (e y) = some (decide (y = x))) : ∀ ys : List α, optAny f (ys.map e) = some (decide (x ∈ ys))
  | [] => by simp [optAny]
  | y :: ys => by
    simp only [List.map_cons, optAny, h, optAny_map h ys, List.mem_cons, Bool.decide_or]
    congr 2
    exact decide_eq_decide.mpr eq_comm
theorem inD_tup {d : D} {ds : List D} : inD S d (.tup ds) = optAny (fun z => eqD S deep z d) ds := by cases d <;> rfl
theorem inD_lst {d : D} {ds : List D} : inD S d (.lst ds) = optAny (fun z => eqD S deep z d) ds := by cases d <;> rfl
theorem t_inT (h : EqAt k e) (hk : k ≤ 60) : gIn (e x) (.tup (ys.map e)) S = some (.bl (decide (x ∈ ys))) := by
  unfold gIn
  rw [inD_tup, optAny_map fun y => h.deep hk]
  rfl
theorem t_inL (h : EqAt k e) (hk : k ≤ 60) : gIn (e x) (.lst (ys.map e)) S = some (.bl (decide (x ∈ ys))) := by
  unfold gIn
  rw [inD_lst, optAny_map fun y => h.deep hk]
  rfl
theorem t_ninT (h : EqAt k e) (hk : k ≤ 60) : gNotIn (e x) (.tup (ys.map e)) S = some (.bl (decide (x ∉ ys))) := by
  unfold gNotIn
  rw [inD_tup, optAny_map fun y => h.deep hk]
  simp
theorem t_ninL (h : EqAt k e) (hk : k ≤ 60) : gNotIn (e x) (.lst (ys.map e)) S = some (.bl (decide (x ∉ ys))) := by
  unfold gNotIn
  rw [inD_lst, optAny_map fun y => h.deep hk]
  simp
@[simp] theorem t_eqI {i j : Int} : gEq (.int i) (.int j) S = some (.bl (decide (i = j))) := t_eq eq_int (by decide)
@[simp] theorem t_eqStr {i j : Str} : gEq (.str i) (.str j) S = some (.bl (decide (i = j))) := t_eq eq_str (by decide)
@[simp] theorem t_eqB {i j : Bool} : gEq (.bl i) (.bl j) S = some (.bl (decide (i = j))) := t_eq eq_bl (by decide)
@[simp] theorem t_inTS {a : Str} {zs : List Str} : gIn (.str a) (.tup (zs.map D.str)) S = some (.bl (decide (a ∈ zs))) := t_inT eq_str (by decide)
@[simp] theorem t_inLS {a : Str} {zs : List Str} : gIn (.str a) (.lst (zs.map D.str)) S = some (.bl (decide (a ∈ zs))) := t_inL eq_str (by decide)
@[simp] theorem t_ninTS {a : Str} {zs : List Str} : gNotIn (.str a) (.tup (zs.map D.str)) S = some (.bl (decide (a ∉ zs))) := t_ninT eq_str (by decide)
@[simp] theorem t_ninLS {a : Str} {zs : List Str} : gNotIn (.str a) (.lst (zs.map D.str)) S = some (.bl (decide (a ∉ zs))) := t_ninL eq_str (by decide)
@[simp] theorem t_isN {d : D} : gIsN d .non S = some (.bl (isNon d)) := rfl
@[simp] theorem t_notN {d : D} : gNotN d .non S = some (.bl (!isNon d)) := rfl
theorem t_neB {i j : Bool} : gNe (.bl i) (.bl j) S = some (.bl (decide (i ≠ j))) := by
  unfold gNe
  have e : neD S deep (.bl i) (.bl j) = (eqD S deep (.bl i) (.bl j)).map fun b => !b := rfl
  rw [e, eq_bl.deep (by decide)]
  simp
theorem t_neI {i j : Int} : gNe (.int i) (.int j) S = some (.bl (decide (i ≠ j))) := by
  unfold gNe
  have e : neD S deep (.int i) (.int j) = (eqD S deep (.int i) (.int j)).map fun b => !b := rfl
  rw [e, eq_int.deep (by decide)]
  simp
theorem t_neS {i j : Str} : gNe (.str i) (.str j) S = some (.bl (decide (i ≠ j))) := by
  unfold gNe
  have e : neD S deep (.str i) (.str j) = (eqD S deep (.str i) (.str j)).map fun b => !b := rfl
  rw [e, eq_str.deep (by decide)]
  simp
end
/-! ### ends -/
/-- it ends well, and so -/
def Res.sat {α : Type} (r : Res α) (Q : α → Store → Prop) : Prop := ∃ a S, r = .ok a S ∧ Q a S
section
variable {α β σσ κ : Type} {r : Res α} {P Q : α → Store → Prop} {S : Store}
theorem sat_ok {a : α} (h : Q a S) : (Res.ok a S).sat Q := ⟨a, S, rfl, h⟩
theorem sat_mono (h : r.sat P) (i : ∀ a S, P a S → Q a S) : r.sat Q := let ⟨a, S, e, p⟩ := h; ⟨a, S, e, i a S p⟩
theorem sat_bind {f : α → Store → Res β} {Q : β → Store → Prop} (h : r.sat P) (i : ∀ a S, P a S → (f a S).sat Q) : (r.bind f).sat Q := by
  obtain ⟨a, S, rfl, p⟩ := h
  exact i a S p
theorem sat_eq {a : α} (h : r = .ok a S) (q : Q a S) : r.sat Q := ⟨a, S, h, q⟩
theorem sat_thn {ρ : Type} {ir : D → ρ} {ib ic : κ → ρ} {r : Res (Step σσ κ)} {k : σσ → Store → Res ρ} {P : σσ → Store → Prop} {Q : ρ → Store → Prop} (h : r.sat fun x S => ∃ s, x = .nx s ∧ P s S) (i : ∀ s S, P s S → (k s S).sat Q) : (thn ir ib ic r k).sat Q := by
  obtain ⟨a, S, rfl, s, rfl, p⟩ := h
  exact i s S p
theorem forP_nil {step : D → σσ → Store → Res (Step σσ σσ)} {s : σσ} : forP (κ := κ) step [] s S = .ok (.nx s) S := rfl
theorem for_sat {step : D → σσ → Store → Res (Step σσ σσ)} (I : Nat → σσ → Store → Prop) : ∀ (ds : List D) (j : Nat) {s : σσ} {S : Store}, I j s S →
    (∀ i d s S, ds[i]? = some d → I (j + i) s S → (step d s S).sat fun r S' => ∃ s', r = .nx s' ∧ I (j + i + 1) s' S') → (forP (κ := κ) step ds s S).sat fun r S' => ∃ s', r = .nx s' ∧ I (j + ds.length) s' S'
  | [], j, s, S, h0, h => ⟨_, S, rfl, s, rfl, h0⟩
  | d :: ds, j, s, S, h0, h => by
    obtain ⟨r, S1, e, s1, rfl, h1⟩ := h 0 d s S rfl h0
    obtain ⟨r2, S2, e2, s2, rfl, h2⟩ := for_sat I ds (j + 1) h1 fun i d s S hd hi => by
      have := h (i + 1) d s S (by simpa using hd) (by rw [show j + (i + 1) = j + 1 + i by omega]; exact hi)
      rw [show j + (i + 1) = j + 1 + i by omega] at this
      exact this
    refine ⟨_, S2, ?_, s2, rfl, by rw [List.length_cons, show j + (ds.length + 1) = j + 1 + ds.length by omega]; exact h2⟩
    rw [forP_cons, e]
    exact e2
/-- over a range, over encoded things -/
theorem for_rng {step : D → σσ → Store → Res (Step σσ σσ)} (I : Nat → σσ → Store → Prop) (n : Nat) {s : σσ} (h0 : I 0 s S)
    (h : ∀ i s S, i < n → I i s S → (step (.int i) s S).sat fun r S' => ∃ s', r = .nx s' ∧ I (i + 1) s' S') : (forP (κ := κ) step ((List.range n).map fun (i : Nat) => D.int i) s S).sat fun r S' => ∃ s', r = .nx s' ∧ I n s' S' := by
  have := for_sat (κ := κ) I ((List.range n).map fun (i : Nat) => D.int i) 0 h0 fun i d s S hd hi => by
    rw [List.getElem?_map] at hd
    by_cases hn : i < n
    · rw [List.getElem?_range hn] at hd
      cases hd
      simpa using h i s S hn (by simpa using hi)
    · rw [List.getElem?_eq_none (by simpa using hn)] at hd
      cases hd
  simpa using this
theorem for_map {γ : Type} {step : D → σσ → Store → Res (Step σσ σσ)} {e : γ → D} (I : Nat → σσ → Store → Prop) (xs : List γ) {s : σσ} (h0 : I 0 s S)
    (h : ∀ i x s S, xs[i]? = some x → I i s S → (step (e x) s S).sat fun r S' => ∃ s', r = .nx s' ∧ I (i + 1) s' S') : (forP (κ := κ) step (xs.map e) s S).sat fun r S' => ∃ s', r = .nx s' ∧ I xs.length s' S' := by
  have := for_sat (κ := κ) I (xs.map e) 0 h0 fun i d s S hd hi => by
    rw [List.getElem?_map] at hd
    cases hx : xs[i]? with
    | none => rw [hx] at hd; cases hd
    | some x =>
      rw [hx] at hd
      cases hd
      simpa using h i x s S hx (by simpa using hi)
  simpa using this
/-- plain loops -/
theorem for_fold {γ τ : Type} {step : D → σσ → Store → Res (Step σσ σσ)} {e : γ → D} (enc : τ → σσ) (f : τ → γ → τ) : ∀ (xs : List γ) (t : τ), (∀ t, ∀ x ∈ xs, step (e x) (enc t) S = .ok (.nx (enc (f t x))) S) → forP (κ := κ) step (xs.map e) (enc t) S = .ok (.nx (enc (xs.foldl f t))) S
  | [], t, h => rfl
  | x :: xs, t, h => by
    rw [List.map_cons, forP_cons, h t x (by simp)]
    exact for_fold enc f xs (f t x) fun t y hy => h t y (by simp [hy])
theorem for_find {γ : Type} {step : D → σσ → Store → Res (Step σσ σσ)} {e : γ → D} {s : σσ} (p : γ → Bool) (r : γ → D) : ∀ (xs : List γ), (∀ x ∈ xs, step (e x) s S = if p x then .ok (.rt (r x)) S else .ok (.nx s) S) →
    forP (κ := κ) step (xs.map e) s S = match xs.find? p with | some x => .ok (.rt (r x)) S | none => .ok (.nx s) S
  | [], h => rfl
  | x :: xs, h => by
    rw [List.map_cons, forP_cons, h x (by simp)]
    cases hp : p x with
    | true => simp [List.find?, hp, turn]
    | false =>
      simp only [List.find?, hp]
      exact for_find p r xs fun y hy => h y (by simp [hy])
theorem num_zip {γ : Type} {e : γ → D} : ∀ (xs : List γ) (k : Nat), numD k (xs.map e) = (xs.zipIdx k).map fun p => D.tup [.int p.2, e p.1]
  | [], k => rfl
  | x :: xs, k => by simp [numD, num_zip xs (k + 1)]
theorem while_sat {test : σσ → Store → Res Bool} {step : σσ → Store → Res (Step σσ σσ)} (I : Nat → σσ → Store → Prop) (Q : σσ → Store → Prop)
    (h : ∀ m s S, I m s S → (test s S).sat fun b S1 => if b then (step s S1).sat (fun r S2 => ∃ s', r = .nx s' ∧ ∃ m', m' < m ∧ I m' s' S2) else Q s S1) : ∀ (n m : Nat) {s : σσ} {S : Store}, m < n → I m s S → (whileP (κ := κ) test step n s S).sat fun r S' => ∃ s', r = .nx s' ∧ Q s' S'
  | 0, m, s, S, hl, _ => by omega
  | n + 1, m, s, S, hl, hi => by
    obtain ⟨b, S1, e, hb⟩ := h m s S hi
    unfold whileP
    rw [e]
    show (if b then turn (step s S1) (whileP test step n) else .ok (.nx s) S1).sat _
    cases b with
    | false => exact ⟨_, S1, rfl, s, rfl, hb⟩
    | true =>
      obtain ⟨r, S2, e2, s', rfl, m', hm, hi'⟩ := hb
      rw [if_pos rfl, e2]
      exact while_sat I Q h n m' (by omega) hi'
theorem fuel_big {m : Nat} (h : m < 2 ^ 80) : m < fuel := by
  unfold fuel
  exact h
end
/-! ### comprehensions -/
section
variable {γ : Type} {mi : EM (List D)} {g : TP} {t : EM Bool} {m : EM D} {vs : List Nat} {st : DSt} {S : Store} {e : γ → D}
theorem lcL_eq (p : γ → Bool) (f : γ → D) {st' : DSt} : ∀ (xs : List γ), (∀ x ∈ xs, ∃ st1, g (e x) st' = some st1 ∧ t st1 S = .ok (p x) S ∧ (p x = true → m st1 S = .ok (f x) S)) → lcL g t m (xs.map e) st' S = .ok ((xs.filter p).map f) S
  | [], h => rfl
  | x :: xs, h => by
    obtain ⟨st1, e1, e2, e3⟩ := h x (by simp)
    have ih := lcL_eq p f xs fun y hy => h y (by simp [hy])
    simp only [List.map_cons, lcL, e1, e2]
    cases hp : p x with
    | false => simp [hp, ih]
    | true => simp [hp, e3 hp, ih]
theorem lc_eq (xs : List γ) (p : γ → Bool) (f : γ → D) (hm : mi st S = .ok (xs.map e) S) (hz : xs.length ≤ 100000) (h : ∀ x ∈ xs, ∃ st1, g (e x) (wipeD st vs) = some st1 ∧ t st1 S = .ok (p x) S ∧ (p x = true → m st1 S = .ok (f x) S)) :
    lcE mi g t m vs st S = .ok (.lst ((xs.filter p).map f)) S := by
  unfold lcE
  rw [hm]
  show (if (xs.map e).length ≤ sizeLine then _ else _) = _
  rw [if_pos (by rw [sizeLine_eq, List.length_map]; omega), lcL_eq p f xs h]
  rfl
theorem lc_map (xs : List γ) (f : γ → D) (hm : mi st S = .ok (xs.map e) S) (hz : xs.length ≤ 100000) (h : ∀ x ∈ xs, ∃ st1, g (e x) (wipeD st vs) = some st1 ∧ m st1 S = .ok (f x) S) :
    lcE mi g yesT m vs st S = .ok (.lst (xs.map f)) S := by
  have := lc_eq (mi := mi) (g := g) (t := yesT) (m := m) (vs := vs) (st := st) (S := S) (e := e) xs (fun _ => true) f hm hz fun x hx => by
    obtain ⟨st1, e1, e2⟩ := h x hx
    exact ⟨st1, e1, rfl, fun _ => e2⟩
  rw [this, List.filter_eq_self.mpr (by simp)]
theorem lcF_map (xs : List γ) (f : γ → D) (hm : mi st S = .ok (xs.map e) S) (hz : xs.length ≤ 100000) (h : ∀ x ∈ xs, ∃ st1, g (e x) (wipeD st vs) = some st1 ∧ m st1 S = .ok (f x) S) :
    lcF mi g yesT m vs st S = .ok (xs.map f) S := by
  unfold lcF
  rw [hm]
  show (if (xs.map e).length ≤ sizeLine then _ else _) = _
  rw [if_pos (by rw [sizeLine_eq, List.length_map]; omega), lcL_eq (fun _ => true) f xs fun x hx => by
    obtain ⟨st1, e1, e2⟩ := h x hx
    exact ⟨st1, e1, rfl, fun _ => e2⟩]
  rw [List.filter_eq_self.mpr (by simp)]
  rfl
/-- .. with draws within: each item's value is some that is wanted -/
theorem lcL_sat {st' : DSt} (I : Nat → List D → Store → Prop) : ∀ (ds : List D) (j : Nat) (acc : List D) {S : Store}, I j acc S →
    (∀ i d acc S, ds[i]? = some d → I (j + i) acc S → ∃ st1, g d st' = some st1 ∧ (m st1 S).sat fun y S' => I (j + i + 1) (acc ++ [y]) S') → (lcL g yesT m ds st' S).sat fun ys S' => I (j + ds.length) (acc ++ ys) S'
  | [], j, acc, S, h0, h => ⟨[], S, rfl, by simpa using h0⟩
  | d :: ds, j, acc, S, h0, h => by
    obtain ⟨st1, e1, y, S1, e2, h1⟩ := h 0 d acc S rfl h0
    obtain ⟨ys, S2, e3, h2⟩ := lcL_sat I ds (j + 1) (acc ++ [y]) h1 fun i d acc S hd hi => by
      have := h (i + 1) d acc S (by simpa using hd) (by rw [show j + (i + 1) = j + 1 + i by omega]; exact hi)
      rw [show j + (i + 1) = j + 1 + i by omega] at this
      exact this
    refine ⟨y :: ys, S2, ?_, by rw [List.length_cons, show j + (ds.length + 1) = j + 1 + ds.length by omega]; simpa using h2⟩
    simp only [lcL, e1]
    show (m st1 S).bind _ = _
    rw [e2]
    simp [e3]
theorem lc_sat {ds : List D} {S1 : Store} (I : Nat → List D → Store → Prop) (hm : mi st S = .ok ds S1) (hz : ds.length ≤ 100000) (h0 : I 0 [] S1)
    (h : ∀ i d acc S, ds[i]? = some d → I i acc S → ∃ st1, g d (wipeD st vs) = some st1 ∧ (m st1 S).sat fun y S' => I (i + 1) (acc ++ [y]) S') : (lcE mi g yesT m vs st S).sat fun d S' => ∃ ys, d = .lst ys ∧ I ds.length ys S' := by
  obtain ⟨ys, S2, e, q⟩ := lcL_sat (g := g) (m := m) (st' := wipeD st vs) I ds 0 [] h0 fun i d acc S hd hi => by simpa using h i d acc S hd (by simpa using hi)
  refine ⟨.lst ys, S2, ?_, ys, rfl, by simpa using q⟩
  unfold lcE
  rw [hm]
  show (if ds.length ≤ sizeLine then _ else _) = _
  rw [if_pos (by rw [sizeLine_eq]; omega), e]
  rfl
theorem lcF_sat {ds : List D} {S1 : Store} (I : Nat → List D → Store → Prop) (hm : mi st S = .ok ds S1) (hz : ds.length ≤ 100000) (h0 : I 0 [] S1)
    (h : ∀ i d acc S, ds[i]? = some d → I i acc S → ∃ st1, g d (wipeD st vs) = some st1 ∧ (m st1 S).sat fun y S' => I (i + 1) (acc ++ [y]) S') : (lcF mi g yesT m vs st S).sat fun ys S' => I ds.length ys S' := by
  obtain ⟨ys, S2, e, q⟩ := lcL_sat (g := g) (m := m) (st' := wipeD st vs) I ds 0 [] h0 fun i d acc S hd hi => by simpa using h i d acc S hd (by simpa using hi)
  refine ⟨ys, S2, ?_, by simpa using q⟩
  unfold lcF
  rw [hm]
  show (if ds.length ≤ sizeLine then _ else _) = _
  rw [if_pos (by rw [sizeLine_eq]; omega), e]
  rfl
end
end KF

set_option linter.all false
set_option maxRecDepth 100000
/-! KV: what the expressions within comprehensions are at slots and a store. -/
namespace KF
open PySem L2
section
variable {st : DSt} {S : Store} {a b c m o : EM D} {ml : EM (List D)} {ms : List (EM D)} {d : D} {i : Nat}
@[simp] theorem ev_v : vE i st S = match st[i]? with | some (some (.v d)) => .ok d S | _ => .bad := rfl
@[simp] theorem ev_c : cE d st S = .ok d S := rfl
@[simp] theorem ev_op {g : D → D → Store → Option D} : opE g a b st S = (a st S).bind fun x S1 => (b st S1).bind fun y S2 => Res.of (g x y S2) S2 := rfl
@[simp] theorem ev_opS {g : D → D → Store → Res D} : opS g a b st S = (a st S).bind fun x S1 => (b st S1).bind fun y S2 => (g x y S2).noE := rfl
@[simp] theorem ev_seq0 : seqE [] st S = .ok [] S := rfl
@[simp] theorem ev_seq1 : seqE (m :: ms) st S = (m st S).bind fun d S1 => (seqE ms st S1).bind fun ds S2 => .ok (d :: ds) S2 := rfl
@[simp] theorem ev_callE {g : List D → Store → Option (D × Store)} : callE g ml st S = (ml st S).bind fun ds S1 => .of2 (g ds S1) := rfl
@[simp] theorem ev_callSE {g : List D → Store → Res D} : callSE g ml st S = (ml st S).bind fun ds S1 => (g ds S1).noE := rfl
@[simp] theorem ev_callF {g : List D → List D → Store → Res D} : callF g ml st S = (ml st S).bind fun ds S1 => g ds [] S1 := rfl
@[simp] theorem ev_tup : tupE ml st S = (ml st S).bind tupR := rfl
@[simp] theorem ev_lst : lstE ml st S = (ml st S).bind lstR := rfl
@[simp] theorem ev_b : bE m st S = (m st S).bind fun d S1 => .of (asB d) S1 := rfl
@[simp] theorem ev_meth {ok : Store → D → Bool} {g : D → List D → Store → Option (D × Store)} : methE ok g o ml st S = (o st S).bind fun x S1 => if ok S1 x then (ml st S1).bind fun ds S2 => .of2 (g x ds S2) else .bad := rfl
@[simp] theorem ev_fld {C : Addr} {fn : Str} : fldE C fn o st S = (o st S).bind (fldR C fn) := rfl
@[simp] theorem ev_prop {C : Addr} {g : List D → List D → Store → Res D} : propE C g o st S = (o st S).bind (propR C g) := rfl
@[simp] theorem ev_and : andE a b st S = (a st S).bind fun x S1 => andR x S1 (b st) := rfl
@[simp] theorem ev_or : orE a b st S = (a st S).bind fun x S1 => orR x S1 (b st) := rfl
@[simp] theorem ev_not : notE a st S = (a st S).bind notR := rfl
@[simp] theorem ev_neg : negE a st S = (a st S).bind negR := rfl
@[simp] theorem ev_ch {g g' : D → D → Store → Option D} : chE g g' a b c st S = (a st S).bind fun x S1 => (b st S1).bind fun y S2 => (Res.of (g x y S2) S2).bind fun k S3 => chR k S3 fun S3 => (c st S3).bind fun z S4 => .of (g' y z S4) S4 := rfl
@[simp] theorem ev_andT {t u : EM Bool} : andT t u st S = (t st S).bind fun x S1 => if x then u st S1 else .ok false S1 := rfl
@[simp] theorem ev_orT {t u : EM Bool} : orT t u st S = (t st S).bind fun x S1 => if x then .ok true S1 else u st S1 := rfl
@[simp] theorem ev_notT {t : EM Bool} : notT t st S = (t st S).bind fun x S1 => .ok (!x) S1 := rfl
@[simp] theorem ev_if {t : EM Bool} : ifE t a b st S = (t st S).bind fun k S1 => if k then a st S1 else b st S1 := rfl
@[simp] theorem ev_sl {lo hi : Option (EM D)} : slE a lo hi st S = (a st S).bind fun x S1 => (optE lo st S1).bind fun l S2 => (optE hi st S2).bind fun h S3 => .of (gSl x l h S3) S3 := rfl
@[simp] theorem ev_o0 : optE none st S = .ok none S := rfl
@[simp] theorem ev_o1 : optE (some m) st S = (m st S).bind iRes := rfl
@[simp] theorem ei_it : itE m st S = (m st S).bind seqOf := rfl
@[simp] theorem ei_rng1 : rng1E m st S = (m st S).bind rng1R := rfl
@[simp] theorem ei_rng2 : rng2E ml st S = (ml st S).bind rng2R := rfl
@[simp] theorem ei_enum : enumE m st S = (m st S).bind fun d S1 => (seqN d S1).bind fun xs S2 => .ok (numD 0 xs) S2 := rfl
end
end KF

set_option Elab.async false
set_option linter.all false
set_option maxRecDepth 100000
set_option maxHeartbeats 4000000
/-! KGK: bool, calls by name, classmethods by name, a local class called. -/
namespace KF
open PySem PySem.Spec PyProof.Rows L2
section
variable {X : Cx} {Wx : WX} {C f : Addr} {h : List D → List D → Store → Res D}
theorem de_callTS {id : String} {x : Str} {p pos : Pos} {e : Expr} {es : List Expr} {ml : EM (List D)} {g : List D → Store → Res D} (hc : CallS X (.type id) g) (hg : Gl X x) (hm : X.mg x = none) (hv : bootBuiltins x = some (.type id)) (ha : DA X Wx (e :: es) ml) (hn : x ≠ "__name__" := by decide) (hdb : (x == ("__debug__" : Str)) = false := by decide)
    (he : starEach (e :: es) X.env = (false, eval e X.env) :: starEach es X.env := by rfl) (hpl : (backTo pos (starEach es X.env)).any (·.1) = false := by rfl) : DE X Wx (.Call (.Name x p) (e :: es) [] pos) (callSE g ml) :=
  de_of (pe_callTy hc.p hg hm hv ha.p hn hdb he hpl) fun W st S σ Q at_ q => goAE at_ q fun W1 ds S1 vs l a1 r q1 => ⟨W1, S1, ds, rfl, a1.s, r, VQ.noE q1⟩
theorem b_bool : bootBuiltins (Str.ofString "bool") = some (.type "bool") := by rfl
def boolD (C : Addr) (h : List D → List D → Store → Res D) : List D → Store → Res D := fun ds S => match ds with
  | [x] => match insOf S x with
    | some (C', _, _) => if C' = C then (match h [x] [] S with
      | .ok (.bl z) S1 => .ok (.bl z) S1
      | _ => .bad) else .bad
    | none => .bad
  | _ => .bad
theorem call_boolO (dn : Dun X.K C "__bool__" f) (F : Own2 X f h) : CallS X (.type "bool") (boolD C h) := ⟨fun pins s σ H xs us Q I rv ⟨W, S, ds, eH, sr, rl, q⟩ => by
  subst eH
  match ds, q with
  | [], q => exact q.elim
  | _ :: _ :: _, q => exact q.elim
  | [x], q =>
    unfold boolD at q
    simp only at q
    cases hi : insOf S x with
    | none =>
      rw [hi] at q
      exact q.elim
    | some t =>
      obtain ⟨C', ks, ys⟩ := t
      rw [hi] at q
      by_cases hc : C' = C
      · subst hc
        simp only [if_true] at q
        obtain ⟨v, rfl, rx⟩ := repL_1 rl
        obtain ⟨a, dd, vs, rfl, ha, hz, _⟩ := insOf_rep sr rx hi
        obtain ⟨u, rfl, ru⟩ : ∃ u, us = [u] ∧ RelV (.ref a) u := by
          cases rv with
          | cons h1 h2 => cases h2; exact ⟨_, rfl, h1⟩
        obtain rfl : u = Value.ref a := ru
        obtain ⟨ox, od, J⟩ := inst_at I ha
        have e : ∃ z S1, h [x] [] S = .ok (.bl z) S1 ∧ VQ X.K W Q E0 (.ok (.bl z) S1) := by
          split at q
          · rename_i z S1 e; exact ⟨z, S1, e, q⟩
          · exact q.elim
        obtain ⟨z, S1, e, q⟩ := e
        have R := F.wp (E' := X.xe) (Q := fun v H' => v = .bl z ∧ Q (.bl z) H') I sr (repL_cons rx repL_nil) (Paired.cons (show RelV (.ref a) (Value.ref a) from rfl) .nil) (by
          rw [e]
          intro W' v l s' r
          exact ⟨by simpa [Rep] using r, q W' _ l s' (rep_blI _)⟩)
        refine PySem.callType_newIn PySem.F.called_bool PySem.F.newNe_bool (PySem.F.typeCall_bool_1 _) (PySem.F.newCall_bool_1 _) (fun obj => PySem.F.args_object_init_2 obj _) PySem.F.entry_bool_new
          (S := fun A R s' => wpAny (model X.prog X.w) A.in1 (truthy (.ref a)) (fun r s' => R (.ok (.ret (.bool r))) s') (fun e s' => R (.error e) s') s') (PySem.MeetsIn.of_wp fun A R s' hh => ?_) ?_
        · show wpAny _ _ _ _ _ _
          unfold Builtin.«bool.__new__»
          refine wpAny_bind (wpAny_pure ?_)
          refine wpAny_bind (wpAny_of_eq PySem.F.conv_sub_bool ?_)
          refine wpAny_bind (wpAny_pure ?_)
          exact wpAny_bind (wpAny_mono hh (fun r s1 h1 => wpAny_pure ⟨_, rfl, h1⟩) fun _ _ e => e)
        · show wpAny _ X.A.in1.in1 _ _ _ s
          unfold truthy
          refine wpAny_bind (m := callSpecial? (.ref a) (Str.ofString "__bool__")) (PySem.W.special_fn I.kIn J dn.at_ (beq_iff_eq.mp dn.fn) (wpAny_mono R (fun r s' hr => ?_) fun _ _ y => y))
          obtain ⟨w, H', I', rw', rfl, q'⟩ := hr
          obtain rfl : r = Value.bool z := rw'
          exact wpAny_pure ⟨rfl, ⟨.bl z, H', I', rfl, q'⟩⟩
      · simp only [if_neg hc] at q
        exact q.elim⟩
/-- C.m(a=..), m a classmethod: all by name -/
theorem de_cmK0 {mc : Value} {p : Addr} {ks : List Str} {G : List D → List D → Store → Res D} {o : Expr} {kws : List Keyword} {mo : EM D} {mk : EM (List D)} {mn : Str} {pos apos : Pos} {pl : Sem Bool} (c : CalC X Wx (.ref f) ks G) (ho : DE X Wx o mo) (r : ClX.CRead X.K C mc) (cm : ClX.CMet X.K C mc mn p f) (hw : DK X Wx kws mk)
    (hall : (backToKw pos (keywordEach kws X.env)).all (·.1.isSome) = true := by rfl) (hks : (backToKw pos (keywordEach kws X.env)).filterMap (·.1) = ks := by rfl)
    (hpl : ((backTo pos (starEach [] X.env)).any (·.1) || (backToKw pos (keywordEach kws X.env)).any (·.1.isNone)) = false := by rfl)
    (h3 : eval (.Call (.Attribute o mn apos) [] kws pos) X.env = (do
      let ov ← eval o X.env
      standAt apos.atName
      let (f, first) ← holding [ov] (getMethod ov mn pl)
      callWith pos f first (backTo pos (starEach [] X.env)) (backToKw pos (keywordEach kws X.env))) := by rfl) :
    DE X Wx (.Call (.Attribute o mn apos) [] kws pos) (cmE C G mo (seqE []) mk) := ⟨⟨fun pins s σ H Q I ⟨W, st, S, at_, q⟩ => by
  obtain ⟨rfl, sr, re⟩ := at_
  refine PySem.W.methodCall_KW (pl := pl) (L2.thn (ho.p.run pins s σ W.H (fun v H1 => ∃ W1 x S1, W1.H = H1 ∧ At X.K W1 st S1 σ W1.H ∧ Rep X.K W1 x v ∧ VQ X.K W1 Q (fun c d H' => Wx c d σ H') (match x with | .obj C' => if C' = C then (seqE [] st S1).bind fun ds S2 => (mk st S2).bind fun es S3 => G (.obj C :: ds) es S3 else .bad | _ => .bad)) I
    (goE ⟨rfl, sr, re⟩ q fun W1 x S1 v l a1 r q1 => ⟨W1, x, S1, rfl, a1, r, q1⟩)) ?_) h3
  rintro u s1 ⟨v, _, I1, rv, W1, x, S1, rfl, a1, rx, q1⟩
  cases x <;> try exact q1.elim
  rename_i C'
  simp only at q1
  split at q1
  · rename_i hC
    subst hC
    obtain rfl : v = .ref C' := by simpa [Rep] using rx
    obtain rfl : u = Value.ref C' := rv
    refine ClX.getmethcm_ok I1 r cm fun s2 I2 => ?_
    refine PySem.W.callWith_of hpl (PySem.W.keeps_M (self := .ref C') cm.fi) (PyProof.Rows.evalArgs_kw2_nil hall ?_)
    refine L2.thn (hw.p.run pos _ s2 σ W1.H (fun zs H1 => ∃ W2 es S2, W2.H = H1 ∧ SRep X.K W2 S2 ∧ RepL X.K W2 es zs ∧ VQ X.K W2 Q (fun c d H' => Wx c d σ H') (G [.obj C'] es S2)) I2 (goAE a1 q1 fun W2 es S2 zs l2 a2 r2 q2 => ⟨W2, es, S2, rfl, a2.s, r2, q2⟩)) ?_
    rintro ws s3 ⟨zs, _, I3, rvs, W2, es, S2, rfl, sr2, r2, q2⟩
    refine ⟨⟨ClX.pin_at I3, I3.kIn⟩, ?_⟩
    rw [hks]
    have z : wpAny (model X.prog X.w) X.A (call (.ref s1.heap.objs.size) [] (ks.zip ws)) (EP X ((s1.heap.objs.size, PySem.W.methodObj (.ref f) (.ref C')) :: pins) σ Q) X.xe s3 :=
      wpAny_call (PySem.W.method_call (ClX.pin_at I3) (codeAny_mono (c.run _ σ s3 W2 S2 [.obj C'] es [.ref C'] zs [.ref C'] ws Q I3 sr2 (repL_cons (by simp [Rep]) repL_nil) r2 (.cons rfl .nil) rvs q2) fun r s' z => by
        match r, z with
        | .error e, z => exact z
        | .ok (.ret u), z => exact z
        | .ok .next, z => exact z.elim
        | .ok .brk, z => exact z.elim
        | .ok .cont, z => exact z.elim))
    exact L2.thn z fun _ _ y => ClX.unpinE y
  · exact q1.elim⟩⟩
/-- a local name that holds the class at C is called -/
def objR {α : Type} (C : Addr) (d : D) (k : Res α) : Res α := match d with
  | .obj C' => if C' = C then k else .bad
  | _ => .bad
def callW (i : Nat) (C : Addr) (g : List D → List D → Store → Res D) (ml : EM (List D)) : EM D := fun st S => match st[i]? with
  | some (some (.v d)) => objR C d ((ml st S).bind fun ds S1 => g ds [] S1)
  | _ => .bad
theorem de_fnW {x : Str} {p pos : Pos} {e : Expr} {es : List Expr} {ml : EM (List D)} {g : List D → List D → Store → Res D} (i : Nat) (c : CalD X Wx (.ref C) [] g) (hk : PySem.W.keepIn X.K (.ref C) = true) (ha : DA X Wx (e :: es) ml) (hN : X.N[i]? = some x := by rfl) (hv : Vis X.env.scope x := by first | exact Or.inl rfl | exact Or.inr (Or.inl rfl) | exact Or.inr (Or.inr rfl))
    (hdb : (x == ("__debug__" : Str)) = false := by decide) (hcd : (x == ("__classdict__" : Str)) = false := by decide) (he : starEach (e :: es) X.env = (false, eval e X.env) :: starEach es X.env := by rfl) (hpl : (backTo pos (starEach es X.env)).any (·.1) = false := by rfl) :
    DE X Wx (.Call (.Name x p) (e :: es) [] pos) (callW i C g ml) := by
  have : callW i C g ml = callV i C g ml := by
    funext st S
    unfold callW callV
    cases st[i]? with
    | none => rfl
    | some o => cases o with
      | none => rfl
      | some s => cases s with
        | o xs => rfl
        | v d => cases d <;> rfl
  rw [this]
  exact de_fnV i c hk ha hN hv hdb hcd he hpl
end
end KF

set_option Elab.async false
set_option linter.all false
set_option maxRecDepth 100000
set_option maxHeartbeats 4000000
/-! KGM: how a class with defaults binds. -/
namespace KF
open PySem PySem.Spec PyProof.Rows L2
section
variable {K : PySem.W.Frag} {fd : FuncData} {ps ks : List Str} {n m : Nat} {T : Addr} {o : Obj} {its : Array Value} {dd : List D} {dvs : List V} {dus : List Value}
/-- the written empty tuple -/
theorem rep_et {E : Addr} {k : Nat} {sl : Array (Option Value)} (h : K.lookup E = some ⟨.type "tuple", none, .seq #[] k, sl⟩) (W : Wd) : Rep K W (.tup []) (.ref E) := by
  simp only [Rep]
  refine ⟨E, [], rfl, .inr ⟨_, #[], k, h, rfl, rfl, rfl, Nat.zero_le _, .nil⟩, repL_nil⟩
/-- f(a, ..), the rest by defaults -/
theorem bd_dflT (hn : ps.length = n + dd.length) (lT : K.lookup T = some o) (oT : o.data = .seq its m) (hv : Vals dvs dus) (hd : ∀ W, RepL K W dd dvs)
    (h : ∀ us : List Value, us.length = n → ∃ k, bindArgs fd ⟨us, []⟩ = seqItems? (.ref T) >>= k ∧ k (some its) = pure (ps.zip (us ++ dus))) : BD K fd ps [] n (fun ds _ => ds ++ dd) :=
  ⟨fun ds es h _ => by rw [List.length_append, h, hn], fun s W ds es vs zs us ws kin r _ rv _ hl _ => by
    obtain ⟨k, e1, e2⟩ := h us (by rw [← rv.length, ← r.length, hl])
    refine ⟨us ++ dus, vs ++ dvs, L2.BindsTo.of_looks fun M => ?_, rv.append hv, repL_append r (hd W)⟩
    show PySem.W.Looks M s.heap (bindArgs fd ⟨us, []⟩) _
    rw [e1]
    exact looks_items kin lT oT (.of_pure e2)⟩
/-- f(a, .., k = v, ..): all parameters are given; the def has defaults -/
theorem bd_kwT (g : {α : Type} → List α → List α → List α) (hl : ∀ {α : Type} (us ws : List α), us.length = n → ws.length = ks.length → (g us ws).length = ps.length)
    (hr : ∀ {W : Wd} {ds es : List D} {vs zs : List V}, ds.length = n → es.length = ks.length → RepL K W ds vs → RepL K W es zs → RepL K W (g ds es) (g vs zs))
    (hv : ∀ {vs zs : List V} {us ws : List Value}, us.length = n → ws.length = ks.length → Vals vs us → Vals zs ws → Vals (g vs zs) (g us ws))
    (lT : K.lookup T = some o) (oT : o.data = .seq its m)
    (hb : ∀ us ws : List Value, us.length = n → ws.length = ks.length → ∃ k, bindArgs fd ⟨us, ks.zip ws⟩ = seqItems? (.ref T) >>= k ∧ k (some its) = pure (ps.zip (g us ws))) : BD K fd ps ks n (fun ds es => g ds es) :=
  ⟨fun ds es h1 h2 => hl ds es h1 h2, fun s W ds es vs zs us ws kin r1 r2 v1 v2 h1 h2 => by
    have l1 : us.length = n := by rw [← v1.length, ← r1.length, h1]
    have l2 : ws.length = ks.length := by rw [← v2.length, ← r2.length, h2]
    obtain ⟨k, e1, e2⟩ := hb us ws l1 l2
    refine ⟨g us ws, g vs zs, L2.BindsTo.of_looks fun M => ?_, hv l1 l2 v1 v2, hr h1 h2 r1 r2⟩
    rw [e1]
    exact looks_items kin lT oT (.of_pure e2)⟩
end
/-! orders of values -/
def pick {α : Type} (js : List Nat) (us ws : List α) : List α := js.filterMap fun j => (us ++ ws)[j]?
theorem vals_get? {vs : List V} {us : List Value} (r : Vals vs us) : ∀ j : Nat, (vs[j]? = none ∧ us[j]? = none) ∨ ∃ v u, vs[j]? = some v ∧ us[j]? = some u ∧ RelV v u := by
  induction r with
  | nil => intro j; exact .inl ⟨by simp, by simp⟩
  | cons h _ ih =>
    intro j
    cases j with
    | zero => exact .inr ⟨_, _, rfl, rfl, h⟩
    | succ j => simpa using ih j
theorem vals_pick {js : List Nat} {vs zs : List V} {us ws : List Value} (a : Vals vs us) (b : Vals zs ws) : Vals (pick js vs zs) (pick js us ws) := by
  have r := a.append b
  induction js with
  | nil => exact .nil
  | cons j js ih =>
    unfold pick at ih ⊢
    simp only [List.filterMap_cons]
    rcases vals_get? r j with ⟨h1, h2⟩ | ⟨v, u, h1, h2, h3⟩
    · rw [h1, h2]; exact ih
    · rw [h1, h2]; exact .cons h3 ih
theorem repL_get? {K : PySem.W.Frag} {W : Wd} : ∀ {ds : List D} {vs : List V}, RepL K W ds vs → ∀ j : Nat, (ds[j]? = none ∧ vs[j]? = none) ∨ ∃ d v, ds[j]? = some d ∧ vs[j]? = some v ∧ Rep K W d v
  | [], vs, r, j => by
    have : vs = [] := by simpa [RepL] using r
    subst this
    exact .inl ⟨by simp, by simp⟩
  | d :: ds, vs, r, j => by
    simp only [RepL] at r
    obtain ⟨v, vs', rfl, r1, r2⟩ := r
    cases j with
    | zero => exact .inr ⟨d, v, rfl, rfl, r1⟩
    | succ j => simpa using repL_get? r2 j
theorem repL_pick {K : PySem.W.Frag} {W : Wd} {js : List Nat} {ds es : List D} {vs zs : List V} (a : RepL K W ds vs) (b : RepL K W es zs) : RepL K W (pick js ds es) (pick js vs zs) := by
  have r := repL_append a b
  induction js with
  | nil => exact repL_nil
  | cons j js ih =>
    unfold pick at ih ⊢
    simp only [List.filterMap_cons]
    rcases repL_get? r j with ⟨h1, h2⟩ | ⟨v, u, h1, h2, h3⟩
    · rw [h1, h2]; exact ih
    · rw [h1, h2]; exact repL_cons h3 ih
section
variable {K : PySem.W.Frag} {fd : FuncData} {ps ks : List Str} {n m : Nat} {T : Addr} {o : Obj} {its : Array Value}
theorem bd_pickT (js : List Nat) (hl : ∀ {α : Type} (us ws : List α), us.length = n → ws.length = ks.length → (pick js us ws).length = ps.length) (lT : K.lookup T = some o) (oT : o.data = .seq its m)
    (hb : ∀ us ws : List Value, us.length = n → ws.length = ks.length → ∃ k, bindArgs fd ⟨us, ks.zip ws⟩ = seqItems? (.ref T) >>= k ∧ k (some its) = pure (ps.zip (pick js us ws))) : BD K fd ps ks n (fun ds es => pick js ds es) :=
  bd_kwT (fun us ws => pick js us ws) hl (fun _ _ a b => repL_pick a b) (fun _ _ a b => vals_pick a b) lT oT hb
theorem bd_pick (js : List Nat) (hl : ∀ {α : Type} (us ws : List α), us.length = n → ws.length = ks.length → (pick js us ws).length = ps.length)
    (hb : ∀ us ws : List Value, us.length = n → ws.length = ks.length → bindArgs fd ⟨us, ks.zip ws⟩ = pure (ps.zip (pick js us ws))) : BD K fd ps ks n (fun ds es => pick js ds es) :=
  bd_kw (fun us ws => pick js us ws) hl (fun _ _ a b => repL_pick a b) (fun _ _ a b => vals_pick a b) hb
end
end KF

set_option Elab.async false
set_option linter.all false
set_option maxRecDepth 100000
set_option maxHeartbeats 4000000
/-! KGL: count. -/
namespace KF
open PySem PySem.Spec PyProof.Rows L2
def eqz (z : Str) (v : Value) : Bool := match v with
  | .str n _ => n.cps.toList == z.cps.toList
  | _ => false
theorem eqz_gives {z : Str} {t : Tok} : ∀ {us : List Value} {ns : List Str}, StrsAre us ns → ∀ y ∈ us, MeetsSeq.EqGives y (.str z t) (eqz z y)
  | _, _, .nil => fun y hy => by cases hy
  | _, _, .cons n t' h => fun y hy => by
    rcases List.mem_cons.mp hy with e | e
    · rw [e]
      exact PySem.SeqRoads2.EqGives.str n z t' t
    · exact eqz_gives h y e
theorem cps_inj {a b : Str} : (a.cps.toList == b.cps.toList) = (a == b) := by
  have : a.cps.toList = b.cps.toList ↔ a = b := ⟨fun h => by
    cases a; cases b
    simp only [Array.toList_inj] at h
    rw [h], fun h => by rw [h]⟩
  by_cases h : a = b
  · rw [beq_iff_eq.mpr h, beq_iff_eq.mpr (this.mpr h)]
  · rw [beq_eq_false_iff_ne.mpr h, beq_eq_false_iff_ne.mpr (fun z => h (this.mp z))]
theorem eqz_count {z : Str} : ∀ {us : List Value} {ns : List Str}, StrsAre us ns → us.countP (eqz z) = ns.count z
  | _, _, .nil => rfl
  | _, _, .cons n t h => by
    have ih := eqz_count (z := z) h
    rw [List.countP_cons, List.count_cons, ih]
    show _ + (if (n.cps.toList == z.cps.toList) = true then 1 else 0) = _
    rw [cps_inj]
section
variable {X : Cx}
def rCntL (K : PySem.W.Frag) : V → List V → Hp → VK → Prop := fun x xs H Q => ∃ (p : Addr) (ns : List Str) (z : Str), x = .ref p ∧ xs = [.str z] ∧ SqL K H p (ns.map V.str) ∧ Q (.int (ns.count z : Nat)) H
theorem mt_lcountS : MtR X "list.count" (rCntL X.K) := by
  intro pins s σ H x xs v us Q I rx rxs h
  obtain ⟨p, ns, z, rfl, rfl, hs, q⟩ := h
  cases rx
  obtain ⟨u, rfl, ru⟩ := rxs.one
  obtain ⟨t, rfl⟩ := ru
  obtain ⟨its, rv, ⟨⟨cls, dd, data, sl⟩, n, ho, hc, hdn, hd⟩, hlen⟩ := I.list hs
  simp only at hc hd
  subst hc hd
  have hi := strs_of_vals rv
  refine call_meets PySem.F.slot_list_count ⟨_, ho, rfl⟩ PySem.F.entry_list_count (PySem.F.args_list_count_2 _ _)
    (SeqAt.list_countAt p its.toArray n dd sl (.str z t) (eqz z)) ⟨ho, fun y hy => (eqz_gives hi y (by simpa using hy)).at _ _, ?_⟩
  have ec : its.toArray.toList.countP (eqz z) = ns.count z := eqz_count hi
  refine ⟨.int (ns.count z : Nat), H, I.tok _, ⟨s.toks, ?_⟩, q⟩
  show Value.int ((its.toArray.toList.countP (eqz z) : Nat) : Int) s.toks = Value.int ((ns.count z : Nat) : Int) s.toks
  rw [ec]
def rCntT (K : PySem.W.Frag) : V → List V → Hp → VK → Prop := fun x xs H Q => ∃ (p : Addr) (ns : List Str) (z : Str), x = .ref p ∧ xs = [.str z] ∧ SqT K H p (ns.map V.str) ∧ Q (.int (ns.count z : Nat)) H
theorem mt_tcountS : MtR X "tuple.count" (rCntT X.K) := by
  intro pins s σ H x xs v us Q I rx rxs h
  obtain ⟨p, ns, z, rfl, rfl, hs, q⟩ := h
  cases rx
  obtain ⟨u, rfl, ru⟩ := rxs.one
  obtain ⟨t, rfl⟩ := ru
  obtain ⟨its, rv, ⟨⟨cls, dd, data, sl⟩, ho, hc, n, hd⟩, hlen⟩ := I.tuple hs
  simp only at hc hd
  subst hc hd
  have hi := strs_of_vals rv
  refine call_meets PySem.F.slot_tuple_count ⟨_, ho, rfl⟩ PySem.F.entry_tuple_count (PySem.F.args_tuple_count_2 _ _)
    (SeqAt.tuple_countAt p its.toArray n dd sl (.str z t) (eqz z)) ⟨ho, fun y hy => (eqz_gives hi y (by simpa using hy)).at _ _, ?_⟩
  have ec : its.toArray.toList.countP (eqz z) = ns.count z := eqz_count hi
  refine ⟨.int (ns.count z : Nat), H, I.tok _, ⟨s.toks, ?_⟩, q⟩
  show Value.int ((its.toArray.toList.countP (eqz z) : Nat) : Int) s.toks = Value.int ((ns.count z : Nat) : Int) s.toks
  rw [ec]
def mCountL (x : D) (ds : List D) (S : Store) : Option (D × Store) := match ds with
  | [.str z] => ((asL S x).bind strsD).bind fun ys => some (.int (ys.count z : Nat), S)
  | _ => none
theorem mt_countLK : MethD X "list.count" mCountL := by
  refine methD_of mt_lcountS fun W S dx ds d S' x vs Q s rx r e k => ?_
  unfold mCountL at e
  split at e
  · rename_i z
    cases h : asL S dx with
    | none => rw [h] at e; cases e
    | some xs =>
      rw [h] at e
      simp only [Option.bind_some] at e
      cases h2 : strsD xs with
      | none => rw [h2] at e; cases e
      | some ys =>
        rw [h2] at e
        cases e
        obtain ⟨p, vs, rfl, q, r1⟩ := asL_rep s rx h
        obtain ⟨u, rfl, ru⟩ := repL_1 r
        obtain rfl := rep_s ru
        obtain rfl := strs_rep r1 h2
        exact ⟨p, ys, z, rfl, rfl, q, k W _ (.refl W) s rep_iI⟩
  · cases e
def mCountT (x : D) (ds : List D) (S : Store) : Option (D × Store) := match x, ds with
  | .tup xs, [.str z] => (strsD xs).bind fun ys => some (.int (ys.count z : Nat), S)
  | _, _ => none
theorem mt_countTK : MethD X "tuple.count" mCountT := by
  refine methD_of mt_tcountS fun W S dx ds d S' x vs Q s rx r e k => ?_
  unfold mCountT at e
  split at e
  · rename_i xs z
    cases h2 : strsD xs with
    | none => rw [h2] at e; cases e
    | some ys =>
      rw [h2] at e
      cases e
      obtain ⟨p, vs, rfl, q1, r1⟩ := asT_rep (d := .tup xs) rx rfl
      obtain ⟨u, rfl, ru⟩ := repL_1 r
      obtain rfl := rep_s ru
      obtain rfl := strs_rep r1 h2
      exact ⟨p, ys, z, rfl, rfl, q1, k W _ (.refl W) s rep_iI⟩
  · cases e
end
end KF

set_option Elab.async false
set_option linter.all false
set_option maxRecDepth 100000
set_option maxHeartbeats 4000000
/-! KGN: sorted(set(..)). -/
namespace KF
open PySem PySem.Spec PyProof.Rows L2
section
variable {P : Program} {w : World} {A : Around} {R : Result → Shared → Prop} {J : Addr} {fp wr : List Addr} {G : Array GenState → Array GenState → Prop} {n : Nat} {Pv : Nat → Value → Prop} {St : Nat → Shared → Prop}
/-- the ints of a list stand in the set at a, so many of them -/
def SInts (w : World) (h : Heap) (a : Addr) (ns : List Int) : Prop := ∃ (f : Int → Bool) (c : Nat), SetR w h a f c ∧ (∀ k, f k = true ↔ k ∈ ns) ∧ c ≤ ns.length
theorem SInts.to {h h' : Heap} {a : Addr} {ns : List Int} (x : SInts w h a ns) (k : ∀ o, h.get? a = some o → h'.get? a = some o) : SInts w h' a ns :=
  let ⟨f, c, r, q⟩ := x; ⟨f, c, r.at k, q⟩
theorem SInts.more {h : Heap} {a : Addr} {ns : List Int} {k : Int} {f : Int → Bool} {c : Nat} (q : ∀ k, f k = true ↔ k ∈ ns) (l : c ≤ ns.length) (r : SetR w h a (fun j => f j || decide (j = k)) (if f k = true then c else c + 1)) : SInts w h a (ns ++ [k]) :=
  ⟨_, _, r, fun j => by simp [q j], by rw [List.length_append, List.length_singleton]; split <;> omega⟩
theorem upd_ints (W : WalksS P w A.in1 J fp wr G n Pv St) (a : Addr) (ha : a ∉ fp) (ns : List Int) (hl : ns.length = n) (hv : ∀ i v, Pv i v → ∃ k t, ns[i]? = some k ∧ v = .int k t) (hb : n + 1 < scanBound) :
    ∀ (k i : Nat) (s : Shared), n - i = k → i ≤ n → St i s → SInts w s.heap a (ns.take i) → (∀ s', Moved (a :: wr) G s s' → SInts w s'.heap a ns → R (.ok (.ret .none)) s') →
      codeAny (model P w) A (.builtin "set.update.loop" ⟨[.ref a, .ref J], []⟩) R s := by
  have hw : a ∉ wr := fun h => ha (W.sub _ h)
  have up : ∀ b ∈ wr, b ∈ a :: wr := fun b hb => List.mem_cons_of_mem _ hb
  intro k
  induction k with
  | zero =>
    intro i s h1 h2 st x q
    have e : i = n := by omega
    subst e
    rw [List.take_of_length_le (by omega)] at x
    refine codeAny_builtin PyProof.Rows.F.entry_set_update_loop ?_; rw [Around.under_plainId PyProof.Rows.F.plain_set_update_loop _]
    show wpAny _ A.in1 (pyNext (.ref J) >>= _) _ _ s
    refine wpAny_bind (W.done s _ _ st fun s1 m => ?_)
    show wpAny _ A.in1 (ret Value.none) _ _ s1
    exact wpAny_pure (q s1 (m.mono up) (x.to fun o e => m.heap a o hw e))
  | succ k ih =>
    intro i s h1 h2 st x q
    have hi : i < n := by omega
    refine codeAny_builtin PyProof.Rows.F.entry_set_update_loop ?_; rw [Around.under_plainId PyProof.Rows.F.plain_set_update_loop _]
    show wpAny _ A.in1 (pyNext (.ref J) >>= _) _ _ s
    refine wpAny_bind (W.item i s _ _ hi st fun v s1 hp st1 m => ?_)
    obtain ⟨z, t, hz, rfl⟩ := hv i v hp
    obtain ⟨f, c, r, q1, q2⟩ := x.to fun o e => m.heap a o hw e
    have c1 : c + 1 < scanBound := by
      rw [List.length_take] at q2
      omega
    show wpAny _ A.in1 (holding [Value.int z t] (setAdd a (.int z t)) >>= _) _ _ s1
    refine wpAny_bind (wpAny_holding ?_)
    unfold setAdd
    refine wpAny_holding (wpAny_bind ((intKind P w).pyHash (intKind_is P w z t) ?_))
    refine setR_add_hashed (s := { s1 with toks := s1.toks + 1 }) r c1 fun h' sb r' => ?_
    have x' : SInts w h' a (ns.take (i + 1)) := by
      rw [L2.take_next hz]
      exact SInts.more q1 q2 r'
    refine wpAny_pure ⟨plainId_quiet PyProof.Rows.F.plain_set_update_loop _, ih (i + 1) _ (by omega) hi (W.frame _ s1 _ _ st1 (Nat.le_succ _) fun b hb o e => (sb.2 b fun z => ha (z ▸ hb)).trans e) x' fun s2 m2 x2 => ?_⟩
    exact q s2 (Moved.trans W.gtrans ((m.mono up).then_heap (Nat.le_succ _) fun b o hb e => (sb.2 b fun z => hb (z ▸ List.mem_cons_self)).trans e) m2) x2
end
section
variable {P : Program} {w : World} {A : Around} {E : Value → Shared → Prop} {s : Shared}
abbrev setObj0 (w : World) : Obj := { cls := .type "set", dict := none, data := .set #[] 0 (.fresh 0 0 (!w.params.followText "set-order")) }
theorem sints_new {h : Heap} {a : Addr} (e : h.get? a = some (setObj0 w)) : SInts w h a [] := by
  refine ⟨fun _ => false, 0, ?_, by simp, Nat.le_refl _⟩
  exact ⟨_, #[], 0, _, e, ⟨rfl, rfl, rfl⟩, rfl, fun e he => by simp at he, by simp, fun k => by simp, by decide, by rfl, rfl, List.Pairwise.nil, by
    show _ ∨ (!w.params.followText "set-order") = true
    by_cases h : w.params.followText "set-order" = true
    · exact .inl h
    · exact .inr (by simpa using h)⟩
/-- set(xs) -/
theorem call_setI {l : Addr} {items : Array Value} {ns : List Int} {Q : Value → Shared → Prop} (hh : A.handled = none) (hl : s.heap.IsList l items) (hi : PyProof.Rows.IntsAre items.toList ns) (hb : ns.length + 1 < scanBound)
    (q : ∀ (h' : Heap) (tk : Nat), SInts w h' s.heap.objs.size ns → (∀ b o, s.heap.get? b = some o → h'.get? b = some o) → Q (.ref s.heap.objs.size) { s with heap := h', toks := tk }) :
    wpAny (model P w) A (call (.type "set") [.ref l]) Q E s := by
  have zs : items.size = ns.length := by rw [← Array.length_toList]; exact IntsAre.length hi
  obtain ⟨c, tl, hmro⟩ := F.called_set.mro
  have hmade := F.called_set.made; have hsub := F.called_set.sub
  refine wpAny_call (codeAny_of_tree ?_)
  show wpAny _ _ (callAny (.type "set") _) _ _ _
  refine wpAny_pure ⟨Code.quiet_builtin _ (by decide +kernel), codeAny_builtin F.entry_type_call ?_⟩
  rw [Around.under_plain (weight_type_call_type "set" [.ref l] []) rfl]
  have h1 := F.called_set.notType; have h2 := F.called_set.canCreate; have hct := F.typeCall_set_1 (.ref l)
  repeat (any_goals (first | assumption | wp_step))
  refine codeAny_mono (code_set_led1 (.ref l) (E := E) (Q₁ := fun v t => v = .ref s.heap.objs.size ∧ t = { s with heap := s.heap.push (setObj0 w) }) ⟨rfl, rfl⟩) fun r s₁ hr => ?_
  match r, hr with
  | .error e, hr => exact hr
  | .ok .next, hr => exact hr.elim
  | .ok .brk, hr => exact hr.elim
  | .ok .cont, hr => exact hr.elim
  | .ok (.ret v), hr =>
    obtain ⟨rfl, rfl⟩ := hr
    have hS : (s.heap.push (setObj0 w)).get? s.heap.objs.size = some (setObj0 w) := Heap.get?_push_size _ rfl
    have hT : Shared.TypeIs { s with heap := s.heap.push (setObj0 w) } (.ref s.heap.objs.size) "set" := ⟨_, hS, rfl⟩
    have hli := F.called_set.init.lookup; have hbi := F.called_set.init.bind (.ref s.heap.objs.size)
    repeat (any_goals (first | assumption | wp_step))
    refine codeAny_mono (codeAny_call_builtin (R := wants (fun r t => r = .none ∧ ∃ h' tk, t = { s with heap := h', toks := tk } ∧ SInts w h' s.heap.objs.size ns ∧ ∀ b o, s.heap.get? b = some o → h'.get? b = some o) E) F.called_set.init.plain F.entry_set_init (check_set_init_1 hT ?_)) fun r₂ s₂ hr₂ => ?_
    · obtain ⟨⟨ocls, odict, odata, oslots⟩, hol, hcl, nl, hdl⟩ := hl
      simp only at hcl hdl
      subst hcl; subst hdl
      have hol' : (s.heap.push (setObj0 w)).get? l = some { cls := .type "list", dict := odict, data := .seq items nl, slots := oslots } := Heap.get?_push_of_some _ hol
      have e1 := F.sub_list_set; have e2 := F.sub_list_frozenset
      have e3 : (Value.type "list" == Value.type "dict") = false := by decide
      have hl1 : (s.heap.push (setObj0 w)).IsList l items := ⟨_, hol', rfl, nl, rfl⟩
      unfold Builtin.«set.__init__» noKeywords Builtin.Frozenset.updateFrom
      generalize hPI : pyIter = PI
      wp_walk
      subst hPI
      refine wpAny_pyIter_list hl1 (wpAny_bind (wpAny_runValue ?_))
      have lt : l < s.heap.objs.size := Heap.lt_size hol
      have sz : (s.heap.push (setObj0 w)).objs.size = s.heap.objs.size + 1 := Heap.size_push ..
      have nI : l ≠ (s.heap.push (setObj0 w)).objs.size := by rw [sz]; exact Nat.ne_of_lt (Nat.lt_succ_of_lt lt)
      have nS : s.heap.objs.size ∉ [(s.heap.push (setObj0 w)).objs.size, l] := by
        simp only [List.mem_cons, List.not_mem_nil, or_false, not_or, sz]
        exact ⟨Nat.ne_of_lt (Nat.lt_succ_self _), Nat.ne_of_gt lt⟩
      refine upd_ints ((Walks.list (show A.in1.in1.in1.handled = none by simp [hh]) _ l nI items).toS) s.heap.objs.size nS ns zs.symm (fun i v e => ?_) (by omega) (items.size - 0) 0 _ (by omega) (Nat.zero_le _)
        ⟨⟨_, Heap.get?_push_size _ rfl, rfl, rfl⟩, hl1.push _⟩ (by rw [List.take_zero]; exact sints_new (Heap.get?_push_of_some _ hS)) fun s' m x => ?_
      · have lt' : i < ns.length := by rw [← zs]; exact (Array.getElem?_eq_some_iff.mp e).1
        obtain ⟨t, e'⟩ := PyProof.Rows.IntsAre.int_at hi i v (by rw [Array.getElem?_toList]; exact e)
        rw [show (ns.getD i 0) = ns[i] by simp [List.getD, lt']] at e'
        exact ⟨_, t, List.getElem?_eq_getElem lt', e'⟩
      · obtain ⟨h', g', d', tk', os'⟩ := s'
        obtain rfl : g' = s.gens := m.gens
        obtain rfl : d' = s.drawn := m.drawn
        obtain rfl : os' = s.os := m.os
        show wpAny _ _ _ _ _ _
        refine wpAny_pure ?_
        show wpAny _ _ (ret Value.none) _ _ _
        refine wpAny_pure ⟨rfl, h', tk', rfl, x, fun b o e => ?_⟩
        have lb := Heap.lt_size e
        refine m.heap b o ?_ (Heap.get?_push_of_some _ (Heap.get?_push_of_some _ e))
        simp only [List.mem_cons, List.not_mem_nil, or_false, not_or, sz]
        exact ⟨Nat.ne_of_lt lb, Nat.ne_of_lt (Nat.lt_succ_of_lt lb)⟩
    · match r₂, hr₂ with
      | .error e, hr₂ => exact hr₂
      | .ok .next, hr₂ => exact hr₂.elim
      | .ok .brk, hr₂ => exact hr₂.elim
      | .ok .cont, hr₂ => exact hr₂.elim
      | .ok (.ret r), hr₂ =>
        obtain ⟨rfl, h', tk, rfl, x, k⟩ := hr₂
        repeat (any_goals (first | assumption | wp_step))
        exact q _ _ x k
end
section
variable {X : Cx} {Wx : WX}
/-- the ints of a list, ascending, each once -/
def insI (k : Int) : List Int → List Int
  | [] => [k]
  | x :: xs => if k < x then k :: x :: xs else if k = x then x :: xs else x :: insI k xs
def sortI : List Int → List Int
  | [] => []
  | x :: xs => insI x (sortI xs)
theorem insI_mem {k y : Int} : ∀ {xs : List Int}, y ∈ insI k xs ↔ y = k ∨ y ∈ xs
  | [] => by simp [insI]
  | x :: xs => by
    unfold insI
    split
    · simp
    · split
      · rename_i h
        subst h
        simp only [List.mem_cons]
        exact ⟨fun h => .inr h, fun h => h.elim .inl id⟩
      · simp only [List.mem_cons, insI_mem (xs := xs)]
        exact ⟨fun h => h.elim (fun h => .inr (.inl h)) fun h => h.elim .inl fun h => .inr (.inr h), fun h => h.elim (fun h => .inr (.inl h)) fun h => h.elim .inl fun h => .inr (.inr h)⟩
theorem insI_srt {k : Int} : ∀ {xs : List Int}, xs.Pairwise (· < ·) → (insI k xs).Pairwise (· < ·)
  | [], _ => by simp [insI]
  | x :: xs, h => by
    obtain ⟨h1, h2⟩ := List.pairwise_cons.mp h
    unfold insI
    split
    · refine List.pairwise_cons.mpr ⟨fun y hy => ?_, h⟩
      rcases List.mem_cons.mp hy with rfl | hy
      · assumption
      · have := h1 y hy
        omega
    · split
      · exact h
      · refine List.pairwise_cons.mpr ⟨fun y hy => ?_, insI_srt h2⟩
        rcases insI_mem.mp hy with rfl | hy
        · omega
        · exact h1 y hy
theorem sortI_mem {y : Int} : ∀ {xs : List Int}, y ∈ sortI xs ↔ y ∈ xs
  | [] => by simp [sortI]
  | x :: xs => by simp [sortI, insI_mem, sortI_mem (xs := xs)]
theorem sortI_srt : ∀ (xs : List Int), (sortI xs).Pairwise (· < ·)
  | [] => List.Pairwise.nil
  | x :: xs => insI_srt (sortI_srt xs)
theorem srt_ext : ∀ {xs ys : List Int}, xs.Pairwise (· < ·) → ys.Pairwise (· < ·) → (∀ k, k ∈ xs ↔ k ∈ ys) → xs = ys
  | [], [], _, _, _ => rfl
  | [], y :: ys, _, _, h => absurd ((h y).mpr (by simp)) (by simp)
  | x :: xs, [], _, _, h => absurd ((h x).mp (by simp)) (by simp)
  | x :: xs, y :: ys, hx, hy, h => by
    obtain ⟨x1, x2⟩ := List.pairwise_cons.mp hx
    obtain ⟨y1, y2⟩ := List.pairwise_cons.mp hy
    have e : x = y := by
      rcases List.mem_cons.mp ((h x).mp (by simp)) with e | m
      · exact e
      · rcases List.mem_cons.mp ((h y).mpr (by simp)) with e | m'
        · exact e.symm
        · have := x1 y m'
          have := y1 x m
          omega
    subst e
    have : xs = ys := srt_ext x2 y2 fun k => by
      constructor
      · intro hk
        rcases List.mem_cons.mp ((h k).mp (by simp [hk])) with rfl | m
        · exact absurd (x1 k hk) (by omega)
        · exact m
      · intro hk
        rcases List.mem_cons.mp ((h k).mpr (by simp [hk])) with rfl | m
        · exact absurd (y1 k hk) (by omega)
        · exact m
    rw [this]
/-- sorted(set(xs)) -/
def gSortSet (x : D) (S : Store) : Option D := ((asL S x).bind intsD).bind fun ns => if (sortI ns).length < 64 ∧ ns.length < 4000 then some (.lst ((sortI ns).map .int)) else none
theorem setR_size {w : World} {h : Heap} {a : Addr} {f : Int → Bool} {c : Nat} {ns : List Int} (R : SetR w h a f c) (q : ∀ k, f k = true ↔ k ∈ ns) : c = (sortI ns).length := by
  obtain ⟨o, es, ep, t, _, _, _, _, nd, mm, _, _, sz, _⟩ := R
  have nd2 : (sortI ns).Nodup := (sortI_srt ns).imp fun h => by omega
  have pm : (es.toList.map keyOf).Perm (sortI ns) := (List.perm_ext_iff_of_nodup nd nd2).mpr fun k => by rw [sortI_mem, ← q k, mm k]
  have := pm.length_eq
  rw [List.length_map, Array.length_toList] at this
  omega
def rSetI (w : World) (K : PySem.W.Frag) : List V → Hp → VK → Prop := fun xs H Q => ∃ (l : Addr) (ns : List Int), xs = [.ref l] ∧ SqL K H l (ns.map V.int) ∧ ns.length < 4000 ∧ ∀ a f c, H a = none → (∀ k, f k = true ↔ k ∈ ns) → c = (sortI ns).length → Q (.ref a) (upd H a (SetO w a f c))
theorem cr_setI (hc : X.calm = true) : CallR X (.type "set") (rSetI X.w X.K) := by
  intro pins s σ H xs us Q I r h
  obtain ⟨l, ns, rfl, hl, hz, q⟩ := h
  rw [Vals.ref1 r]
  obtain ⟨its, rv, pl, _⟩ := I.list hl
  refine call_setI (P := X.prog) (w := X.w) (ns := ns) (I.ok.hd hc) pl.isList (by simpa using L2.ints_of_vals rv) (by unfold scanBound; omega) fun h' tk x k => ?_
  obtain ⟨f, c, R, q1, q2⟩ := x
  exact ⟨.ref s.heap.objs.size, _, I.laid (t' := tk) k (Nat.le_refl _) (setO_new R), rfl, q _ f c (I.hok.fresh (Nat.le_refl _)) q1 (setR_size R q1)⟩
theorem repL_is {K : PySem.W.Frag} {W : Wd} : ∀ ns : List Int, RepL K W (ns.map .int) (ns.map V.int)
  | [] => repL_nil
  | n :: ns => repL_cons rep_iI (repL_is ns)
/-- one value, then a reading of it -/
def unE (g : D → Store → Option D) (m : EM D) : EM D := fun st S => (m st S).bind fun d S1 => Res.of (g d S1) S1
theorem vq_of {K : PySem.W.Frag} {W : Wd} {Q : VK} {E : XK} {o : Option D} {S : Store} (q : VQ K W Q E (Res.of o S)) : ∃ d, o = some d ∧ VQ K W Q E (.ok d S) := by
  cases o with
  | none => exact q.elim
  | some d => exact ⟨d, rfl, q⟩
variable {e : Expr} {m : EM D} {p p2 pos pos2 : Pos}
theorem de_sortSet (hc : X.calm = true) (g1 : Gl X "sorted") (m1 : X.mg "sorted" = none) (g2 : Gl X "set") (m2 : X.mg "set" = none) (h : DE X Wx e m)
    (he : starEach [e] X.env = (false, eval e X.env) :: starEach [] X.env := by rfl) (hpl : (backTo pos2 (starEach [] X.env)).any (·.1) = false := by rfl)
    (he2 : starEach [.Call (.Name "set" p2) [e] [] pos2] X.env = (false, eval (.Call (.Name "set" p2) [e] [] pos2) X.env) :: starEach [] X.env := by rfl) (hpl2 : (backTo pos (starEach [] X.env)).any (·.1) = false := by rfl) :
    DE X Wx (.Call (.Name "sorted" p) [.Call (.Name "set" p2) [e] [] pos2] [] pos) (unE gSortSet m) := by
  refine de_of (pe_callB (cr_sortedSet hc) g1 m1 (by decide +kernel) (pa_cons (pe_callTy (cr_setI hc) g2 m2 (by decide +kernel) (pa_cons h.p pa_nil he) (by decide) (by decide) he hpl) pa_nil he2) (by decide) (by decide) he2 hpl2) fun W st S σ Q at_ q => ?_
  show tD X.K Wx m σ W.H fun v H1 => rSetI X.w X.K [v] H1 fun v2 H2 => rSortedSet X.w [v2] H2 Q
  refine goE at_ q fun W1 d S1 v l a1 r q1 => ?_
  obtain ⟨x, hx, q2⟩ := vq_of q1
  unfold gSortSet at hx
  cases h1 : asL S1 d with
  | none => rw [h1] at hx; cases hx
  | some xs =>
    rw [h1] at hx
    cases h2 : intsD xs with
    | none => simp [h2] at hx
    | some ns =>
      simp only [Option.bind_some, h2] at hx
      split at hx
      · rename_i hz
        cases hx
        obtain ⟨b, vs, rfl, sq, rl⟩ := asL_rep a1.s r h1
        obtain rfl := ints_rep rl h2
        refine ⟨b, ns, rfl, sq, hz.2, fun a f c ha hf hcn => ⟨a, f, c, rfl, upd_same, by omega, fun out y po pm hl hy => ?_⟩⟩
        have e : out = sortI ns := srt_ext po (sortI_srt ns) fun k => by rw [pm k, hf k, sortI_mem]
        subst e
        exact new_lst (W := W1.put a (SetO X.w a f c)) (a1.s.put ha) (repL_is _) (VQ.mono (Wd.put_le ha) q2) y hy
      · cases hx
end
end KF

set_option Elab.async false
set_option linter.all false
set_option maxRecDepth 100000
set_option maxHeartbeats 4000000
/-! KGO: zip, list(range(..)), min, max, bool. -/
namespace KF
open PySem PySem.Spec PyProof.Rows L2 RZ
/-! ### zip -/
def zipD : List D → List D → List D
  | x :: xs, y :: ys => .tup [x, y] :: zipD xs ys
  | _, _ => []
theorem zipD_len : ∀ xs ys : List D, (zipD xs ys).length = min xs.length ys.length
  | [], _ => by simp [zipD]
  | _ :: _, [] => by simp [zipD]
  | x :: xs, y :: ys => by simp only [zipD, List.length_cons, zipD_len xs ys]; omega
theorem zipD_get : ∀ (xs ys : List D) (i : Nat) (d : D), (zipD xs ys)[i]? = some d → ∃ x y, xs[i]? = some x ∧ ys[i]? = some y ∧ d = .tup [x, y]
  | [], _, i, d, h => by simp [zipD] at h
  | _ :: _, [], i, d, h => by simp [zipD] at h
  | x :: xs, y :: ys, 0, d, h => by
    simp [zipD] at h
    exact ⟨x, y, rfl, rfl, h.symm⟩
  | x :: xs, y :: ys, i + 1, d, h => by
    simp only [zipD, List.getElem?_cons_succ] at h
    simpa using zipD_get xs ys i d h
def zipR (d e : D) (S : Store) : Res (List D) := match d, e with
  | .tup xs, .tup ys => .ok (zipD xs ys) S
  | .lst xs, .lst ys => .ok (zipD xs ys) S
  | _, _ => .bad
def zipE (m n : EM D) : EM (List D) := fun st S => (m st S).bind fun d S1 => (n st S1).bind fun e S2 => zipR d e S2
theorem wk_zip {K : PySem.W.Frag} {W1 : Wd} {J : It} {vs us : List V} {ds es : List D} {G : Hp → Prop} (w : Walk J (min vs.length us.length) G (YPairF (fun i => vs[i]?) (fun i => us[i]?))) (hq : ∀ W2, W1.ev W2 → G W2.H) (r : RepL K W1 ds vs) (r' : RepL K W1 es us) : Wk K W1 J (zipD ds es) := by
  refine ⟨G, _, by rw [zipD_len, r.length, r'.length]; exact w, hq, fun W2 S2 i x H' d l s e y => ?_⟩
  obtain ⟨T, o, a, b, rfl, hT, ho, rfl, ea, eb⟩ := y
  obtain ⟨z, z', h1, h2, rfl⟩ := zipD_get _ _ _ _ e
  obtain ⟨v, h3, h4⟩ := r.get h1
  obtain ⟨v', h5, h6⟩ := r'.get h2
  have ea' : vs[i]? = some a := ea
  have eb' : us[i]? = some b := eb
  rw [h3] at ea'
  rw [h5] at eb'
  cases ea'
  cases eb'
  have l3 : W2.le (W2.put T (.frz o (.tup [a, b]))) := Wd.put_le hT
  refine ⟨W2.put T (.frz o (.tup [a, b])), rfl, l3, s.put hT, ?_⟩
  simp only [Rep]
  exact ⟨T, _, rfl, .inl ⟨⟨o, upd_same, ho⟩, s.noM hT⟩, repL_cons ((h4.monoE l _ _).mono l3 _ _) (repL_cons ((h6.monoE l _ _).mono l3 _ _) repL_nil)⟩
/-! ### min, max of a list -/
def gMinL (x : D) (S : Store) : Option D := ((asL S x).bind intsD).bind fun ns => match ns with | [] => none | n :: r => some (.int (r.foldl min n))
def gMaxL (x : D) (S : Store) : Option D := ((asL S x).bind intsD).bind fun ns => match ns with | [] => none | n :: r => some (.int (r.foldl max n))
theorem foldl_min : ∀ (r : List Int) (n m : Int), m ∈ n :: r → (∀ y ∈ n :: r, m ≤ y) → r.foldl min n = m
  | [], n, m, h, _ => by simpa using (List.mem_singleton.mp h).symm
  | x :: r, n, m, h, k => by
    refine foldl_min r (min n x) m ?_ fun y hy => ?_
    · have h1 := k n (by simp)
      have h2 := k x (by simp)
      rcases List.mem_cons.mp h with rfl | h
      · exact List.mem_cons.mpr (.inl (by omega))
      · rcases List.mem_cons.mp h with rfl | h
        · exact List.mem_cons.mpr (.inl (by omega))
        · exact List.mem_cons.mpr (.inr h)
    · rcases List.mem_cons.mp hy with rfl | hy
      · have h1 := k n (by simp)
        have h2 := k x (by simp)
        omega
      · exact k y (by simp [hy])
theorem foldl_max : ∀ (r : List Int) (n m : Int), m ∈ n :: r → (∀ y ∈ n :: r, y ≤ m) → r.foldl max n = m
  | [], n, m, h, _ => by simpa using (List.mem_singleton.mp h).symm
  | x :: r, n, m, h, k => by
    refine foldl_max r (max n x) m ?_ fun y hy => ?_
    · have h1 := k n (by simp)
      have h2 := k x (by simp)
      rcases List.mem_cons.mp h with rfl | h
      · exact List.mem_cons.mpr (.inl (by omega))
      · rcases List.mem_cons.mp h with rfl | h
        · exact List.mem_cons.mpr (.inl (by omega))
        · exact List.mem_cons.mpr (.inr h)
    · rcases List.mem_cons.mp hy with rfl | hy
      · have h1 := k n (by simp)
        have h2 := k x (by simp)
        omega
      · exact k y (by simp [hy])
section
variable {X : Cx}
theorem intsL_of {K : PySem.W.Frag} {W : Wd} {S : Store} {x : D} {v : V} {f : List Int → Option D} {d : D} (s : SRep K W S) (r : Rep K W x v) (e : ((asL S x).bind intsD).bind f = some d) : ∃ p ns, v = .ref p ∧ SqL K W.H p (ns.map V.int) ∧ f ns = some d := by
  cases h1 : asL S x with
  | none => rw [h1] at e; cases e
  | some xs =>
    rw [h1] at e
    cases h2 : intsD xs with
    | none => simp [h2] at e
    | some ns =>
      simp only [Option.bind_some, h2] at e
      obtain ⟨p, vs, rfl, q, rl⟩ := asL_rep s r h1
      obtain rfl := ints_rep rl h2
      exact ⟨p, ns, rfl, q, e⟩
theorem call_minL (hc : X.calm = true) : CallD X (.builtin "min") (g1 gMinL) := by
  refine call1 (cr_min hc) fun W S x d v Q s rx e k => ?_
  obtain ⟨p, ns, rfl, q, e⟩ := intsL_of s rx e
  cases ns with
  | nil => cases e
  | cons n r =>
    cases e
    exact ⟨p, n :: r, rfl, q, by simp, fun m h1 h2 => by rw [← foldl_min r n m h1 h2]; exact k W _ (.refl W) s rep_iI⟩
theorem call_maxL (hc : X.calm = true) : CallD X (.builtin "max") (g1 gMaxL) := by
  refine call1 (cr_max hc) fun W S x d v Q s rx e k => ?_
  obtain ⟨p, ns, rfl, q, e⟩ := intsL_of s rx e
  cases ns with
  | nil => cases e
  | cons n r =>
    cases e
    exact ⟨p, n :: r, rfl, q, by simp, fun m h1 h2 => by rw [← foldl_max r n m h1 h2]; exact k W _ (.refl W) s rep_iI⟩
/-! ### list(range(n)), sorted -/
def gListR (x : D) (_ : Store) : Option D := match x with
  | .int n => if -(2 ^ 62) ≤ n ∧ n ≤ 16777216 then some (.lst ((List.range n.toNat).map fun (i : Nat) => .int i)) else none
  | _ => none
variable {Wx : WX} {e : Expr} {m : EM D} {p p2 pos pos2 : Pos}
theorem de_listR (hc : X.calm = true) (g1 : Gl X "list") (m1 : X.mg "list" = none) (g2 : Gl X "range") (m2 : X.mg "range" = none) (h : DE X Wx e m) (he : starEach [e] X.env = (false, eval e X.env) :: starEach [] X.env := by rfl)
    (he2 : starEach [.Call (.Name "range" p2) [e] [] pos2] X.env = (false, eval (.Call (.Name "range" p2) [e] [] pos2) X.env) :: starEach [] X.env := by rfl) :
    DE X Wx (.Call (.Name "list" p) [.Call (.Name "range" p2) [e] [] pos2] [] pos) (unE gListR m) := by
  refine de_of (pe_listRg hc g1 m1 (prg_1 g2 m2 h.p he) he2) fun W st S σ Q at_ q => ?_
  refine goE at_ q fun W1 d S1 v l a1 r q1 => ?_
  obtain ⟨x, hx, q2⟩ := vq_of q1
  cases d <;> simp only [gListR] at hx <;> try cases hx
  rename_i n
  split at hx
  · rename_i hz
    cases hx
    obtain rfl := rep_i r
    refine ⟨n, rfl, ⟨by decide, by decide, hz.1, by omega, by omega⟩, fun y hy => ?_⟩
    have e : rgV 0 n = ((List.range n.toNat).map fun (i : Nat) => V.int i) := by unfold rgV; simp
    rw [e]
    refine new_lst a1.s ?_ q2 y hy
    have := repL_is (K := X.K) (W := W1) ((List.range n.toNat).map fun (i : Nat) => (i : Int))
    rw [List.map_map, List.map_map] at this
    exact this
  · cases hx
end
/-! ### a def that calls itself: at depth 0 nothing is promised -/
theorem fn_bad {P : Program} {w : World} {K : PySem.W.Frag} {mg : Str → Option Value} {base : Heap} {k : Nat} {f : Addr} {fd : FuncData} {ps : List Str} {n : Nat} {m : List D → Store → Res D} (hn : ps.length = n) (h : ∀ ds S, m ds S = .bad) : FnG P w K mg base k f fd ps (spD K m n) :=
  ⟨fun vs H Q E ⟨W, ds, S0, _, _, _, _, q⟩ => by rw [h] at q; exact q.elim, fun A outer s H args us vs Q E _ _ _ _ _ ⟨W, ds, S0, _, _, _, _, q⟩ => by rw [h] at q; exact q.elim⟩
end KF

set_option linter.all false
set_option maxRecDepth 100000
/-! KX: comprehensions, item by item. -/
namespace KF
open PySem L2
/-- what a comprehension does with an item -/
def lcBody (g : TP) (t : EM Bool) (m : EM D) (st : DSt) : D → Store → Res (Option D) := fun d S => match g d st with
  | some st1 => (t st1 S).bind fun b S2 => if b then (m st1 S2).bind fun y S3 => .ok (some y) S3 else .ok none S2
  | none => .bad
section
variable {γ : Type} {mi : EM (List D)} {g : TP} {t : EM Bool} {m : EM D} {vs : List Nat} {st : DSt} {S S1 : Store} {e : γ → D}
theorem lcBody_ok {d : D} {o : Option D} (h : lcBody g t m st d S = .ok o S) : ∃ st1, g d st = some st1 ∧ ((∃ y, o = some y ∧ t st1 S = .ok true S ∧ m st1 S = .ok y S) ∨ (o = none ∧ t st1 S = .ok false S) ∨ ∃ S2 b, t st1 S = .ok b S2) := by
  unfold lcBody at h
  cases hg : g d st with
  | none => rw [hg] at h; cases h
  | some st1 =>
    rw [hg] at h
    refine ⟨st1, rfl, ?_⟩
    simp only at h
    cases ht : t st1 S with
    | bad => rw [ht] at h; cases h
    | err x S2 => rw [ht] at h; cases h
    | ok b S2 => exact .inr (.inr ⟨S2, b, rfl⟩)
theorem lcL_body (p : γ → Bool) (f : γ → D) : ∀ (xs : List γ) {S : Store}, (∀ x ∈ xs, lcBody g t m st (e x) S = .ok (if p x then some (f x) else none) S) → lcL g t m (xs.map e) st S = .ok ((xs.filter p).map f) S
  | [], S, h => rfl
  | x :: xs, S, h => by
    have ih := lcL_body p f xs fun y hy => h y (by simp [hy])
    have hx := h x (by simp)
    unfold lcBody at hx
    simp only [List.map_cons, lcL]
    cases hg : g (e x) st with
    | none => rw [hg] at hx; cases hx
    | some st1 =>
      rw [hg] at hx
      simp only at hx ⊢
      cases ht : t st1 S with
      | bad => rw [ht] at hx; cases hx
      | err z S2 => rw [ht] at hx; cases hx
      | ok b S2 =>
        rw [ht] at hx
        cases b with
        | false =>
          have hx' : Res.ok none S2 = .ok (if p x then some (f x) else none) S := hx
          cases hp : p x with
          | true => rw [hp] at hx'; cases hx'
          | false =>
            rw [hp] at hx'
            cases hx'
            simp [hp, ih]
        | true =>
          have hx' : ((m st1 S2).bind fun y S3 => Res.ok (some y) S3) = .ok (if p x then some (f x) else none) S := hx
          cases hm : m st1 S2 with
          | bad => rw [hm] at hx'; cases hx'
          | err z S3 => rw [hm] at hx'; cases hx'
          | ok y S3 =>
            rw [hm] at hx'
            have hx'' : Res.ok (some y) S3 = .ok (if p x then some (f x) else none) S := hx'
            cases hp : p x with
            | false => rw [hp] at hx''; cases hx''
            | true =>
              rw [hp] at hx''
              cases hx''
              simp only [hm, bind_ok, ih, List.filter_cons, hp, if_true, List.map_cons]
theorem lc_ok (xs : List γ) (p : γ → Bool) (f : γ → D) (hm : mi st S = .ok (xs.map e) S1) (hz : xs.length ≤ 100000) (h : ∀ x ∈ xs, lcBody g t m (wipeD st vs) (e x) S1 = .ok (if p x then some (f x) else none) S1) :
    lcE mi g t m vs st S = .ok (.lst ((xs.filter p).map f)) S1 := by
  unfold lcE
  rw [hm]
  show (if (xs.map e).length ≤ sizeLine then _ else _) = _
  rw [if_pos (by rw [sizeLine_eq, List.length_map]; omega), lcL_body p f xs h]
  rfl
theorem lc_all (xs : List γ) (f : γ → D) (hm : mi st S = .ok (xs.map e) S1) (hz : xs.length ≤ 100000) (h : ∀ x ∈ xs, lcBody g yesT m (wipeD st vs) (e x) S1 = .ok (some (f x)) S1) :
    lcE mi g yesT m vs st S = .ok (.lst (xs.map f)) S1 := by
  rw [lc_ok xs (fun _ => true) f hm hz (fun x hx => by rw [h x hx]; rfl), List.filter_eq_self.mpr (by simp)]
variable {d a b c : D} {i j k : Nat}
@[simp] theorem lcb_n : lcBody (nameP i) t m st d S = (t (st.set i (some (.v d))) S).bind fun b S2 => if b then (m (st.set i (some (.v d))) S2).bind fun y S3 => .ok (some y) S3 else .ok none S2 := rfl
@[simp] theorem lcb_2 : lcBody (tupP 2 (consP (nameP i) (consP (nameP j) nilP))) t m st (.tup [a, b]) S = (t ((st.set i (some (.v a))).set j (some (.v b))) S).bind fun q S2 => if q then (m ((st.set i (some (.v a))).set j (some (.v b))) S2).bind fun y S3 => .ok (some y) S3 else .ok none S2 := rfl
@[simp] theorem lcb_12 : lcBody (tupP 2 (consP (nameP i) (consP (tupP 2 (consP (nameP j) (consP (nameP k) nilP))) nilP))) t m st (.tup [a, .tup [b, c]]) S = (t (((st.set i (some (.v a))).set j (some (.v b))).set k (some (.v c))) S).bind fun q S2 => if q then (m (((st.set i (some (.v a))).set j (some (.v b))).set k (some (.v c))) S2).bind fun y S3 => .ok (some y) S3 else .ok none S2 := rfl
@[simp] theorem lcb_21 : lcBody (tupP 2 (consP (tupP 2 (consP (nameP i) (consP (nameP j) nilP))) (consP (nameP k) nilP))) t m st (.tup [.tup [a, b], c]) S = (t (((st.set i (some (.v a))).set j (some (.v b))).set k (some (.v c))) S).bind fun q S2 => if q then (m (((st.set i (some (.v a))).set j (some (.v b))).set k (some (.v c))) S2).bind fun y S3 => .ok (some y) S3 else .ok none S2 := rfl
@[simp] theorem wipe_0 : wipeD st [] = st := rfl
@[simp] theorem wipe_s {v : Nat} {vs : List Nat} : wipeD st (v :: vs) = (wipeD st vs).set v none := rfl
@[simp] theorem yes_T : yesT st S = .ok true S := rfl
@[simp] theorem ev_un {g : D → Store → Option D} {m : EM D} : unE g m st S = (m st S).bind fun d S1 => .of (g d S1) S1 := rfl
@[simp] theorem ei_zip {m n : EM D} : zipE m n st S = (m st S).bind fun d S1 => (n st S1).bind fun e S2 => zipR d e S2 := rfl
end
section
variable {α β : Type} {S : Store}
theorem zipD_map {e : α → D} {f : β → D} : ∀ (xs : List α) (ys : List β), zipD (xs.map e) (ys.map f) = (xs.zip ys).map fun p => .tup [e p.1, f p.2]
  | [], _ => by simp [zipD]
  | _ :: _, [] => by simp [zipD]
  | x :: xs, y :: ys => by simp [zipD, zipD_map xs ys]
theorem zip_T {e : α → D} {f : β → D} {xs : List α} {ys : List β} : zipR (.tup (xs.map e)) (.tup (ys.map f)) S = .ok ((xs.zip ys).map fun p => .tup [e p.1, f p.2]) S := by
  show Res.ok (zipD _ _) S = _
  rw [zipD_map]
theorem zip_L {e : α → D} {f : β → D} {xs : List α} {ys : List β} : zipR (.lst (xs.map e)) (.lst (ys.map f)) S = .ok ((xs.zip ys).map fun p => .tup [e p.1, f p.2]) S := by
  show Res.ok (zipD _ _) S = _
  rw [zipD_map]
theorem intsD_map : ∀ xs : List Int, intsD (xs.map .int) = some xs
  | [] => rfl
  | x :: xs => by simp [intsD, intsD_map xs]
theorem sum_L {xs : List Int} : gSum (.lst (xs.map .int)) S = some (.int xs.sum) := by
  show (intsD (xs.map .int)).map (fun ns => D.int ns.sum) = _
  rw [intsD_map]; rfl
theorem minL_L {x : Int} {xs : List Int} : gMinL (.lst ((x :: xs).map .int)) S = some (.int (xs.foldl min x)) := by
  show ((intsD ((x :: xs).map .int)).bind _) = _
  rw [intsD_map]; rfl
theorem maxL_L {x : Int} {xs : List Int} : gMaxL (.lst ((x :: xs).map .int)) S = some (.int (xs.foldl max x)) := by
  show ((intsD ((x :: xs).map .int)).bind _) = _
  rw [intsD_map]; rfl
theorem sset_L {xs : List Int} (h : (sortI xs).length < 64) (h2 : xs.length < 4000) : gSortSet (.lst (xs.map .int)) S = some (.lst ((sortI xs).map .int)) := by
  show ((intsD (xs.map .int)).bind _) = _
  rw [intsD_map]
  show (if (sortI xs).length < 64 ∧ xs.length < 4000 then _ else _) = _
  rw [if_pos ⟨h, h2⟩]
end
end KF

set_option Elab.async false
set_option linter.all false
set_option maxRecDepth 100000
set_option maxHeartbeats 4000000
/-! KZ: zip of a tuple and a list, either way round. -/
namespace KF
open PySem PySem.Spec PyProof.Rows L2 RZ
section
variable {P : Program} {w : World} {A : Around} {E : Value → Shared → Prop} {s : Shared} {i1 i2 z TI TO : Addr} {fp1 fp2 : List Addr} {n1 n2 k : Nat} {P1 P2 : Nat → Value → Prop} {St1 St2 : Nat → Heap → Prop}
/-- nothing of a zip and its two iterators meets -/
structure Zap (z TI TO i1 i2 : Addr) (fp1 fp2 : List Addr) : Prop where
  a : TI ≠ z ∧ TO ≠ z ∧ TI ≠ TO
  b : i1 ≠ z ∧ i2 ≠ z ∧ i1 ≠ TO ∧ i2 ≠ TO ∧ i1 ≠ TI ∧ i2 ≠ TI ∧ i1 ≠ i2
  f1 : z ∉ fp1 ∧ TO ∉ fp1 ∧ i2 ∉ fp1
  f2 : z ∉ fp2 ∧ TO ∉ fp2 ∧ i1 ∉ fp2
theorem fr_but {it b : Addr} {fp : List Addr} {n : Nat} {Pv : Nat → Value → Prop} {St : Nat → Heap → Prop} (D : Draws P w A it fp n Pv St) {i : Nat} {h h' : Heap} (x : St i h) (sb : Heap.SameBut b h h') (hb : b ∉ fp) : St i h' :=
  D.frame _ _ _ x fun c hc o e => (sb.2 c fun q => hb (q ▸ hc)).trans e
/-- one turn: an item of each -/
theorem zip_turn {x0 y0 : Value} {Q : Value → Shared → Prop} (D1 : Draws P w A i1 fp1 n1 P1 St1) (D2 : Draws P w A i2 fp2 n2 P2 St2) (X : Zap z TI TO i1 i2 fp1 fp2)
    (hz : IsZip s.heap z TI TO .none) (hI : IsPair s.heap TI (.ref i1) (.ref i2)) (hO : IsPair s.heap TO x0 y0) (s1 : St1 k s.heap) (s2 : St2 k s.heap) (l1 : k < n1) (l2 : k < n2)
    (q : ∀ x y h' tk, P1 k x → P2 k y → IsZip h' z TI TO (rawInt s.heap.objs.size) → IsPair h' TO x y → St1 (k + 1) h' → St2 (k + 1) h' → IsPair h' s.heap.objs.size x y →
      (∀ c o, c ≠ z → c ≠ TO → c ≠ i1 → c ≠ i2 → s.heap.get? c = some o → h'.get? c = some o) → Q (.ref s.heap.objs.size) { s with heap := h', toks := tk }) :
    wpAny (model P w) A (Builtin.«zip.__next__» ⟨[.ref z], []⟩) (fun fin s' => ∃ v, fin = .done (.ret v) ∧ Q v s') E s := by
  (show wpAny _ _ (field (.ref z) 2 >>= _) _ _ _); refine wpAny_bind (wpAny_field hz rfl (x := .bool false) rfl ?_)
  (show wpAny _ _ (field (.ref z) 3 >>= _) _ _ _); refine wpAny_bind (wpAny_field hz rfl (x := .ref TI) rfl (wpAny_bind (wpAny_seqItems hI rfl ?_)))
  (show wpAny _ _ (Builtin.SmallTypes.ownedTupleIsFree (.ref z) >>= _) _ _ _); refine wpAny_bind ?_; unfold Builtin.SmallTypes.ownedTupleIsFree
  refine wpAny_bind (wpAny_field hz rfl (x := .none) rfl (wpAny_pure ?_)); simp only [if_true]
  refine wpAny_bind (wpAny_rule (wpAny_bind (wpAny_field hz rfl (x := .ref TO) rfl (wpAny_bind (wpAny_setField_rec hz (by simp) fun ha za sa => ?_)))))
  replace za : IsZip ha z TI TO .ellipsis := za
  refine wpAny_bind ?_; simp only [List.zipIdx_cons, List.zipIdx_nil, List.forIn_cons, List.forIn_nil]
  refine wpAny_bind (wpAny_bind (wpAny_onRaise ?_)); (show wpAny _ _ (Builtin.SmallTypes.nextOf (.ref i1) >>= _) _ _ _)
  refine wpAny_bind (D1.item k _ _ _ l1 (fr_but D1 s1 sa X.f1.1) fun x hb tb px s1b sb => wpAny_pure ?_)
  have ob : IsPair hb TO x0 y0 := sb.extBut _ _ (Ne.symm X.b.2.2.1) (sa.extBut _ _ X.a.2.1 hO)
  refine wpAny_bind (wpAny_seqItems ob rfl (wpAny_bind (wpAny_updateSeq_pair ob fun hc oc sc => ?_)))
  replace oc : IsPair hc TO x y0 := oc
  refine wpAny_bind (wpAny_letGo (wpAny_pure ?_)); refine wpAny_bind (wpAny_bind (wpAny_onRaise ?_)); (show wpAny _ _ (Builtin.SmallTypes.nextOf (.ref i2) >>= _) _ _ _)
  refine wpAny_bind (D2.item k _ _ _ l2 (fr_but D2 (fr_but D2 (fr_but D2 s2 sa X.f2.1) sb X.f2.2.2) sc X.f2.2.1) fun y hd td py s2d sd => wpAny_pure ?_)
  have od : IsPair hd TO x y0 := sd.extBut _ _ (Ne.symm X.b.2.2.2.1) oc
  refine wpAny_bind (wpAny_seqItems od rfl (wpAny_bind (wpAny_updateSeq_pair od fun he oe se => ?_)))
  replace oe : IsPair he TO x y := oe
  refine wpAny_bind (wpAny_letGo (wpAny_pure (wpAny_pure ?_))); refine wpAny_bind (wpAny_seqItems oe rfl (wpAny_bind (wpAny_newTuple ?_)))
  have hs : he.objs.size = s.heap.objs.size := by rw [se.1, sd.1, sc.1, sb.1, sa.1]
  have ze : IsZip he z TI TO .ellipsis := se.extBut _ _ (Ne.symm X.a.2.1) (sd.extBut _ _ (Ne.symm X.b.2.1) (sc.extBut _ _ (Ne.symm X.a.2.1) (sb.extBut _ _ (Ne.symm X.b.1) za)))
  have kp : ∀ c o, c ≠ z → c ≠ TO → c ≠ i1 → c ≠ i2 → s.heap.get? c = some o → he.get? c = some o := fun c o c1 c2 c3 c4 e => se.extBut _ _ c2 (sd.extBut _ _ c4 (sc.extBut _ _ c2 (sb.extBut _ _ c3 (sa.extBut _ _ c1 e))))
  have s1e : St1 (k + 1) he := fr_but D1 (fr_but D1 (fr_but D1 s1b sc X.f1.2.1) sd X.f1.2.2) se X.f1.2.1
  have s2e : St2 (k + 1) he := fr_but D2 s2d se X.f2.2.1
  have zl : z < he.objs.size := Heap.lt_size ze
  (show wpAny _ _ (Builtin.SmallTypes.ownedTupleHandOut (.ref z) (.ref he.objs.size) >>= _) _ _ _); refine wpAny_bind ?_; unfold Builtin.SmallTypes.ownedTupleHandOut
  have zf : IsZip (he.push { cls := .type "tuple", data := .seq #[x, y] }) z TI TO .ellipsis := Heap.get?_push_of_some _ ze
  refine wpAny_bind (wpAny_setField_rec zf (by simp) fun hg zg sg => ?_); replace zg : IsZip hg z TI TO (rawInt he.objs.size) := zg
  refine wpAny_setField_rec zg (by simp) fun hi zi si => ?_; replace zi : IsZip hi z TI TO (rawInt he.objs.size) := zi
  have up : ∀ c o, c ≠ z → he.get? c = some o → hi.get? c = some o := fun c o c1 e => si.extBut _ _ c1 (sg.extBut _ _ c1 (Heap.get?_push_of_some _ e))
  have pt : IsPair hi he.objs.size x y := si.extBut _ _ (Nat.ne_of_gt zl) (sg.extBut _ _ (Nat.ne_of_gt zl) (Heap.get?_push_size _ rfl))
  rw [hs] at zi pt
  refine wpAny_pure ⟨_, rfl, ?_⟩; (show Q (.ref he.objs.size) _); rw [hs]
  exact q x y hi _ px py zi (up _ _ X.a.2.1 oe) (D1.frame _ _ _ s1e fun b hb o e => up b o (fun q => X.f1.1 (q ▸ hb)) e) (D2.frame _ _ _ s2e fun b hb o e => up b o (fun q => X.f2.1 (q ▸ hb)) e) pt fun c o c1 c2 c3 c4 e => up c o c1 (kp c o c1 c2 c3 c4 e)
/-- the end: one of both is at its end -/
theorem zip_over {x0 y0 : Value} {Q : Fin → Shared → Prop} (D1 : Draws P w A i1 fp1 n1 P1 St1) (D2 : Draws P w A i2 fp2 n2 P2 St2) (X : Zap z TI TO i1 i2 fp1 fp2)
    (hz : IsZip s.heap z TI TO .none) (hI : IsPair s.heap TI (.ref i1) (.ref i2)) (hO : IsPair s.heap TO x0 y0) (s1 : St1 k s.heap) (s2 : St2 k s.heap) (l : k = n1 ∨ (k < n1 ∧ k = n2))
    (q : ∀ h' tk e, (∀ c o, c ≠ z → c ≠ TO → c ≠ i1 → c ≠ i2 → s.heap.get? c = some o → h'.get? c = some o) → (∃ o, h'.get? e = some o ∧ o.cls = .type "StopIteration") → E (.ref e) { s with heap := h', toks := tk }) :
    wpAny (model P w) A (Builtin.«zip.__next__» ⟨[.ref z], []⟩) Q E s := by
  (show wpAny _ _ (field (.ref z) 2 >>= _) _ _ _); refine wpAny_bind (wpAny_field hz rfl (x := .bool false) rfl ?_)
  (show wpAny _ _ (field (.ref z) 3 >>= _) _ _ _); refine wpAny_bind (wpAny_field hz rfl (x := .ref TI) rfl (wpAny_bind (wpAny_seqItems hI rfl ?_)))
  (show wpAny _ _ (Builtin.SmallTypes.ownedTupleIsFree (.ref z) >>= _) _ _ _); refine wpAny_bind ?_; unfold Builtin.SmallTypes.ownedTupleIsFree
  refine wpAny_bind (wpAny_field hz rfl (x := .none) rfl (wpAny_pure ?_)); simp only [if_true]
  refine wpAny_bind (wpAny_rule (wpAny_bind (wpAny_field hz rfl (x := .ref TO) rfl (wpAny_bind (wpAny_setField_rec hz (by simp) fun ha za sa => ?_)))))
  replace za : IsZip ha z TI TO .ellipsis := za
  refine wpAny_bind ?_; simp only [List.zipIdx_cons, List.zipIdx_nil, List.forIn_cons, List.forIn_nil]
  refine wpAny_bind (wpAny_bind (wpAny_onRaise ?_)); (show wpAny _ _ (Builtin.SmallTypes.nextOf (.ref i1) >>= _) _ _ _)
  rcases l with rfl | ⟨l1, rfl⟩
  · refine wpAny_bind (D1.done _ _ _ (fr_but D1 s1 sa X.f1.1) fun hb e sb ⟨oe, he, ce⟩ => ?_)
    have zb : IsZip hb z TI TO .ellipsis := sb _ _ (Ne.symm X.b.1) za
    have ez : e ≠ z := fun x => by subst x; rw [zb] at he; cases he; simp at ce
    exact wpAny_setField_rec zb (by simp) fun hc _ sc => q hc _ e (fun c o c1 _ c3 _ x => sc.extBut _ _ c1 (sb _ _ c3 (sa.extBut _ _ c1 x))) ⟨oe, sc.extBut _ _ ez he, ce⟩
  · refine wpAny_bind (D1.item k _ _ _ l1 (fr_but D1 s1 sa X.f1.1) fun x hb tb px s1b sb => wpAny_pure ?_)
    have ob : IsPair hb TO x0 y0 := sb.extBut _ _ (Ne.symm X.b.2.2.1) (sa.extBut _ _ X.a.2.1 hO)
    refine wpAny_bind (wpAny_seqItems ob rfl (wpAny_bind (wpAny_updateSeq_pair ob fun hc oc sc => ?_)))
    refine wpAny_bind (wpAny_letGo (wpAny_pure ?_)); refine wpAny_bind (wpAny_bind (wpAny_onRaise ?_)); (show wpAny _ _ (Builtin.SmallTypes.nextOf (.ref i2) >>= _) _ _ _)
    refine wpAny_bind (D2.done _ _ _ (fr_but D2 (fr_but D2 (fr_but D2 s2 sa X.f2.1) sb X.f2.2.2) sc X.f2.2.1) fun hd e sd ⟨oe, he, ce⟩ => ?_)
    have zd : IsZip hd z TI TO .ellipsis := sd _ _ (Ne.symm X.b.2.1) (sc.extBut _ _ (Ne.symm X.a.2.1) (sb.extBut _ _ (Ne.symm X.b.1) za))
    have ez : e ≠ z := fun x => by subst x; rw [zd] at he; cases he; simp at ce
    exact wpAny_setField_rec zd (by simp) fun hf _ sf => q hf _ e (fun c o c1 c2 c3 c4 x => sf.extBut _ _ c1 (sd _ _ c4 (sc.extBut _ _ c2 (sb.extBut _ _ c3 (sa.extBut _ _ c1 x))))) ⟨oe, sf.extBut _ _ ez he, ce⟩
theorem pyNext_turn {x0 y0 : Value} {Q : Option Value → Shared → Prop} (D1 : Draws P w A.in1 i1 fp1 n1 P1 St1) (D2 : Draws P w A.in1 i2 fp2 n2 P2 St2) (X : Zap z TI TO i1 i2 fp1 fp2)
    (hz : IsZip s.heap z TI TO .none) (hI : IsPair s.heap TI (.ref i1) (.ref i2)) (hO : IsPair s.heap TO x0 y0) (s1 : St1 k s.heap) (s2 : St2 k s.heap) (l1 : k < n1) (l2 : k < n2)
    (q : ∀ x y h' tk, P1 k x → P2 k y → IsZip h' z TI TO (rawInt s.heap.objs.size) → IsPair h' TO x y → St1 (k + 1) h' → St2 (k + 1) h' → IsPair h' s.heap.objs.size x y →
      (∀ c o, c ≠ z → c ≠ TO → c ≠ i1 → c ≠ i2 → s.heap.get? c = some o → h'.get? c = some o) → Q (some (.ref s.heap.objs.size)) { s with heap := h', toks := tk }) :
    wpAny (model P w) A (pyNext (.ref z)) Q E s := by
  have hT : s.TypeIs (.ref z) "zip" := ⟨_, hz, rfl⟩
  unfold pyNext
  exact wpAny_bind (wpAny_attempt (wpAny_callSpecial?_slot (name := Str.ofString "__next__") hT F.slot_zip_next (wpAny_call_entry F.slot_zip_next hT F.entry_zip_next (zip_turn D1 D2 X hz hI hO s1 s2 l1 l2 fun x y h' tk a1 a2 a3 a4 a5 a6 a7 a8 => wpAny_pure (q x y h' tk a1 a2 a3 a4 a5 a6 a7 a8)) (F.args_zip_next_1 _))))
theorem pyNext_over {x0 y0 : Value} {Q : Option Value → Shared → Prop} (D1 : Draws P w A.in1 i1 fp1 n1 P1 St1) (D2 : Draws P w A.in1 i2 fp2 n2 P2 St2) (X : Zap z TI TO i1 i2 fp1 fp2)
    (hz : IsZip s.heap z TI TO .none) (hI : IsPair s.heap TI (.ref i1) (.ref i2)) (hO : IsPair s.heap TO x0 y0) (s1 : St1 k s.heap) (s2 : St2 k s.heap) (l : k = n1 ∨ (k < n1 ∧ k = n2))
    (q : ∀ h' tk, (∀ c o, c ≠ z → c ≠ TO → c ≠ i1 → c ≠ i2 → s.heap.get? c = some o → h'.get? c = some o) → Q none { s with heap := h', toks := tk }) : wpAny (model P w) A (pyNext (.ref z)) Q E s := by
  have hT : s.TypeIs (.ref z) "zip" := ⟨_, hz, rfl⟩
  unfold pyNext
  refine wpAny_bind (wpAny_attempt (wpAny_callSpecial?_slot (name := Str.ofString "__next__") hT F.slot_zip_next (wpAny_call_entry F.slot_zip_next hT F.entry_zip_next (zip_over D1 D2 X hz hI hO s1 s2 l fun h' tk e kp ⟨o, ho, hc⟩ => ?_) (F.args_zip_next_1 _))))
  exact wpAny_bind (wpAny_isInstance (T := "StopIteration") (b := true) ⟨o, ho, hc⟩ isSubtype_stop (wpAny_pure (q _ _ kp)))
end
abbrev zG2 (h : Heap) (o1 o2 : Obj) : Heap := (h.push o1).push o2
abbrev zG3 (h : Heap) (o1 o2 : Obj) : Heap := (zG2 h o1 o2).push { cls := .type "tuple", data := .seq #[.ref h.objs.size, .ref (h.push o1).objs.size] }
abbrev zG4 (h : Heap) (o1 o2 : Obj) : Heap := (zG3 h o1 o2).push { cls := .type "tuple", data := .seq #[.none, .none] }
abbrev zG5 (h : Heap) (o1 o2 : Obj) : Heap := (zG4 h o1 o2).push { cls := .type "zip", data := .fields #[.none, .bool false, .bool false, .ref (zG2 h o1 o2).objs.size, .ref (zG3 h o1 o2).objs.size] }
theorem meets_zipG {v1 v2 : Value} {o1 o2 : Obj} {H1 H2 : Heap → Prop} (B1 : Begins v1 o1 H1) (B2 : Begins v2 o2 H2) :
    Meets (Builtin.«zip.__new__» ⟨[.type "zip", v1, v2], []⟩) (fun _ R s => H1 s.heap ∧ H2 (s.heap.push o1) ∧ R (.ok (.ret (.ref (zG4 s.heap o1 o2).objs.size))) { s with heap := zG5 s.heap o1 o2 }) :=
  .of_wp fun prog w A R s h => by
    obtain ⟨hp, g, d, tk, os⟩ := s; obtain ⟨a1, a2, h⟩ := h
    have hsub := sub_zip
    have go1 : ∀ {A' : Around} {E : Value → Shared → Prop} {Q : Value → Shared → Prop}, Q (.ref hp.objs.size) ⟨hp.push o1, g, d, tk, os⟩ → wpAny (model prog w) A' (pyIter v1) Q E ⟨hp, g, d, tk, os⟩ := fun q => B1.iter prog w _ _ ⟨hp, g, d, tk, os⟩ _ a1 q
    have go2 : ∀ {A' : Around} {E : Value → Shared → Prop} {Q : Value → Shared → Prop}, Q (.ref (hp.push o1).objs.size) ⟨(hp.push o1).push o2, g, d, tk, os⟩ → wpAny (model prog w) A' (pyIter v2) Q E ⟨hp.push o1, g, d, tk, os⟩ := fun q => B2.iter prog w _ _ ⟨hp.push o1, g, d, tk, os⟩ _ a2 q
    wp_walk using go1, go2
    exact ⟨_, rfl, h⟩
theorem call_zipG {P : Program} {w : World} {A : Around} {E : Value → Shared → Prop} {s : Shared} {v1 v2 : Value} {o1 o2 : Obj} {H1 H2 : Heap → Prop} {Q : Value → Shared → Prop} (B1 : Begins v1 o1 H1) (B2 : Begins v2 o2 H2) (a1 : H1 s.heap) (a2 : H2 (s.heap.push o1))
    (q : ∀ h', IsZip h' (s.heap.objs.size + 4) (s.heap.objs.size + 2) (s.heap.objs.size + 3) .none → IsPair h' (s.heap.objs.size + 2) (.ref s.heap.objs.size) (.ref (s.heap.objs.size + 1)) → IsPair h' (s.heap.objs.size + 3) .none .none →
      h'.get? s.heap.objs.size = some o1 → h'.get? (s.heap.objs.size + 1) = some o2 → (∀ c o, s.heap.get? c = some o → h'.get? c = some o) → Q (.ref (s.heap.objs.size + 4)) { s with heap := h' }) :
    wpAny (model P w) A (call (.type "zip") [v1, v2]) Q E s := by
  refine callType_new F.called_zip (by decide) (F.typeCall_zip_2 _ _) (F.newCall_zip_2 _ _) (fun obj => F.args_object_init_3 obj _ _) F.entry_zip_new (meets_zipG B1 B2) ⟨a1, a2, ?_⟩
  have z1 : (s.heap.push o1).objs.size = s.heap.objs.size + 1 := Heap.size_push ..
  have z2 : (zG2 s.heap o1 o2).objs.size = s.heap.objs.size + 2 := by rw [Heap.size_push, z1]
  have z3 : (zG3 s.heap o1 o2).objs.size = s.heap.objs.size + 3 := by rw [Heap.size_push, z2]
  have z4 : (zG4 s.heap o1 o2).objs.size = s.heap.objs.size + 4 := by rw [Heap.size_push, z3]
  have up3 : ∀ {b : Addr} {o : Obj}, (zG2 s.heap o1 o2).get? b = some o → (zG5 s.heap o1 o2).get? b = some o := fun e => Heap.get?_push_of_some _ (Heap.get?_push_of_some _ (Heap.get?_push_of_some _ e))
  have e5 : (zG5 s.heap o1 o2).get? (zG4 s.heap o1 o2).objs.size = some _ := Heap.get?_push_size _ rfl
  have e4 : (zG5 s.heap o1 o2).get? (zG3 s.heap o1 o2).objs.size = some _ := Heap.get?_push_of_some _ (Heap.get?_push_size _ rfl)
  have e3 : (zG5 s.heap o1 o2).get? (zG2 s.heap o1 o2).objs.size = some _ := Heap.get?_push_of_some _ (Heap.get?_push_of_some _ (Heap.get?_push_size _ rfl))
  have e2 : (zG5 s.heap o1 o2).get? (s.heap.push o1).objs.size = some o2 := up3 (Heap.get?_push_size _ B2.free)
  have e1 : (zG5 s.heap o1 o2).get? s.heap.objs.size = some o1 := up3 (Heap.get?_push_of_some _ (Heap.get?_push_size _ B1.free))
  show _ ∧ _
  rw [z2, z3, z4] at e5; rw [z1, z2] at e3; rw [z3] at e4; rw [z1] at e2; rw [z4]
  exact ⟨⟨_, e5, rfl⟩, q _ e5 e3 e4 e1 e2 fun c o x => up3 (Heap.get?_push_of_some _ (Heap.get?_push_of_some _ x))⟩
def ItG (K : PySem.W.Frag) (t1 t2 : Bool) (a b : Addr) : It :=
  ⟨fun i H => ∃ (xs ys : List V) (x y : V), SqB t1 K H a xs ∧ SqB t2 K H b ys ∧ xs[i]? = some x ∧ ys[i]? = some y,
    fun i H v H' => ∃ (T : Addr) (o : Obj) (x y : V), v = .ref T ∧ H T = none ∧ o.dict = none ∧ H' = upd H T (.frz o (.tup [x, y])) ∧ (∀ xs, SqB t1 K H a xs → xs[i]? = some x) ∧ ∀ ys, SqB t2 K H b ys → ys[i]? = some y,
    fun i H => ∃ xs ys : List V, SqB t1 K H a xs ∧ SqB t2 K H b ys ∧ i ≤ xs.length ∧ i ≤ ys.length ∧ (i = xs.length ∨ i = ys.length)⟩
theorem turn_zipG {P : Program} {w : World} {K : PySem.W.Frag} {elts : List Expr} {kk : Nat} {tpos : Pos} {t1 t2 : Bool} {a b z TI TO i1 i2 : Addr} (D : Zap z TI TO i1 i2 [i1, a] [i2, b]) (n1 : a ≠ i1) (n2 : b ≠ i2) :
    Turn P w K (.Tuple elts kk tpos) (ItG K t1 t2 a b) [z, TI, TO, i1, i2] z (fun i h => IsZip h z TI TO .none ∧ IsPair h TI (.ref i1) (.ref i2) ∧ (∃ x y, IsPair h TO x y) ∧ itrO t1 h i1 a i ∧ itrO t2 h i2 b i) where
  mem := by simp
  obj := fun i h st c hc => by
    obtain ⟨hz, hTI, ⟨x, y, hTO⟩, h1, h2⟩ := st
    rcases (show c = z ∨ c = TI ∨ c = TO ∨ c = i1 ∨ c = i2 by simpa using hc) with rfl | rfl | rfl | rfl | rfl
    · exact ⟨_, hz, fun v q => nomatch q⟩
    · exact ⟨_, hTI, fun v q => nomatch q⟩
    · exact ⟨_, hTO, fun v q => nomatch q⟩
    · exact itrO_ob h1
    · exact itrO_ob h2
  keep := fun i h h' ⟨hz, hTI, ⟨x, y, hTO⟩, h1, h2⟩ k => ⟨k z (by simp) _ hz, k TI (by simp) _ hTI, ⟨x, y, k TO (by simp) _ hTO⟩, itrO_at h1 fun o q => k i1 (by simp) o q, itrO_at h2 fun o q => k i2 (by simp) o q⟩
  item := by
    rintro X rfl rfl rfl hc i pins s σ H E I hf ⟨hz, hTI, ⟨x0, y0, hTO⟩, h1, h2⟩ ⟨xs, ys, x, y, hqx, hqy, hx, hy⟩
    obtain ⟨its, rv, p, _⟩ := sqB_at I hqx; obtain ⟨its2, rv2, p2, _⟩ := sqB_at I hqy
    have hzl : z < s.heap.objs.size := Heap.lt_size hz
    have b1 : i < its.length := by rw [← rv.length]; exact (List.getElem?_eq_some_iff.mp hx).1
    have b2 : i < its2.length := by rw [← rv2.length]; exact (List.getElem?_eq_some_iff.mp hy).1
    refine pyNext_turn (drawsB (A := X.A.in1) (I.ok.hd hc) i1 a n1 its.toArray) (drawsB (A := X.A.in1) (I.ok.hd hc) i2 b n2 its2.toArray) D hz hTI hTO ⟨h1, p⟩ ⟨h2, p2⟩ (by simpa using b1) (by simpa using b2) fun u u2 h' tk hu hu2 z' TO' s1 s2 hT hk => ?_
    have ru : RelV x u := by
      obtain ⟨v, e1, e2⟩ := rv.get hx
      rw [show its.toArray[i]? = some v by simpa using e1] at hu
      cases hu; exact e2
    have ru2 : RelV y u2 := by
      obtain ⟨v, e1, e2⟩ := rv2.get hy
      rw [show its2.toArray[i]? = some v by simpa using e1] at hu2
      cases hu2; exact e2
    refine ⟨_, rfl, wpAny_letOwnedTupleGo_zip (s := { s with heap := h', toks := tk }) z' fun h'' z'' sb => ?_⟩
    have hT2 : h''.get? s.heap.objs.size = some { cls := .type "tuple", data := .seq #[u, u2] } := (sb.2 _ (Nat.ne_of_gt hzl)).trans hT
    have new : ObjOk X.prog X.w (upd H s.heap.objs.size (.frz { cls := .type "tuple", data := .seq #[u, u2] } (.tup [x, y]))) h'' s.heap.objs.size (.frz { cls := .type "tuple", data := .seq #[u, u2] } (.tup [x, y])) := ⟨hT2, by show 2 ≤ sizeLine; decide, [u, u2], .cons ru (.cons ru2 .nil), ⟨_, hT2, rfl, _, rfl⟩⟩
    have I1 : Inv X pins σ (upd H s.heap.objs.size (.frz { cls := .type "tuple", data := .seq #[u, u2] } (.tup [x, y]))) { s with heap := h'', toks := tk } :=
      I.turnedNew (ch := [z, TI, TO, i1, i2]) (fun c o hb q => (sb.2 c (fun e => hb (by simp [e]))).trans (hk c o (fun e => hb (by simp [e])) (fun e => hb (by simp [e])) (fun e => hb (by simp [e])) (fun e => hb (by simp [e])) q)) hf (Nat.le_refl _) new
    refine ⟨.ref s.heap.objs.size, _, I1, rfl, ⟨_, _, x, y, rfl, I.hok.fresh (Nat.le_refl _), rfl, rfl, fun l hl => by rw [sqB_inj I hl hqx]; exact hx, fun l hl => by rw [sqB_inj I hl hqy]; exact hy⟩, ⟨z'', (sb.2 _ D.a.1).trans (hk _ _ D.a.1 D.a.2.2 (Ne.symm D.b.2.2.2.2.1) (Ne.symm D.b.2.2.2.2.2.1) hTI), ⟨u, u2, (sb.2 _ D.a.2.1).trans TO'⟩, itrO_at s1.1 fun o q => (sb.2 _ D.b.1).trans q, itrO_at s2.1 fun o q => (sb.2 _ D.b.2.1).trans q⟩, fun c hcm => ?_⟩
    have hlt : c < s.heap.objs.size := by
      rcases (show c = z ∨ c = TI ∨ c = TO ∨ c = i1 ∨ c = i2 by simpa using hcm) with rfl | rfl | rfl | rfl | rfl
      · exact hzl
      · exact Heap.lt_size hTI
      · exact Heap.lt_size hTO
      · obtain ⟨_, e1, _⟩ := itrO_ob h1; exact Heap.lt_size e1
      · obtain ⟨_, e2, _⟩ := itrO_ob h2; exact Heap.lt_size e2
    rw [upd_ne (Nat.ne_of_lt hlt)]; exact (hf c hcm).1
  done := by
    rintro X rfl rfl rfl hc i pins s σ H E I hf ⟨hz, hTI, ⟨x0, y0, hTO⟩, h1, h2⟩ ⟨xs, ys, hqx, hqy, b1, b2, hend⟩
    obtain ⟨its, rv, p, _⟩ := sqB_at I hqx; obtain ⟨its2, rv2, p2, _⟩ := sqB_at I hqy
    have l1 := rv.length; have l2 := rv2.length
    refine pyNext_over (k := i) (drawsB (A := X.A.in1) (I.ok.hd hc) i1 a n1 its.toArray) (drawsB (A := X.A.in1) (I.ok.hd hc) i2 b n2 its2.toArray) D hz hTI hTO ⟨h1, p⟩ ⟨h2, p2⟩ (by simp; omega) fun h' tk hk => ⟨rfl, I.turnedL (ch := [z, TI, TO, i1, i2]) (fun c o hb q =>
      hk c o (fun e => hb (by simp [e])) (fun e => hb (by simp [e])) (fun e => hb (by simp [e])) (fun e => hb (by simp [e])) q) hf⟩
  self := fun A i s Q E st h => wpAny_pyIter_zip st.1 h
theorem zap_new {n a b : Nat} (ha : a < n) (hb : b < n) : Zap (n + 4) (n + 2) (n + 3) n (n + 1) [n, a] [n + 1, b] := by
  refine ⟨⟨(by omega : n + 2 ≠ n + 4), (by omega : n + 3 ≠ n + 4), (by omega : n + 2 ≠ n + 3)⟩, ⟨(by omega : n ≠ n + 4), (by omega : n + 1 ≠ n + 4), (by omega : n ≠ n + 3), (by omega : n + 1 ≠ n + 3), (by omega : n ≠ n + 2), (by omega : n + 1 ≠ n + 2), (by omega : n ≠ n + 1)⟩, ?_, ?_⟩
  · simp only [List.mem_cons, List.not_mem_nil, or_false, not_or]
    exact ⟨⟨(by omega : n + 4 ≠ n), (by omega : n + 4 ≠ a)⟩, ⟨(by omega : n + 3 ≠ n), (by omega : n + 3 ≠ a)⟩, ⟨(by omega : n + 1 ≠ n), (by omega : n + 1 ≠ a)⟩⟩
  · simp only [List.mem_cons, List.not_mem_nil, or_false, not_or]
    exact ⟨⟨(by omega : n + 4 ≠ n + 1), (by omega : n + 4 ≠ b)⟩, ⟨(by omega : n + 3 ≠ n + 1), (by omega : n + 3 ≠ b)⟩, ⟨(by omega : n ≠ n + 1), (by omega : n ≠ b)⟩⟩
def iZipG (K : PySem.W.Frag) (ta : TA) : TI := fun σ H R => ta σ H fun vs H1 => ∃ a b xs ys t1 t2, vs = [.ref a, .ref b] ∧ SqB t1 K H1 a xs ∧ SqB t2 K H1 b ys ∧ R (ItG K t1 t2 a b) H1
theorem pi_zipG {X : Cx} {e e2 : Expr} {ta : TA} {p pos tpos : Pos} {elts : List Expr} {kk : Nat} (hg : Gl X "zip") (hm : X.mg "zip" = none) (ha : PA X [e, e2] ta)
    (hs : starEach [e, e2] X.env = (false, eval e X.env) :: starEach [e2] X.env := by rfl) (hpl : (backTo pos (starEach [e2] X.env)).any (·.1) = false := by rfl) :
    PI X (.Tuple elts kk tpos) (.Call (.Name "zip" p) [e, e2] [] pos) (iZipG X.K ta) := ⟨fun pins s σ H R I h => by
  refine Call_ (ld_blt I hg hm PyProof.Rows.boot_zip (PyProof.Rows.callWith_type1 (L2.thn (ha.run pos pins s σ H _ I h) ?_) hs hpl))
  rintro us s1 ⟨vs, H1, I1, r1, a, b, xs, ys, t1, t2, rfl, hqx, hqy, q⟩
  obtain ⟨its, _, p1, la⟩ := sqB_at I1 hqx; obtain ⟨its2, _, p2, lb⟩ := sqB_at I1 hqy
  cases r1 with
  | cons r rr =>
    cases rr with
    | cons r' rr =>
      cases rr; cases r; cases r'
      refine call_zipG (beginsB a its.toArray) (beginsB b its2.toArray) p1 ((beginsB b its2.toArray).keeps _ _ p2 fun b o e => Heap.get?_push_of_some _ e) fun h' hz hTI hTO h1 h2 hk => wpAny_pyIter_zip hz ?_
      have I2 : Inv X pins σ H1 { s1 with heap := h' } := I1.kept (t' := s1.toks) hk
      refine ⟨s1.heap.objs.size + 4, [s1.heap.objs.size + 4, s1.heap.objs.size + 2, s1.heap.objs.size + 3, s1.heap.objs.size, s1.heap.objs.size + 1], _, _, H1, rfl, I2, turn_zipG (zap_new la lb) (Nat.ne_of_lt la) (Nat.ne_of_lt (Nat.lt_succ_of_lt lb)), ⟨hz, hTI, ⟨_, _, hTO⟩, itrO_new h1, itrO_new h2⟩, fun c hc => ?_, q⟩
      have hle : s1.heap.objs.size ≤ c := by
        rcases (show c = s1.heap.objs.size + 4 ∨ c = s1.heap.objs.size + 2 ∨ c = s1.heap.objs.size + 3 ∨ c = s1.heap.objs.size ∨ c = s1.heap.objs.size + 1 by simpa using hc) with rfl | rfl | rfl | rfl | rfl
        · exact Nat.le_add_right _ _
        · exact Nat.le_add_right _ _
        · exact Nat.le_add_right _ _
        · exact Nat.le_refl _
        · exact Nat.le_add_right _ _
      exact I1.fpOk hle (I1.hok.fresh hle)⟩
theorem walk_zipG {K : PySem.W.Frag} {t1 t2 : Bool} {a b : Addr} {xs ys : List V} {n : Nat} (hn : n = min xs.length ys.length) : Walk (ItG K t1 t2 a b) n (fun H => SqB t1 K H a xs ∧ SqB t2 K H b ys) (YPairF (fun i => xs[i]?) (fun i => ys[i]?)) := by
  subst hn
  refine ⟨fun i H hi q => ⟨xs, ys, xs[i]'(by omega), ys[i]'(by omega), q.1, q.2, by simp [show i < xs.length by omega], by simp [show i < ys.length by omega]⟩, fun _ q => ⟨xs, ys, q.1, q.2, by omega, by omega, by omega⟩, fun i H v H' _ q y => ?_⟩
  obtain ⟨T, o, x, z, h1, h2, hd, h3, h4, h5⟩ := y
  exact ⟨T, o, x, z, h1, h2, hd, h3, h4 xs q.1, h5 ys q.2⟩
/-- a tuple's or a list's items -/
def asTL : D → Option (Bool × List D)
  | .tup xs => some (true, xs)
  | .lst xs => some (false, xs)
  | _ => none
def zipGR (d e : D) (S : Store) : Res (List D) := match asTL d, asTL e with
  | some (_, xs), some (_, ys) => .ok (zipD xs ys) S
  | _, _ => .bad
def zipGE (m n : EM D) : EM (List D) := fun st S => (m st S).bind fun d S1 => (n st S1).bind fun e S2 => zipGR d e S2
theorem asTL_rep {K : PySem.W.Frag} {W : Wd} {d : D} {v : V} {t : Bool} {xs : List D} (r : Rep K W d v) (e : asTL d = some (t, xs)) : ∃ a vs, v = .ref a ∧ (∀ W', W.ev W' → SqB t K W'.H a vs) ∧ RepL K W xs vs := by
  cases d <;> simp only [asTL] at e <;> cases e
  · simp only [Rep] at r
    obtain ⟨a, vs, rfl, q, r1⟩ := r
    exact ⟨a, vs, rfl, fun W' l => (q.monoE l).sq, r1⟩
  · simp only [Rep] at r
    obtain ⟨a, vs, rfl, q, m, r1⟩ := r
    exact ⟨a, vs, rfl, fun W' l => SqL.of (l.h _ _ q m).1, r1⟩
section
variable {X : Cx} {Wx : WX} {e e2 : Expr} {me me2 : EM D} {p pos tpos : Pos} {elts : List Expr} {kk : Nat}
theorem di_zipG (hg : Gl X "zip") (hm : X.mg "zip" = none) (h : DE X Wx e me) (h2 : DE X Wx e2 me2) (hs : starEach [e, e2] X.env = (false, eval e X.env) :: starEach [e2] X.env := by rfl) (hs2 : starEach [e2] X.env = (false, eval e2 X.env) :: starEach [] X.env := by rfl)
    (hpl : (backTo pos (starEach [e2] X.env)).any (·.1) = false := by rfl) : DI X Wx (.Tuple elts kk tpos) (.Call (.Name "zip" p) [e, e2] [] pos) (zipGE me me2) := by
  refine di_of (pi_zipG hg hm (pa_cons h.p (pa_cons h2.p pa_nil hs2) hs) hs hpl) fun W st S σ R at_ q => ?_
  show tD X.K Wx me σ W.H fun v H1 => tD X.K Wx me2 σ H1 fun v2 H2 => ∃ a b xs ys t1 t2, [v, v2] = [V.ref a, V.ref b] ∧ _
  refine goI at_ q fun W1 d S1 v _ l a1 r q1 => goI a1 q1 fun W2 d2 S2 v2 _ l2 a2 r2 q2 => ?_
  have r1 := r.mono l2
  unfold zipGR at q2
  cases h1 : asTL d with
  | none => rw [h1] at q2; exact q2.elim
  | some px =>
    cases h2 : asTL d2 with
    | none => rw [h1, h2] at q2; exact q2.elim
    | some py =>
      rw [h1, h2] at q2
      obtain ⟨t1, xs⟩ := px
      obtain ⟨t2, ys⟩ := py
      obtain ⟨a, vs, rfl, g1, rl1⟩ := asTL_rep r1 h1
      obtain ⟨b, us, rfl, g2, rl2⟩ := asTL_rep r2 h2
      exact ⟨a, b, vs, us, t1, t2, rfl, g1 W2 (Wd.le.refl W2).toev, g2 W2 (Wd.le.refl W2).toev, q2 W2 _ (.refl W2) a2 (wk_zip (walk_zipG rfl) (fun W3 l3 => ⟨g1 W3 l3, g2 W3 l3⟩) rl1 rl2)⟩
end
section
variable {α β : Type} {S : Store} {st : DSt} {e : α → D} {f : β → D} {xs : List α} {ys : List β}
@[simp] theorem ei_zipG {m n : EM D} : zipGE m n st S = (m st S).bind fun d S1 => (n st S1).bind fun e S2 => zipGR d e S2 := rfl
theorem zip_TT : zipGR (.tup (xs.map e)) (.tup (ys.map f)) S = .ok ((xs.zip ys).map fun p => .tup [e p.1, f p.2]) S := by
  show Res.ok (zipD _ _) S = _
  rw [zipD_map]
theorem zip_TL : zipGR (.tup (xs.map e)) (.lst (ys.map f)) S = .ok ((xs.zip ys).map fun p => .tup [e p.1, f p.2]) S := by
  show Res.ok (zipD _ _) S = _
  rw [zipD_map]
theorem zip_LT : zipGR (.lst (xs.map e)) (.tup (ys.map f)) S = .ok ((xs.zip ys).map fun p => .tup [e p.1, f p.2]) S := by
  show Res.ok (zipD _ _) S = _
  rw [zipD_map]
theorem zip_LL : zipGR (.lst (xs.map e)) (.lst (ys.map f)) S = .ok ((xs.zip ys).map fun p => .tup [e p.1, f p.2]) S := by
  show Res.ok (zipD _ _) S = _
  rw [zipD_map]
end
end KF

set_option Elab.async false
set_option linter.all false
set_option maxRecDepth 100000
set_option maxHeartbeats 4000000
/-! KGP: index, count of tuples and lists. -/
namespace KF
open PySem PySem.Spec PyProof.Rows L2
/-- which items are equal to y -/
def eqBs (S : Store) (y : D) : List D → Option (List Bool)
  | [] => some []
  | x :: xs => match eqD S deep x y, eqBs S y xs with
    | some b, some bs => some (b :: bs)
    | _, _ => none
theorem eqBs_at {S : Store} {y : D} : ∀ {xs : List D} {bs : List Bool}, eqBs S y xs = some bs → bs.length = xs.length ∧ ∀ (i : Nat) (x : D), xs[i]? = some x → ∃ b, bs[i]? = some b ∧ eqD S deep x y = some b
  | [], bs, h => by
    cases h
    exact ⟨rfl, fun i x e => by simp at e⟩
  | x :: xs, bs, h => by
    unfold eqBs at h
    cases h1 : eqD S deep x y with
    | none => rw [h1] at h; cases h
    | some b =>
      cases h2 : eqBs S y xs with
      | none => rw [h1, h2] at h; cases h
      | some bs' =>
        rw [h1, h2] at h
        cases h
        obtain ⟨l, k⟩ := eqBs_at h2
        refine ⟨by simp [l], fun i x' e => ?_⟩
        cases i with
        | zero => simp at e; subst e; exact ⟨b, rfl, h1⟩
        | succ i => simpa using k i x' (by simpa using e)
/-- the place of the first that is equal -/
def idxB (bs : List Bool) : Option Nat := if true ∈ bs then some (bs.idxOf true) else none
theorem idxB_at {bs : List Bool} {j : Nat} (h : idxB bs = some j) : j < bs.length ∧ bs[j]? = some true ∧ ∀ m, m < j → bs[m]? = some false := by
  unfold idxB at h
  split at h
  · rename_i hm
    cases h
    have hl := List.idxOf_lt_length_of_mem hm
    refine ⟨hl, ?_, fun m hm' => ?_⟩
    · rw [List.getElem?_eq_getElem hl, List.getElem_idxOf]
    · have hml : m < bs.length := by omega
      rw [List.getElem?_eq_getElem hml]
      cases e : bs[m] with
      | false => rfl
      | true =>
        have key : ∀ (l : List Bool) (m : Nat) (h : m < l.length), l[m] = true → l.idxOf true ≤ m := fun l => by
          induction l with
          | nil => intro m h; cases h
          | cons b l ih =>
            intro m h q
            cases b with
            | true => simp [List.idxOf_cons]
            | false =>
              cases m with
              | zero => cases q
              | succ m =>
                have := ih m (by simpa using h) (by simpa using q)
                simp only [List.idxOf_cons]
                simpa using this
        have := key bs m hml e
        omega
  · cases h
def mIndex (x : D) (ds : List D) (S : Store) : Option (D × Store) := match ds with
  | [y] => ((asQ S x).bind (eqBs S y)).bind fun bs => (idxB bs).map fun j => (.int j, S)
  | _ => none
section
variable {X : Cx}
/-- what every item says of being equal -/
theorem ask_at {pins : List (Addr × Obj)} {σ : St} {W : Wd} {S : Store} {s : Shared} {A : Around} (I : Inv X pins σ W.H s) (sr : SRep X.K W S) (hn : A.units + deep < cLine) {y : D} {v : V} {vv : Value} {xs : List D} {vs : List V} {its : List Value} {bs : List Bool} (ry : Rep X.K W y v) (rv : RelV v vv) (r : RepL X.K W xs vs) (q : Vals vs its) (h : eqBs S y xs = some bs) :
    ∀ (j : Nat) (u : Value), its[j]? = some u → SeqAt.EqAt A s u vv ((bs[j]?).getD false) := fun j u hj => by
  have l1 := q.length
  have l2 := r.length
  obtain ⟨hb, k⟩ := eqBs_at h
  have hj1 := (List.getElem?_eq_some_iff.mp hj).1
  have hj2 : j < xs.length := by omega
  obtain ⟨w, g1, p1⟩ := r.get (List.getElem?_eq_getElem hj2)
  obtain ⟨w', g2, p2⟩ := q.get g1
  rw [hj] at g2
  cases g2
  obtain ⟨b, e1, e2⟩ := k j _ (List.getElem?_eq_getElem hj2)
  rw [e1]
  exact one_eq I sr deep _ _ _ _ _ _ _ _ p1 ry p2 rv e2 hn
theorem mt_tindexK (hu : X.A.units + 70 < cLine) : MethD X "tuple.index" (fun x ds S => match x with | .tup _ => mIndex x ds S | _ => none) := ⟨by
  intro pins s σ H x xs v us Q I rx rxs ⟨W, S, dx, ds, d, S', e, sr, r1, r2, eg, k⟩
  subst e
  cases dx <;> simp only at eg <;> try cases eg
  rename_i zs
  match ds, eg, r2 with
  | [y], eg, r2 =>
    unfold mIndex at eg
    simp only [asQ, Option.bind_some] at eg
    cases h : eqBs S y zs with
    | none => rw [h] at eg; cases eg
    | some bs =>
      rw [h] at eg
      simp only [Option.bind_some] at eg
      cases h2 : idxB bs with
      | none => rw [h2] at eg; cases eg
      | some j =>
        rw [h2] at eg
        cases eg
        obtain ⟨w, rfl, ry⟩ := repL_1 r2
        obtain ⟨u, rfl, ru⟩ := rxs.one
        simp only [Rep] at r1
        obtain ⟨a, vs, rfl, t1, rl⟩ := r1
        cases rx
        obtain ⟨its, rv, ⟨⟨cls, dd, data, sl⟩, ho, hc, n, hd⟩, hlen⟩ := I.tuple t1.sq
        simp only at hc hd
        subst hc hd
        obtain ⟨i1, i2, i3⟩ := idxB_at h2
        obtain ⟨hb, _⟩ := eqBs_at h
        have l1 := rv.length
        have l2 := rl.length
        have hj : j < its.toArray.size := by simp; omega
        refine call_meets PySem.F.slot_tuple_index ⟨_, ho, rfl⟩ PySem.F.entry_tuple_index (PySem.F.args_tuple_index_2 _ _)
          (SeqAt.tuple_index2_found a its.toArray n dd sl u (fun i => (bs[i]?).getD false) j hj (Nat.zero_le _) hj (by simp [i2]) (fun m _ _ hm => by simp [i3 m hm])) ⟨ho, fun i hi => ?_, ?_⟩
        · have hi' : i < its.length := by simpa using hi
          exact ask_at I sr (by show X.A.units + 1 + 60 < cLine; omega) ry ru rl rv h i _ (by simp [hi'])
        · exact ⟨.int (j : Nat), W.H, I.tok _, ⟨_, rfl⟩, k W _ (.refl W) sr rep_iI⟩⟩
/-- plain values -/
def flV : D → Option V
  | .int i => some (.int i)
  | .str x => some (.str x)
  | .bl b => some (.bl b)
  | .non => some .non
  | _ => none
def flVs : List D → Option (List V)
  | [] => some []
  | d :: ds => match flV d, flVs ds with
    | some v, some vs => some (v :: vs)
    | _, _ => none
theorem flV_rep {K : PySem.W.Frag} {W : Wd} {d : D} {v w : V} (r : Rep K W d v) (h : flV d = some w) : v = w ∧ flatV w = true := by
  cases d <;> simp only [flV, Option.some.injEq] at h <;> try cases h
  all_goals
    simp only [Rep] at r
    subst r
    exact ⟨rfl, rfl⟩
theorem flVs_rep {K : PySem.W.Frag} {W : Wd} : ∀ {ds : List D} {vs ws : List V}, RepL K W ds vs → flVs ds = some ws → vs = ws ∧ ws.all flatV = true
  | [], vs, ws, r, h => by
    simp only [RepL] at r
    cases h
    exact ⟨r, rfl⟩
  | d :: ds, vs, ws, r, h => by
    simp only [RepL] at r
    obtain ⟨v, us, rfl, r1, r2⟩ := r
    unfold flVs at h
    cases h1 : flV d with
    | none => rw [h1] at h; cases h
    | some w =>
      cases h2 : flVs ds with
      | none => rw [h1, h2] at h; cases h
      | some ws' =>
        rw [h1, h2] at h
        cases h
        obtain ⟨rfl, f⟩ := flV_rep r1 h1
        obtain ⟨rfl, g⟩ := flVs_rep r2 h2
        exact ⟨rfl, by simp [f, g]⟩
def mIndexL (x : D) (ds : List D) (S : Store) : Option (D × Store) := match ds with
  | [y] => ((asL S x).bind flVs).bind fun vs => (flV y).bind fun w => (vs.findIdx? fun z => eqV z w).map fun j => (.int j, S)
  | _ => none
theorem mt_lindexK : MethD X "list.index" mIndexL := by
  refine methD_of mt_index fun W S dx ds d S' x vs Q s rx r e k => ?_
  match ds, e, r with
  | [y], e, r =>
    unfold mIndexL at e
    simp only at e
    cases h : asL S dx with
    | none => rw [h] at e; cases e
    | some xs =>
      rw [h] at e
      simp only [Option.bind_some] at e
      cases h2 : flVs xs with
      | none => rw [h2] at e; cases e
      | some zs =>
        rw [h2] at e
        simp only [Option.bind_some] at e
        cases h3 : flV y with
        | none => rw [h3] at e; cases e
        | some w =>
          rw [h3] at e
          simp only [Option.bind_some] at e
          cases h4 : zs.findIdx? fun z => eqV z w with
          | none => rw [h4] at e; cases e
          | some j =>
            rw [h4] at e
            cases e
            obtain ⟨p, vs', rfl, q, rl⟩ := asL_rep s rx h
            obtain ⟨rfl, f1⟩ := flVs_rep rl h2
            obtain ⟨v, rfl, ry⟩ := repL_1 r
            obtain ⟨rfl, f2⟩ := flV_rep ry h3
            obtain ⟨hj, e1, e2⟩ := List.findIdx?_eq_some_iff_getElem.mp h4
            exact ⟨p, vs', v, j, vs'[j], rfl, rfl, q, f2, f1, List.getElem?_eq_getElem hj, e1, fun m z' hm hz => by
              obtain ⟨hm', rfl⟩ := List.getElem?_eq_some_iff.mp hz
              simpa using e2 m hm, k W _ (.refl W) s rep_iI⟩
end
end KF

set_option Elab.async false
set_option linter.all false
set_option maxRecDepth 100000
set_option maxHeartbeats 4000000
/-! QA: try .. except x as n, several clauses, one name; own exceptions raised. -/
namespace KF
open PySem PySem.Spec PyProof.Rows L2
abbrev SuT := Addr → Value → Option Addr → TS
/-- behind the suite slot i is empty -/
def gonE (i : Nat) (D : Ends) : Ends := { nx := fun σ H => D.nx (σ.set i none) H, rt := D.rt, bk := fun σ H => D.bk (σ.set i none) H, ct := fun σ H => D.ct (σ.set i none) H }
def wAses (K : PySem.W.Frag) (i : Nat) (Wout : WX) (D : Ends) : List (Value × SuT) → WX
  | [] => Wout
  | q :: r => fun cls d σ H => ∃ b, PySem.W.exmOne K cls q.1 = some b ∧ (b = true → ∀ a, H a = none → q.2 a cls d (gonE i D) (σ.set i (some (.ref a))) H) ∧ (b = false → wAses K i Wout D r cls d σ H)
inductive ClsOk (X : Cx) (n : Str) : List ExceptHandler → List (Value × SuT) → Prop
  | nil : ClsOk X n [] []
  | cons {x : Str} {c : Value} {ts : SuT} {s0 : Stmt} {su : List Stmt} {p1 p2 : Pos} {hr : List ExceptHandler} {l : List (Value × SuT)} (hc : Names X x c)
      (hsu : ∀ (a : Addr) (oe : Obj) (cls : Value) (d : Option Addr) (pn : List (Addr × Obj)), Zc cls d oe → (∃ vs, oe.data = .fields vs) → PSs (X.suite a ((a, oe) :: pn)) (s0 :: su) (ts a cls d)) (r : ClsOk X n hr l) :
      ClsOk X n (.ExceptHandler (some (.Name x p1)) (some n) (s0 :: su) p2 :: hr) ((c, ts) :: l)
section
variable {X : Cx} {body : List Stmt} {hd0 : ExceptHandler} {hds : List ExceptHandler} {l : List (Value × SuT)} {pos : Pos} {tb : WX → TS} {Wout : WX} {n : Str} {i : Nat}
theorem ps_try_ases (hst : X.stack = X.env :: X.outer) (hfr : X.env.frame = some X.env.locals) (hN : X.N.Nodup) (hi : X.N[i]? = some n) (hln : X.env.kindOf n = some .local) (tk : Takes X Wout)
    (hb : ∀ (W : WX) (pn : List (Addr × Obj)) (xe : Value → Shared → Prop), Takes (X.tr pn xe) W → PassesOwn (model X.prog X.w) X.A X.env xe → PSs (X.tr pn xe) body (tb W))
    (hh : ClsOk X n (hd0 :: hds) l) : PS X (.Try body (hd0 :: hds) [] [] pos) (fun D σ H => tb (wAses X.K i Wout D l) D σ H) := by
  refine ⟨fun pins s σ H D I go => ?_⟩
  have okX := I.ok
  have frX : X.A.frames = some (X.env :: X.outer) := okX.frames.trans (by rw [hst])
  have isLoc : Loc X.env.scope n := Or.inl hln
  let catch_ : Value → Shared → Prop := fun x t1 => wpAny (model X.prog X.w) X.A (noteFrame x X.env) (fun _ t2 => wpAny (model X.prog X.w) X.A (setFlight x none) (fun _ t3 => wpAny (model X.prog X.w) X.A (handleBy x X.env (hd0 :: hds)) (SP X pins D) X.xe t3) X.xe t2) X.xe t1
  have takesC : Takes (X.tr (X.pn ++ pins) catch_) (wAses X.K i Wout D l) := by
    rintro u t ⟨a, B, sI, ps, σ1, H1, cls, d, rfl, J0, nb, up, sky, na, os, ag, w⟩
    have J : Inv X pins σ1 H1 sI := J0.ofTry okX
    have skyX : Sky B (X.env :: X.outer) a (Zc cls d) X.env.locals t.heap := by rw [← hst]; exact sky
    show wpAny (model X.prog X.w) X.A (noteFrame (.ref a) X.env) _ _ _
    refine Sky.land Zc.steady frX hfr skyX fun g1 fl1 u1 => ?_
    have J1 : Inv X pins σ1 H1 { t with heap := g1 } := J.landed nb fl1.1 (up.trans u1) os ag
    obtain ⟨o1, v1, e1, z1, d1⟩ := fl1.there
    have offFrames : a ∉ frs (X.env :: X.outer) := fun hm => by
      obtain ⟨_, o', e', no⟩ := fl1.2.2.1.mem hm
      rw [e1] at e'
      cases e'
      exact no _ d1
    have offL : a ≠ X.env.locals := fun z => offFrames (List.mem_filterMap.mpr ⟨X.env, List.mem_cons_self, by rw [hfr, z]⟩)
    have offF : a ∉ X.fs := fun hm => by
      obtain ⟨en, hen, q⟩ := List.mem_filterMap.mp hm
      exact offFrames (List.mem_filterMap.mpr ⟨en, List.mem_cons_of_mem _ hen, q⟩)
    have S1 := J1.suite e1 d1 na offL offF
    have walk : ∀ {hs' : List ExceptHandler} {l' : List (Value × SuT)}, ClsOk X n hs' l' → wAses X.K i Wout D l' cls d σ1 H1 → wpAny (model X.prog X.w) X.A (handleBy (.ref a) X.env hs') (SP X pins D) X.xe { t with heap := g1 } := by
      intro hs' l' hk
      induction hk with
      | nil =>
        intro w
        refine wpAny_handleBy_nil ?_
        obtain ⟨f1, f2, f3, oe, vs, T, oT, ts', he, hz, hd, h1, hrr⟩ := id fl1
        unfold PySem.passOn
        refine wpAny_bind (wpAny_field he hd h1 ?_)
        rw [if_neg (show ¬ ((Value.ref T == Value.none) = true) from by simp)]
        have out : wpAny (model X.prog X.w) X.A (setFlight (.ref a) X.env.frame) (fun _ t4 => wpAny (model X.prog X.w) X.A (throw (.ref a) : Sem Flow) (SP X pins D) X.xe t4) X.xe { t with heap := g1 } := by
          rw [hfr]
          refine HandSPX.setFlight_upZ fl1 fun g4 hg4 u4 => wpAny_throw (tk _ _ ?_)
          exact ⟨a, B, sI, pins, σ1, H1, cls, d, rfl, J, nb, (up.trans u1).trans u4, Or.inr (Or.inr (by rw [hst]; exact hg4)), na, os, ag, w⟩
        first
          | exact wpAny_bind (wpAny_pure (wpAny_bind out))
          | exact wpAny_bind out
      | @cons x c ts s0 su p1 p2 hr l2 hc hsu r ih =>
        intro w
        obtain ⟨b, hb1, yes, no⟩ := w
        refine wpAny_handleBy_cons (codeAny_handlers_test ?_) (fun q => by cases q)
        have lookT : PySem.W.Looks (model X.prog X.w) g1 (typeOf (.ref a)) cls := fun A Q E s k q => wpAny_typeOf_ref (k _ _ e1) (by rw [z1.1]; exact q)
        have lookM := PySem.W.exm_one (M := model X.prog X.w) (J1.kIn) lookT hb1
        have named : ∀ {Q : Value → Shared → Prop} {E : Value → Shared → Prop}, Q c { t with heap := g1 } → wpAny (model X.prog X.w) (X.A.mark (some (.ref a))) (eval (.Name x p1) X.env) Q E { t with heap := g1 } := fun {Q E} q => by
          obtain ⟨hg, hdbg, hm | ⟨hm, hv, hnn⟩⟩ := hc
          · exact ld_glob (X := X.suite a ((a, o1) :: (X.pn ++ pins))) S1 hg hm q hdbg
          · exact ld_blt (X := X.suite a ((a, o1) :: (X.pn ++ pins))) S1 hg hm hv q hnn hdbg
        refine named (lookM.here ?_)
        cases b with
        | false =>
          show wpAny _ X.A (handleBy (.ref a) X.env hr) _ _ _
          exact ih (no rfl)
        | true =>
          refine codeAny_handlers_suite_as ?_
          refine HandSPX.lands_againZ fl1 fun g2 fl2 u2 => ?_
          have J2 : Inv X pins σ1 H1 { t with heap := g2 } := J.landed nb fl2.1 ((up.trans u1).trans u2) os ag
          obtain ⟨o2, v2, e2, z2, d2⟩ := fl2.there
          have S2 := J2.suite e2 d2 na offL offF
          refine store_ok (X := X.suite a ((a, o2) :: (X.pn ++ pins))) (v := .ref a) S2 hN hi isLoc rfl (fun t5 S5 => ?_) (Or.inr hln)
          refine wpAny_mono ((hsu a o2 cls d (X.pn ++ pins) z2 ⟨_, d2⟩).run [] t5 _ H1 _ S5 (yes rfl a na)) (fun f t6 sp => ?_) (fun _ _ z => z.elim)
          have clean : ∀ {σ6 : St} {H6 : Hp} {Q : Shared → Prop}, Inv (X.suite a ((a, o2) :: (X.pn ++ pins))) [] σ6 H6 t6 → (∀ t7, Inv X pins (σ6.set i none) H6 t7 → Q t7) →
              wpAny (model X.prog X.w) X.A (do bindName X.env n .none; unbindBehindTheSuite X.env n p2) (fun _ t7 => Q t7) X.xe t6 := fun {σ6 H6 Q} S6 hq => gone_ok (S6.unsuite okX) hN hi hln hq
          match f, sp with
          | .next, ⟨σ6, H6, S6, q6⟩ => exact clean S6 fun t7 J7 => ⟨_, _, J7, q6⟩
          | .brk, ⟨σ6, H6, S6, q6⟩ => exact clean S6 fun t7 J7 => ⟨_, _, J7, q6⟩
          | .cont, ⟨σ6, H6, S6, q6⟩ => exact clean S6 fun t7 J7 => ⟨_, _, J7, q6⟩
          | .ret u, ⟨v6, σ6, H6, S6, r6, q6⟩ => exact clean S6 fun t7 J7 => ⟨_, _, _, J7, r6, q6⟩
    exact walk hh w
  refine wpAny_Try_except ?_
  refine wpAny_mono ((hb _ (X.pn ++ pins) catch_ takesC PassesOwn.looking).run [] s σ H D (I.toTry _) go) (fun f t1 sp => ?_) (fun e t1 he => he)
  match f, sp with
  | .next, ⟨σ1, H1, J1, q⟩ => exact wpAny_execs_nil ⟨σ1, H1, J1.ofTry okX, q⟩
  | .brk, ⟨σ1, H1, J1, q⟩ => exact ⟨σ1, H1, J1.ofTry okX, q⟩
  | .cont, ⟨σ1, H1, J1, q⟩ => exact ⟨σ1, H1, J1.ofTry okX, q⟩
  | .ret u, ⟨v, σ1, H1, J1, r, q⟩ => exact ⟨v, σ1, H1, J1.ofTry okX, r, q⟩
end
end KF

set_option Elab.async false
set_option linter.all false
set_option maxRecDepth 100000
set_option maxHeartbeats 4000000
/-! QB: own exceptions raised; their fields, in an except suite. -/
namespace KF
open PySem PySem.Spec PyProof.Rows L2
/-- self.f = f, of an exception that is being made -/
def spIni (K : PySem.W.Frag) (f : Str) : Sp := fun vs H Q _ => ∃ (a C : Addr) (y : V), vs = [.ref a, y] ∧ OexC K C ∧ PySem.W.findIn K (.ref C) f = some none ∧ H a = some (exo a C none) ∧
  ∀ dx, H dx = none → dx ≠ a → Q .non (upd (upd H dx (exd dx [(f, y)])) a (exo a C (some dx)))
theorem ini_ok {P : Program} {w : World} {K : PySem.W.Frag} {mg : Str → Option Value} {base : Heap} {f : Addr} {qual fn : Str} {st : Stmt} {fd : FuncData} {q1 q2 q3 q4 : Pos} (F : FnIs K "__init__" qual st f fd) (S : FnScope ["self", fn] ["self", fn] (defScope st))
    (hb : defBody st = [.Assign [.Attribute (.Name "self" q1) fn q2] (.Name fn q3) q4] := by rfl) (v0 : Vis (defScope st) "self" := by first | exact Or.inl rfl | exact Or.inr (Or.inl rfl)) (v1 : Vis (defScope st) fn := by first | exact Or.inl rfl | exact Or.inr (Or.inl rfl))
    (d1 : (fn == ("__debug__" : Str)) = false := by decide) (c1 : (fn == ("__classdict__" : Str)) = false := by decide) : FnOk P w K mg base (L2.CX P w) 1 f fd ["self", fn] (spIni K fn) := by
  obtain ⟨oc, od, dV, kV, doc, pm, an, cdv, ct, osl, rfl, lk, hcd⟩ := F.ex
  refine fn_of lk hcd S (fun vs H Q E ⟨a, C, y, e, _⟩ => by rw [e]; rfl) fun A outer s H vs Q E hr hsp => ?_
  rw [hb]
  obtain ⟨a, C, y, rfl, T, no, ha, k⟩ := hsp
  refine ⟨_, pss_one (ps_ost (pv 0 rfl v0) (pv 1 rfl v1 d1 c1)), ?_⟩
  exact ⟨y, rfl, .ref a, rfl, a, C, rfl, T, no, .inl ⟨ha, fun dx n ne => k dx n ne⟩⟩
/-- what the top has written of an own error class with one field -/
structure ExT (K : PySem.W.Frag) (C fI : Addr) (fd : FuncData) (f : Str) : Prop where
  o : OexC K C
  x : XfC K C
  no : PySem.W.findIn K (.ref C) f = some none
  iC : PySem.W.findIn K (.ref C) "__init__" = some (some (.ref fI))
  tI : PySem.W.typeIn K (.ref fI) = some (.type "function")
  b : Binds K fd ["self", f] []
section
variable {ρ τ κ : Type} {X : Cx} {Wx : WX} {M : Mode ρ τ κ} {ss : List Stmt} {st : DSt} {e : Expr} {me : EM D} {pos p pos2 : Pos} {x f : Str} {C fI : Addr} {fd : FuncData} {k : Nat}
def raiR (C : Addr) (f : Str) (r : Res D) : Res ρ := r.bind fun d S => .err ⟨.ref C, some ([f], [d])⟩ S
theorem dh_raise (T : ExT X.K C fI fd f) (F : FnOk X.prog X.w X.K X.mg X.base (L2.CX X.prog X.w) 1 fI fd ["self", f] (spIni X.K f)) (c : Cal X Wx k) (hk : 2 ≤ k) (hg : Gl X x) (hm : X.mg x = some (.ref C)) (he : DE X Wx e me) (hdb : (x == ("__debug__" : Str)) = false := by decide)
    (h1 : starEach (e :: []) X.env = (false, eval e X.env) :: starEach [] X.env := by rfl) (h2 : (backTo pos (starEach [] X.env)).any (·.1) = false := by rfl) (hse : SubX M.se st := by exact .inl rfl) :
    DH X Wx M (.Raise (some (.Call (.Name x p) [e] [] pos)) none pos2 :: ss) st (fun S => raiR C f (me st S)) := by
  have pass : Passes (L2.CX X.prog X.w) X (fun _ _ _ => False) := fun pins σ H s u t I q => passAt (W := W0) (c.tk.imp fun _ _ _ _ z => z.elim) σ pins H s u t I q
  refine dh_of (pss_cons (ps_raise c.cm c.tk (pmk_oex T.o T.iC T.tI F (c.rj hk) T.b .nil pass hg hm (da_cons he da_nil h1).p hdb h1 h2)) pss_never) fun W S σ D cD a q => ?_
  have q' : HQ X.K W (ownA st σ) M D Wx ((seqE [me] st S).bind fun ds S1 => match ds with | [d] => .err ⟨.ref C, some ([f], [d])⟩ S1 | _ => .bad) := by
    unfold raiR at q
    simp only [seqE]
    cases e1 : me st S <;> rw [e1] at q <;> simpa using q
  refine goHL a hse q' fun W1 ds S1 vs l a1 rv q1 => ?_
  match ds, q1 with
  | [d], q1 =>
    simp only [RepL] at rv
    obtain ⟨v, _, rfl, rd, rfl⟩ := rv
    refine ⟨by simp, fun ax hax => ⟨ax, C, v, rfl, T.o, T.no, upd_same, fun dx hdx hne => ⟨rfl, dx, [(f, v)], upd_same, by rw [upd_ne hne, upd_same], ?_, ?_⟩⟩⟩
    · rwa [upd_ne hne] at hdx
    · have hd1 : W1.H dx = none := by rwa [upd_ne hne] at hdx
      have eH : upd (del (upd (upd (upd W1.H ax (exo ax C none)) dx (exd dx [(f, v)])) ax (exo ax C (some dx))) ax) dx (.xd [(f, v)]) = (W1.put dx (.xd [(f, v)])).H := by
        show _ = upd W1.H dx (.xd [(f, v)])
        funext b
        by_cases hb : b = dx
        · subst hb; rw [upd_same, upd_same]
        · rw [upd_ne hb, upd_ne hb]
          by_cases hb2 : b = ax
          · subst hb2; rw [del_same, hax]
          · rw [del_ne hb2, upd_ne hb2, upd_ne hb, upd_ne hb2]
      rw [eH]
      have l2 : W1.le (W1.put dx (.xd [(f, v)])) := Wd.put_le hd1
      refine q1 _ σ (some dx) (l2.evo fun _ z => hse.own z) (a1.s.put hd1) (hse.rep (a1.e.mono l2)) ?_
      exact ⟨dx, [v], rfl, upd_same, a1.s.noM hd1, rfl, repL_cons (rd.mono l2 _ _) repL_nil⟩
  | [], q1 => exact q1.elim
  | _ :: _ :: _, q1 => exact q1.elim
end
end KF

set_option Elab.async false
set_option linter.all false
set_option maxRecDepth 100000
set_option maxHeartbeats 4000000
/-! QC: the exception that a suite holds: its fields, its class, defs that get it; try. -/
namespace KF
open PySem PySem.Spec PyProof.Rows L2
/-- at a: the caught exception, of the class c, its dict at dx -/
structure Hot (X : Cx) (c : Value) (a dx : Addr) : Prop where
  ex : ∃ oe, (a, oe) ∈ X.pn ∧ Zc c (some dx) oe ∧ ∃ vs, oe.data = .fields vs
theorem hot_su {X : Cx} {c : Value} {a dx : Addr} {oe : Obj} {pn : List (Addr × Obj)} (h : Zc c (some dx) oe) (hf : ∃ vs, oe.data = .fields vs) : Hot (X.suite a ((a, oe) :: pn)) c a dx := ⟨⟨oe, List.mem_cons_self, h, hf⟩⟩
section
variable {X : Cx} {Wx : WX} {a dx D : Addr} {i : Nat} {x f y : Str} {vp pos p : Pos} {e : Expr}
open Classical in
/-- what is done with the caught exception in slot i -/
noncomputable def hotE (i : Nat) (c : Value) (a dx : Addr) (g : List Str → List KF.D → Store → Res KF.D) : EM KF.D := fun st S => match st[i]? with
  | some (some (.v (.exn c' a' dx' ks xs))) => if c' = c ∧ a' = a ∧ dx' = dx then g ks xs S else .bad
  | _ => .bad
def xfR (f : Str) (ks : List Str) (xs : List KF.D) (S : Store) : Res KF.D := match (ks.zip xs).lookup f with
  | some d => .ok d S
  | none => .bad
theorem hotE_at {c : Value} {g : List Str → List KF.D → Store → Res KF.D} {st : DSt} {S : Store} {ks : List Str} {xs : List KF.D} (h : st[i]? = some (some (.v (.exn c a dx ks xs)))) : hotE i c a dx g st S = g ks xs S := by
  unfold hotE
  rw [h]
  simp
theorem hotE_go {K : PySem.W.Frag} {W : Wd} {Q : VK} {E : XK} {c : Value} {g : List Str → List KF.D → Store → Res KF.D} {st : DSt} {S : Store} {σ : St} (re : RepE K W st σ) (q : VQ K W Q E (hotE i c a dx g st S)) :
    ∃ ks xs vs, st[i]? = some (some (.v (.exn c a dx ks xs))) ∧ σ[i]? = some (some (.ref a)) ∧ W.H dx = some (.xd (ks.zip vs)) ∧ ¬ W.M dx ∧ ks.length = vs.length ∧ RepL K W xs vs ∧ VQ K W Q E (g ks xs S) := by
  unfold hotE at q
  split at q
  · rename_i c' a' dx' ks xs hs
    split at q
    · rename_i hc
      obtain ⟨rfl, rfl, rfl⟩ := hc
      obtain ⟨v, h1, h2⟩ := re.get hs
      simp only [Rep] at h2
      obtain ⟨rfl, vs, h3, h4, h5, h6⟩ := h2
      exact ⟨ks, xs, vs, hs, h1, h3, h4, h5, h6, q⟩
    · exact q.elim
  · exact q.elim
/-- e.f -/
theorem de_xf (i : Nat) (h : Hot X (.ref D) a dx) (T : XfC X.K D) (no : PySem.W.findIn X.K (.ref D) f = some none) (hN : X.N[i]? = some x := by rfl) (hv : Vis X.env.scope x := by first | exact Or.inl rfl | exact Or.inr (Or.inl rfl) | exact Or.inr (Or.inr rfl)) (hd : (x == ("__debug__" : Str)) = false := by decide)
    (hcd : (x == ("__classdict__" : Str)) = false := by decide) (hb : attributeBase (.Name x vp) f X.env (eval (.Name x vp) X.env) = eval (.Name x vp) X.env := by rfl) : DE X Wx (.Attribute (.Name x vp) f pos) (hotE i (.ref D) a dx (xfR f)) :=
  ⟨⟨fun pins s σ H Q I ⟨W, st, S, at_, q⟩ => by
    obtain ⟨rfl, sr, re⟩ := at_
    obtain ⟨ks, xs, vs, hs, h1, h3, h4, h5, h6, q⟩ := hotE_go re q
    refine attr_of hb (L2.thn ((pe_var hN hv hd hcd).run pins s σ W.H (fun v H1 => v = .ref a ∧ H1 = W.H) I ⟨_, h1, rfl, rfl⟩) fun u s1 hh => ?_)
    obtain ⟨x0, H1, I1, rx, rfl, rfl⟩ := hh
    obtain rfl : u = Value.ref a := rx
    obtain ⟨oe, hm, hz, vs0, hdt⟩ := h.ex
    obtain ⟨hget, _⟩ := I1.pin (a, oe) (List.mem_append_left _ hm)
    obtain ⟨mA, hns, hr⟩ := (show ObjOk X.prog X.w W.H s1.heap dx (.xd (ks.zip vs)) from I1.hok dx _ h3)
    obtain ⟨od, ho, hlk⟩ := lookIn_ns hns
    unfold xfR at q
    cases hl : (ks.zip xs).lookup f with
    | none => rw [hl] at q; exact q.elim
    | some d =>
      rw [hl] at q
      obtain ⟨v, z1, z2⟩ := zip_lookup h6 hl
      obtain ⟨u, hu, ru⟩ := RelO.some_of (v := v) (o := mA f) (by rw [← z1]; exact hr f)
      have J : PySem.W.InstAt s1.heap a oe D (some od) := ⟨hget, hz.1, by unfold PySem.W.notCls; rw [hdt] <;> rfl, by rw [hz.2]; exact ho⟩
      exact HandSPX.exc_get I1.kIn J T.ga T.gg T.exC (PySem.W.findObj_own T.hdC no rfl (by rw [hlk, hu])) (handed_of ru) ⟨v, W.H, I1.tok _, ru, q W v (.refl W) sr z2⟩⟩⟩
/-- what is said of an own error class so that isinstance can be asked -/
structure IsT (K : PySem.W.Frag) (D : Addr) : Prop where
  cl : (PySem.W.clsIn K D).isSome = true
  ga : PySem.W.findIn K (.ref D) "__getattribute__" = some (some (.builtin "BaseException.__getattribute__"))
  gg : PySem.W.findIn K (.ref D) "__getattr__" = some none
  su : PySem.W.subIn K (.ref D) (.type "BaseException") = some true
  ca : PySem.W.findIn K (.ref D) "__class__" = some (some (.builtin "object.__class__"))
  gn : PySem.W.specialIn K (.builtin "object.__class__") "__get__" = some (some (.builtin "getset_descriptor.__get__"))
  tk : PySem.W.takesIn K (.builtin "object.__class__") = some true
  ob : PySem.W.mroIn K D (.type "object") = some true
def rIsH (K : PySem.W.Frag) (D a dx : Addr) : List V → Hp → VK → Prop := fun xs H Q => ∃ (c : V) (cv : Value) (b : Bool) (fs : List (Str × V)), xs = [.ref a, c] ∧ (∀ u, RelV c u → u = cv) ∧ PySem.W.kitOne K (.ref D) cv = some b ∧ H dx = some (.xd fs) ∧ Q (.bl b) H
theorem call_isH (h : Hot X (.ref D) a dx) (T : IsT X.K D) : CallR X (.builtin "isinstance") (rIsH X.K D a dx) := by
  intro pins s σ H xs us Q I r q
  obtain ⟨c, cv, b, fs, rfl, hcv, hk, hx, q⟩ := q
  match us, r with
  | _, .cons rx (.cons rt .nil) =>
    cases rx
    have ec := hcv _ rt
    subst ec
    obtain ⟨oe, hm, hz, vs0, hdt⟩ := h.ex
    obtain ⟨hget, _⟩ := I.pin (a, oe) (List.mem_append_left _ hm)
    obtain ⟨mA, ⟨od, es, ep, ho, hr⟩, _⟩ := (show ObjOk X.prog X.w H s.heap dx (.xd fs) from I.hok dx _ hx)
    have J : PySem.W.InstAt s.heap a oe D (some od) := ⟨hget, hz.1, by unfold PySem.W.notCls; rw [hdt] <;> rfl, by rw [hz.2]; exact ho⟩
    exact PySem.W.kia_one (PySem.W.kitx_exc T.cl T.ga T.gg T.su T.ca T.gn T.tk T.ob) I.kIn J hk (fun z => nomatch z) fun tk => ⟨.bl b, H, I.kept (t' := tk) fun _ _ z => z, rfl, q⟩
/-- isinstance(e, C) -/
theorem de_isH (i : Nat) {cv : Value} {v : V} {b : Bool} (h : Hot X (.ref D) a dx) (T : IsT X.K D) (hk : PySem.W.kitOne X.K (.ref D) cv = some b) (he : PE X e (tC v)) (hcv : ∀ u, RelV v u → u = cv) (hg : Gl X "isinstance") (hm : X.mg "isinstance" = none) (hN : X.N[i]? = some x := by rfl)
    (hv : Vis X.env.scope x := by first | exact Or.inl rfl | exact Or.inr (Or.inl rfl) | exact Or.inr (Or.inr rfl)) (hd : (x == ("__debug__" : Str)) = false := by decide) (hcd : (x == ("__classdict__" : Str)) = false := by decide)
    (h1 : starEach [.Name x vp, e] X.env = (false, eval (.Name x vp) X.env) :: starEach [e] X.env := by rfl) (h2 : starEach [e] X.env = (false, eval e X.env) :: starEach [] X.env := by rfl) (hpl : (backTo pos (starEach [e] X.env)).any (·.1) = false := by rfl) :
    DE X Wx (.Call (.Name "isinstance" p) [.Name x vp, e] [] pos) (hotE i (.ref D) a dx fun _ _ S => .ok (.bl b) S) :=
  de_of (pe_callB (call_isH h T) hg hm b_isinstance (pa_cons (pe_var hN hv hd hcd) (pa_cons he pa_nil h2) h1) (by decide) (by decide) h1 hpl) fun W st S σ Q at_ q => by
    obtain ⟨ks, xs, vs, hs, z1, z3, z4, z5, z6, q⟩ := hotE_go at_.e q
    exact ⟨_, z1, v, cv, b, _, rfl, hcv, hk, z3, q W _ (.refl W) at_.s (rep_blI b)⟩
end
end KF

set_option Elab.async false
set_option linter.all false
set_option maxRecDepth 100000
set_option maxHeartbeats 4000000
/-! QD: defs that get the caught exception; try as a statement of a block. -/
namespace KF
open PySem PySem.Spec PyProof.Rows L2 L2H
structure CalQ (X : Cx) (k : Nat) : Prop where
  rm : RoomH k X.A
  gd : X.A.guards = some []
theorem CalQ.u {X : Cx} {k : Nat} (c : CalQ X k) : X.A.units + 64 < cLine := by have := c.rm.un; omega
theorem CalQ.u70 {X : Cx} {k : Nat} (c : CalQ X k) : X.A.units + 70 < cLine := by have := c.rm.un; omega
theorem CalQ.rj {X : Cx} {k j : Nat} (c : CalQ X k) (h : j ≤ k) : RoomH j X.A := c.rm.mono h
theorem Cal.hot {X : Cx} {Wx : WX} {k : Nat} (c : Cal X Wx k) (a : Addr) (pn : List (Addr × Obj)) : CalQ (X.suite a pn) k := ⟨⟨c.rm.dp, c.rm.un⟩, c.gd⟩
/-- a def that gets the caught exception first -/
structure FnQ (P : Program) (w : World) (K : PySem.W.Frag) (mg : Str → Option Value) (base : Heap) (k : Nat) (f : Addr) (fd : FuncData) (ps : List Str) (m : List D → Store → Res D) : Prop where
  run : ∀ (A : Around) (outer : List Env) (s : Shared) (args : Args) (us : List Value) (vs : List V) (Q : VK) (E : XK) (W : Wd) (ds : List D) (S : Store) (c : Value) (a dx : Addr) (oe : Obj) (ks : List Str) (xs : List D), A.guards = some [] → RoomH k A → PinOk outer W.H s (a, oe) → Zc c (some dx) oe →
    (∃ z, oe.data = .fields z) → Env0 P w K mg base A outer s W.H → BindsTo s fd args (ps.zip us) → Vals vs us → SRep K W S → RepL K W (.exn c a dx ks xs :: ds) vs → ds.length + 1 = ps.length → VQ K W Q E (m (.exn c a dx ks xs :: ds) S) →
    codeAny (model P w) A (.call (.ref f) args) (CR (L2.CX P w) outer P w W.H s Q E) s
theorem fnQ {P : Program} {w : World} {K : PySem.W.Frag} {mg : Str → Option Value} {base : Heap} {k : Nat} {f : Addr} {x qual : Str} {st : Stmt} {fd : FuncData} {N ps : List Str} {m : List D → Store → Res D} (F : FnIs K x qual st f fd) (S : FnScope N ps (defScope st))
    (hB : ∀ (cdv : Value) (A : Around) (outer : List Env) (s : Shared) (H : Hp) (E : XK) (p : Addr × Obj) (c : Value) (a dx : Addr), Hot (cxH (L2.CX P w) P w K mg base N qual (defScope st) f cdv A outer s H E p) c a dx → CalQ (cxH (L2.CX P w) P w K mg base N qual (defScope st) f cdv A outer s H E p) k →
      ∀ (ks : List Str) (xs ds : List D), ds.length + 1 = ps.length → DH (cxH (L2.CX P w) P w K mg base N qual (defScope st) f cdv A outer s H E p) (fun c d _ H' => E c d H') FM (defBody st) ((D.exn c a dx ks xs :: ds).map sv ++ List.replicate (N.length - (D.exn c a dx ks xs :: ds).length) none) (m (.exn c a dx ks xs :: ds))) :
    FnQ P w K mg base (k + 1) f fd ps m := by
  obtain ⟨oc, od, dV, kV, doc, pm, an, cdv, ct, osl, rfl, lk, hcd⟩ := F.ex
  refine ⟨?_⟩
  intro A outer s args us vs Q E W ds S0 c a dx oe ks xs hg hroom hpin hz hf env0 hbind rv sr rds hlen hq
  generalize hes : D.exn c a dx ks xs :: ds = es at rds hq
  have hel : es.length = ps.length := by rw [← hes]; simpa using hlen
  have kin : K.In s.heap := env0.mod.kin.keeps fun b o e => (env0.bs b o e).1
  have nol : s.heap.NoLimit := env0.mod.nolimit.keeps fun b o e => (env0.bs b o e).1
  have hl : vs.length = ps.length := by rw [← rds.length]; exact hel
  have kinds : ∀ y ∈ ps.zip us, (defScope st).names.lookup y.1 = some .local ∨ ((defScope st).names.lookup y.1 = some .cell ∧ ((cellsFrom (s.heap.objs.size + 1) (defScope st).names []).lookup y.1).isSome = true) := by
    rintro ⟨n, v⟩ hy
    exact (S.par n (List.of_mem_zip hy).1).imp id fun q => ⟨q, PySem.W.cellsFrom_some _ _ _ (.inl q)⟩
  refine codeAny_call_function hroom.depth (kin _ _ lk) rfl S.co S.gen rfl (PySem.W.codeRec_of kin hcd) (hbind _ _ _ _ (wpAny_newFunctionEnv_cells S.kind kinds fun env he s1 x => ?_))
  subst he
  refine ⟨nol.keeps x.toInCall.keep, codeAny_func ?_⟩
  have body := hB cdv A outer s W.H E (a, oe) c a dx ⟨⟨oe, List.mem_cons_self, hz, hf⟩⟩ ⟨hroom.deeper _, hg⟩ ks xs ds hlen
  rw [hes] at body
  have I : Inv (cxH (L2.CX P w) P w K mg base N qual (defScope st) f cdv A outer s W.H E (a, oe)) [] (L2.start N vs) W.H s1 := inv_startH S hpin env0 hl rv x
  have e0 : RepE K W (es.map sv ++ List.replicate (N.length - es.length) none) (L2.start N vs) := startE rds
  have noP : ∀ b, ¬ ownA (es.map sv ++ List.replicate (N.length - es.length) none) (L2.start N vs) b := fun b ⟨i, d, h1, h2, h3⟩ => by
    by_cases hi : i < es.length
    · rw [List.getElem?_append_left (by simpa using hi), List.getElem?_map] at h1
      cases h : es[i]? with
      | none => rw [h] at h1; cases h1
      | some y =>
        rw [h] at h1
        cases h1
        cases h2
    · rw [List.getElem?_append_right (by simpa using hi), List.getElem?_replicate] at h1
      split at h1 <;> cases h1
  have go : tH K (fun c d _ H' => E c d H') FM (es.map sv ++ List.replicate (N.length - es.length) none) (m es) { nx := fun _ H' => Q .non H', rt := Q } (L2.start N vs) W.H := by
    refine ⟨fun _ _ h => h, W, S0, ⟨rfl, sr, e0⟩, ?_⟩
    generalize m es S0 = rr at hq
    cases rr with
    | ok d S1 => exact fun W' v l s r => hq W' v (l.le noP) s r
    | err e S1 => exact fun W' σ od l s _ z => hq W' od (l.le noP) s z
    | bad => exact hq.elim
  refine wpAny_mono (body.p.run [] s1 (L2.start N vs) W.H _ I go) (fun fl s' hs => ?_) fun e s' hs => hs
  match fl, hs with
  | .ret u, ⟨v, σ', H', J, r, q⟩ => exact ⟨v, H', J.os, J.bare, J.base, J.hok, r, q⟩
  | .next, ⟨σ', H', J, q⟩ => exact ⟨.non, H', J.os, J.bare, J.base, J.hok, rfl, q⟩
  | .brk, ⟨σ', H', J, q⟩ => exact q.elim
  | .cont, ⟨σ', H', J, q⟩ => exact q.elim
section
variable {X : Cx} {Wx : WX} {k : Nat} {f : Addr} {fd : FuncData} {ps : List Str} {m : List D → Store → Res D} {x y : Str} {p pos vp : Pos} {C : Value} {a dx : Addr}
/-- f(e) -/
theorem de_fnQ (i : Nat) (h : Hot X C a dx) (F : FnQ X.prog X.w X.K X.mg X.base k f fd ps m) (c : CalQ X k) (tk : Takes X Wx) (b : Binds X.K fd ps []) (hk : PySem.W.keepIn X.K (.ref f) = true) (hg : Gl X x) (hm : X.mg x = some (.ref f)) (hp1 : ps.length = 1 := by rfl) (hN : X.N[i]? = some y := by rfl)
    (hv : Vis X.env.scope y := by first | exact Or.inl rfl | exact Or.inr (Or.inl rfl) | exact Or.inr (Or.inr rfl)) (hd : (y == ("__debug__" : Str)) = false := by decide) (hcd : (y == ("__classdict__" : Str)) = false := by decide) (hdb : (x == ("__debug__" : Str)) = false := by decide)
    (he : starEach [.Name y vp] X.env = (false, eval (.Name y vp) X.env) :: starEach [] X.env := by rfl) (hpl : (backTo pos (starEach [] X.env)).any (·.1) = false := by rfl) :
    DE X Wx (.Call (.Name x p) [.Name y vp] [] pos) (hotE i C a dx fun ks xs S => m [.exn C a dx ks xs] S) := ⟨⟨fun pins s σ H Q I ⟨W, st, S, at_, q⟩ => by
  obtain ⟨rfl, sr, re⟩ := at_
  obtain ⟨ks, xs, vs, hs, h1, h3, h4, h5, h6, q⟩ := hotE_go re q
  refine wpAny_Call_Name_kw (ld_glob I hg hm (PySem.W.callWith_K (h₀ := X.base) I.ok.mod.kin hk ?_ he hpl) hdb)
  refine L2.thn ((pa_cons (pe_var hN hv hd hcd) pa_nil he).run pos pins s σ W.H (fun vs H1 => vs = [.ref a] ∧ H1 = W.H) I ⟨_, h1, rfl, rfl⟩) ?_
  rintro us s1 ⟨vs', _, I1, rv, rfl, rfl⟩
  refine ⟨I1.kIn, ?_⟩
  obtain ⟨oe, hmem, hz, hf⟩ := h.ex
  have P1 := I1.pin (a, oe) (List.mem_append_left _ hmem)
  have hpin : PinOk X.stack W.H s1 (a, oe) := ⟨P1.1, P1.2.1, fun hmm => (List.mem_cons.mp (I1.stkSub a hmm)).elim P1.2.2.1 P1.2.2.2.1, P1.2.2.2.2⟩
  have hl : us.length = ps.length := by rw [← rv.length, hp1]; rfl
  have b2 := b s1 us I1.kIn (by rw [List.append_nil]; exact hl)
  rw [List.append_nil] at b2
  have rr : RepL X.K W [.exn C a dx ks xs] [.ref a] := repL_cons (by simp only [Rep]; exact ⟨trivial, vs, h3, h4, h5, h6⟩) repL_nil
  refine wpAny_call (codeAny_mono (F.run X.A X.stack s1 ⟨us, []⟩ us [.ref a] Q _ W [] S C a dx oe ks xs c.gd c.rm hpin hz hf I1.env0 b2 rv sr rr hp1.symm q) fun r s' hq => ?_)
  match r, hq with
  | .error e, hq => exact passAt tk σ pins W.H s1 e s' I1 hq
  | .ok (.ret u), hq => exact I1.after hq
  | .ok .next, hq => exact False.elim hq
  | .ok .brk, hq => exact False.elim hq
  | .ok .cont, hq => exact False.elim hq⟩⟩
end
end KF

set_option Elab.async false
set_option linter.all false
set_option maxRecDepth 100000
set_option maxHeartbeats 4000000
/-! QE: try as a statement of a block. -/
namespace KF
open PySem PySem.Spec PyProof.Rows L2
def tryR {ρ : Type} (r : Res ρ) (h : Exn → Store → Res ρ) : Res ρ := match r with
  | .ok a S => .ok a S
  | .err e S => h e S
  | .bad => .bad
open Classical in
/-- one clause: of the class at C; live: the classes that may come by here -/
noncomputable def catR {ρ : Type} (C : Addr) (live : List Addr) (yes : List Str → List D → Store → Res ρ) (no : Exn → Store → Res ρ) : Exn → Store → Res ρ := fun e S => if e.c = .ref C then (match e.fs with
  | some (ks, xs) => noErr (yes ks xs S)
  | none => .bad) else if ∃ B ∈ live, e.c = .ref B then no e S else .bad
def Mode.tri {ρ τ κ σσ : Type} (M : Mode ρ τ κ) (slj : σσ → DSt) (se : DSt) : Mode (Step σσ κ) σσ κ := { M.sub slj with se := se }
section
variable {ρ τ κ σσ : Type} {K : PySem.W.Frag} {W : Wd} {P : Addr → Prop} {M : Mode ρ τ κ} {Dn : Ends} {Wx : WX} {S : Store} {st : DSt} {σ : St} {i : Nat}
theorem own_unset {a : Addr} (q : ownA st (σ.set i none) a) : ownA st σ a := by
  obtain ⟨j, x, h1, h2, h3⟩ := q
  by_cases hj : i = j
  · subst hj
    by_cases hi : i < σ.length
    · rw [List.getElem?_set_self hi] at h3; cases h3
    · rw [List.getElem?_eq_none (by simpa using hi)] at h3; cases h3
  · rw [List.getElem?_set_ne hj] at h3
    exact ⟨j, x, h1, h2, h3⟩
/-- the suite's ends from the statement's -/
theorem HQ.gone {r : Res ρ} (h : HQ K W P M Dn Wx (noErr r)) (h1 : ∀ s, (M.sl s).set i none = M.sl s) (h2 : ∀ s, (M.sk s).set i none = M.sk s) : HQ K W P M (gonE i Dn) W0 (noErr r) := by
  cases r with
  | bad => exact h
  | err e S => exact h
  | ok r S =>
    unfold noErr HQ at h ⊢
    simp only at h ⊢
    have key : ∀ {st' : DSt} {W' : Wd} {σ' : St}, st'.set i none = st' → Evo P (ownA st' σ') W W' → RepE K W' st' σ' → Evo P (ownA st' (σ'.set i none)) W W' ∧ RepE K W' st' (σ'.set i none) := fun {st' W' σ'} hs ev re =>
      ⟨⟨ev.toLeX, fun a q => ev.f a (own_unset q)⟩, by have := re.unset i; rwa [hs] at this⟩
    cases e : M.J r with
    | nx t => rw [e] at h; exact fun W' σ' ev s re => h W' _ (key (h1 t) ev re).1 s (key (h1 t) ev re).2
    | bk t => rw [e] at h; exact fun W' σ' ev s re => h W' _ (key (h2 t) ev re).1 s (key (h2 t) ev re).2
    | ct t => rw [e] at h; exact fun W' σ' ev s re => h W' _ (key (h2 t) ev re).1 s (key (h2 t) ev re).2
    | rt d => rw [e] at h; exact h
end
/-- clauses by what they do -/
structure CatD {ρ τ κ : Type} (X : Cx) (Wx : WX) (M : Mode ρ τ κ) (i : Nat) (n : Str) (se : DSt) (hds : List ExceptHandler) (pc : Exn → Store → Res ρ) : Prop where
  ex : ∃ l, ClsOk X n hds l ∧ ∀ (D : Ends) (W : Wd) (e : Exn) (S : Store) (σ : St) (od : Option Addr), M.C (gonE i D) → SRep X.K W S → RepE X.K W se σ → ERep X.K W e od → HQ X.K W (ownA se σ) M D Wx (pc e S) → wAses X.K i Wx D l e.c od σ W.H
section
variable {ρ τ κ σσ : Type} {X : Cx} {Wx : WX} {M : Mode ρ τ κ} {i : Nat} {n : Str} {se st : DSt} {hds : List ExceptHandler}
theorem cat_nil (hse : SubX M.se se) : CatD X Wx M i n se [] (fun e S => .err e S) :=
  ⟨[], .nil, fun D W e S σ od _ s re rx q => q W σ od ((Wd.le.refl W).evo fun _ z => hse.own z) s (hse.rep re) rx⟩
theorem cat_cons {x : Str} {C : Addr} {live : List Addr} {s0 : Stmt} {su : List Stmt} {p1 p2 : Pos} {yes : List Str → List D → Store → Res ρ} {no : Exn → Store → Res ρ} (hc : Names X x (.ref C)) (h0 : PySem.W.exmOne X.K (.ref C) (.ref C) = some true)
    (hl : ∀ B ∈ live, B ≠ C → PySem.W.exmOne X.K (.ref B) (.ref C) = some false)
    (hsu : ∀ (a dx : Addr) (oe : Obj) (pn : List (Addr × Obj)) (ks : List Str) (xs : List D), Hot (X.suite a ((a, oe) :: pn)) (.ref C) a dx → DH (X.suite a ((a, oe) :: pn)) W0 M (s0 :: su) (se.set i (some (.v (.exn (.ref C) a dx ks xs)))) (fun S => noErr (yes ks xs S)))
    (h1 : ∀ s, (M.sl s).set i none = M.sl s) (h2 : ∀ s, (M.sk s).set i none = M.sk s) (r : CatD X Wx M i n se hds no) : CatD X Wx M i n se (.ExceptHandler (some (.Name x p1)) (some n) (s0 :: su) p2 :: hds) (catR C live yes no) := by
  obtain ⟨l, hk, go⟩ := r.ex
  refine ⟨⟨(.ref C, fun a cls d D σ H => ∃ ks xs dx, d = some dx ∧ cls = .ref C ∧ tH X.K W0 M (se.set i (some (.v (.exn (.ref C) a dx ks xs)))) (fun S => noErr (yes ks xs S)) D σ H) :: l, .cons hc (fun a oe cls d pn hz hf => ⟨fun pins s σ H D I ⟨ks, xs, dx, hd, hcl, q⟩ => ?_⟩) hk, fun D W e S σ od cD sr re rx q => ?_⟩⟩
  · subst hd hcl
    exact (hsu a dx oe pn ks xs (hot_su hz hf)).p.run pins s σ H D I q
  · obtain ⟨c, fs⟩ := e
    unfold catR at q
    simp only at q
    by_cases hC : c = .ref C
    · subst hC
      rw [if_pos rfl] at q
      refine ⟨true, h0, fun _ a ha => ?_, fun z => Bool.noConfusion z⟩
      cases fs with
      | none => exact q.elim
      | some t =>
        obtain ⟨ks, xs⟩ := t
        obtain ⟨dx, vs, rfl, hd, nm, hl', rl⟩ := rx
        have rex : Rep X.K W (.exn (.ref C) a dx ks xs) (.ref a) := by simp only [Rep]; exact ⟨trivial, vs, hd, nm, hl', rl⟩
        refine ⟨ks, xs, dx, rfl, rfl, cD, W, S, ⟨rfl, sr, re.set i rex⟩, HQ.gone (HQ.mono sr ((Wd.le.refl W).evo fun b z => ?_) q) h1 h2⟩
        rcases own_set z with z | ⟨z, _⟩
        · exact z
        · cases z
    · rw [if_neg hC] at q
      split at q
      · rename_i hB
        obtain ⟨B, hB, rfl⟩ := hB
        exact ⟨false, hl B hB fun z => hC (by rw [z]), fun z => Bool.noConfusion z, fun _ => go D W _ S σ od cD sr re rx q⟩
      · exact q.elim
theorem dh_try {kk : Nat} {ss body : List Stmt} {hd0 : ExceptHandler} {pos : Pos} {slj : σσ → DSt} {pb : Store → Res (Step σσ κ)} {pc : Exn → Store → Res (Step σσ κ)} {k : σσ → Store → Res ρ} (c : Cal X Wx kk) (hst : X.stack = X.env :: X.outer) (hfr : X.env.frame = some X.env.locals) (hN : X.N.Nodup)
    (hb : ∀ (W : WX) (pn : List (Addr × Obj)) (xe : Value → Shared → Prop), Cal (X.tr pn xe) W kk → DH (X.tr pn xe) W (M.tri slj se) body st pb) (hc : CatD X Wx (M.sub slj) i n se (hd0 :: hds) pc) (hk : ∀ j, DH X Wx M ss (slj j) (k j)) (hne : se ≠ [] := by exact fun h => nomatch h)
    (hi : X.N[i]? = some n := by rfl) (hln : X.env.kindOf n = some .local := by rfl) : DH X Wx M (.Try body (hd0 :: hds) [] [] pos :: ss) st (fun S => KF.thn M.ir M.ib M.ic (tryR (pb S) pc) k) := by
  obtain ⟨l, hcls, go⟩ := hc.ex
  refine dh_of (pss_cons (ps_try_ases (tb := fun Wy => tH X.K Wy (M.tri slj se) st pb) hst hfr hN hi hln c.tk (fun W pn xe tk po => (hb W pn xe ⟨c.rm, c.gd, tk, po, c.cm⟩).p) hcls) (pss_all (Wx := Wx) (M := M))) fun W S σ D cD a q => ?_
  have q1 := thn_go (slj := slj) (N := fun σ H => tAll X Wx M ss D σ H) a.s q fun W' σ' j S' x y z w => ⟨slj j, k j, hk j, cD, W', S', ⟨rfl, y, z⟩, w⟩
  refine ⟨trivial, W, S, a, ?_⟩
  generalize pb S = r at q1
  cases r with
  | bad => exact q1
  | ok r S1 => exact q1
  | err e S1 =>
    intro W' σ' od ev s' rx er
    have re : RepE X.K W' se σ' := rx.resolve_left hne
    exact go _ W' e S1 σ' od trivial s' re er (HQ.mono (r := pc e S1) a.s ev q1)
end
end KF

set_option Elab.async false
set_option linter.all false
set_option maxRecDepth 100000
set_option maxHeartbeats 4000000
/-! QF: glue for printed texts with own errors. -/
namespace KF
open PySem PySem.Spec PyProof.Rows L2
section
variable {ρ τ κ : Type} {X : Cx} {Wx : WX} {M : Mode ρ τ κ} {ss : List Stmt} {st : DSt} {p p1 p2 : Store → Res ρ} {pos : Pos} {x : Str}
theorem dh_noErr (h : DH X Wx M ss st p) : DH X Wx M ss st (fun S => noErr (p S)) := dh_of h.p fun W S σ D c a q => by
  refine ⟨c, W, S, a, ?_⟩
  cases e : p S with
  | ok r S1 => rw [e] at q; exact q
  | err e1 S1 => rw [e] at q; exact q.elim
  | bad => rw [e] at q; exact q
open Classical in
theorem dh_ite {c v : Value} (h1 : c = v → DH X Wx M ss st p1) (h2 : c ≠ v → DH X Wx M ss st p2) : DH X Wx M ss st (fun S => if c = v then p1 S else p2 S) := by
  by_cases h : c = v
  · simp only [if_pos h]; exact h1 h
  · simp only [if_neg h]; exact h2 h
theorem pe_bty {n : String} (hg : Gl X x) (hm : X.mg x = none) (hv : bootBuiltins x = some (.type n)) (hn : x ≠ "__name__" := by decide) (hd : (x == ("__debug__" : Str)) = false := by decide) : PE X (.Name x pos) (tC (.ty n)) :=
  ⟨fun _ _ _ H _ I h => ld_blt I hg hm hv ⟨.ty n, H, I, rfl, h⟩ hn hd⟩
end
open PySem.W in
theorem exm_of {K : Frag} {C : Addr} {cls : Value} {b : Bool} (h1 : subIn K (.ref C) (.type "BaseException") = some true) (h2 : isClsIn K C = true) (h3 : typeIn K (.ref C) = some (.type "type")) (h4 : subIn K cls (.ref C) = some b) : exmOne K cls (.ref C) = some b := by
  have a1 : (subIn K (.ref C) (.type "BaseException") == some true) = true := by rw [h1]; rfl
  have a2 : ((clsIn K C).isSome && typeIn K (.ref C) == some (.type "type")) = true := by rw [show (clsIn K C).isSome = true from h2, h3]; rfl
  show (if (subIn K (.ref C) (.type "BaseException") == some true) = true then _ else none) = some b
  rw [if_pos a1]
  show (if ((clsIn K C).isSome && typeIn K (.ref C) == some (.type "type")) = true then _ else none) = some b
  rw [if_pos a2]
  exact h4
theorem exm_ne {K : PySem.W.Frag} {B C : Addr} (h1 : PySem.W.exmOne K (.ref C) (.ref C) = some true) (h2 : PySem.W.exmOne K (.ref B) (.ref C) = some false) : B ≠ C := fun e => by
  rw [e, h1] at h2
  cases h2
theorem b_ValueError : bootBuiltins "ValueError" = some (.type "ValueError") := by decide +kernel
theorem b_LookupError : bootBuiltins "LookupError" = some (.type "LookupError") := by decide +kernel
theorem b_ArithmeticError : bootBuiltins "ArithmeticError" = some (.type "ArithmeticError") := by decide +kernel
theorem refs_tail (l : List Addr) : PySem.HandSPX.refsVE (l.map Value.ref ++ PySem.HandSPX.veTail) = true := by
  induction l with
  | nil => decide +kernel
  | cons a l ih => exact ih
def gUpper (d : D) (_ : Store) : Option D := match d with
  | .str a => if a.length ≤ 5592405 then some (.str (Txt.upper a)) else none
  | _ => none
theorem de_upper {X : Cx} {Wx : WX} {o : Expr} {mo : EM D} {apos pos : Pos} (ho : DE X Wx o mo) (hb : attributeBase o "upper" X.env (eval o X.env) = eval o X.env := by rfl) (hl : (apos.endLine == pos.line) = true := by rfl) : DE X Wx (.Call (.Attribute o "upper" apos) [] [] pos) (unE gUpper mo) := by
  refine de_of (pe_upper ho.p hb hl) fun W st S σ Q at_ q => ?_
  refine goE at_ q fun W1 d S1 v l a1 r q1 => ?_
  obtain ⟨x, hx, q2⟩ := vq_of q1
  cases d <;> try cases hx
  rename_i a
  unfold gUpper at hx
  simp only at hx
  split at hx
  · rename_i hz
    cases hx
    obtain rfl := rep_s r
    exact ⟨⟨a, rfl⟩, a, rfl, rfl, hz, q2 W1 _ (.refl W1) a1.s rep_sI⟩
  · cases hx
/-- some by name, the rest by defaults -/
theorem bd_pickD {K : PySem.W.Frag} {fd : FuncData} {ps ks : List Str} {n m : Nat} {T : Addr} {o : Obj} {its : Array Value} {dd : List D} {dvs : List V} {dus : List Value} (js : List Nat) (hl : ∀ {α : Type} (us ws : List α), us.length = n → ws.length = ks.length + dd.length → (pick js us ws).length = ps.length)
    (lT : K.lookup T = some o) (oT : o.data = .seq its m) (hv : Vals dvs dus) (hd : ∀ W, RepL K W dd dvs)
    (hb : ∀ us ws : List Value, us.length = n → ws.length = ks.length → ∃ k, bindArgs fd ⟨us, ks.zip ws⟩ = seqItems? (.ref T) >>= k ∧ k (some its) = pure (ps.zip (pick js us (ws ++ dus)))) : BD K fd ps ks n (fun ds es => pick js ds (es ++ dd)) :=
  ⟨fun ds es h1 h2 => hl ds _ h1 (by rw [List.length_append, h2]), fun s W ds es vs zs us ws kin r1 r2 v1 v2 h1 h2 => by
    obtain ⟨k, e1, e2⟩ := hb us ws (by rw [← v1.length, ← r1.length, h1]) (by rw [← v2.length, ← r2.length, h2])
    refine ⟨pick js us (ws ++ dus), pick js vs (zs ++ dvs), L2.BindsTo.of_looks fun M => ?_, vals_pick v1 (v2.append hv), repL_pick r1 (repL_append r2 (hd W))⟩
    rw [e1]
    exact looks_items kin lT oT (.of_pure e2)⟩
end KF

set_option Elab.async false
set_option linter.all false
set_option maxRecDepth 100000
set_option maxHeartbeats 4000000
/-! QG: an own list is handed out as a cell. -/
namespace KF
open PySem PySem.Spec PyProof.Rows L2
section
variable {ρ τ κ : Type} {X : Cx} {Wx : WX} {M : Mode ρ τ κ} {ss : List Stmt} {st : DSt} {pos vp : Pos} {x : Str} {xs : List D}
theorem dh_retCl {r : D → ρ} (i : Nat) (hj : ∀ d, M.J (r d) = .rt d) (hs : st[i]? = some (some (.o xs)) := by rfl) (hN : X.N[i]? = some x := by rfl) (hv : Vis X.env.scope x := by first | exact Or.inl rfl | exact Or.inr (Or.inl rfl) | exact Or.inr (Or.inr rfl)) (hd : (x == ("__debug__" : Str)) = false := by decide)
    (hcd : (x == ("__classdict__" : Str)) = false := by decide) : DH X Wx M (.Return (some (.Name x vp)) pos :: ss) st (fun S => .ok (r (.cell S.length)) (S ++ [.lst xs])) :=
  dh_of (pss_cons (ps_ret (pe_var hN hv hd hcd)) pss_never) fun W S σ D c a q => by
    obtain ⟨v, h1, h2⟩ := a.e.at_ i _ hs
    obtain ⟨b, vs, rfl, q1, q2, q3, q4⟩ := h2
    unfold HQ at q
    simp only at q
    rw [hj] at q
    have nb : b ∉ W.N := (a.s.lk b q3).2
    have ev1 : W.ev (W.unlock b) := Wd.unlock_ev
    have ev2 : (W.unlock b).ev ((W.unlock b).name b) := Wd.name_le.toev
    have s2 : SRep X.K ((W.unlock b).name b) (S ++ [.lst xs]) := (a.s.unlock (a := b)).name nb q2 (fun z => z.2 rfl) ⟨vs, q1, q2, q4.monoE (ev1.trans ev2) _ _⟩
    have own : ownA st σ b := ⟨i, .o xs, hs, rfl, h1⟩
    have le : LeX (ownA st σ) W ((W.unlock b).name b) := ⟨ev1.trans ev2, fun y o hl hp ho => ⟨⟨hl, fun e => hp (e ▸ own)⟩, ho⟩, fun y o hl hp ho hm => hm⟩
    exact ⟨.ref b, h1, q ((W.unlock b).name b) (.ref b) le s2 (by
      simp only [Rep]
      refine ⟨b, rfl, ?_⟩
      show (W.N ++ [b])[S.length]? = some b
      rw [← a.s.len]
      simp)⟩
end
end KF

set_option linter.all false
set_option maxRecDepth 100000
/-! QH: x -= e, x += e, of ints. -/
namespace KF
open PySem L2
def augI {ρ : Type} (x : D) (r : Int → Res ρ) : Res ρ := match x with
  | .int n => r n
  | _ => .bad
def augB (f : Int → Int → Int) (n : Int) (y : D) (S : Store) : Res D := match y with
  | .int m => .ok (.int (f n m)) S
  | _ => .bad
section
variable {ρ τ κ : Type} {X : Cx} {Wx : WX} {M : Mode ρ τ κ} {ss : List Stmt} {st : DSt} {e : Expr} {me : EM D} {pos : Pos} {i : Nat} {nm : Str}
theorem dh_aug {op : Operator} {f : Int → Int → Int} {x : D} {pos' : Pos} {k : D → Store → Res ρ} (i : Nat) (hN : X.N.Nodup) (ho : PIp X op (ipI f)) (h : DE X Wx e me) (hk : ∀ d, DH X Wx M ss (st.set i (some (.v d))) (k d)) (hs : st[i]? = some (some (.v x)) := by rfl) (hi : X.N[i]? = some nm := by rfl) (hx : Loc X.env.scope nm := by first | exact Or.inl rfl | exact Or.inr rfl)
    (hf : X.fn nm = true ∨ X.env.scope.names.lookup nm = some .local := by first | exact .inl rfl | exact .inr rfl | assumption) (hse : SubX M.se st := by exact .inl rfl) :
    DH X Wx M (.AugAssign (.Name nm pos') op e pos :: ss) st (fun S => augI x fun n => (me st S).bind fun y S1 => (augB f n y S1).bind k) := by
  refine dh_of (t := tSeq (tAug i (tD X.K Wx me) (ipI f)) (fun D σ H => ∃ d, tH X.K Wx M (st.set i (some (.v d))) (k d) D σ H)) (pss_cons (ps_aug hN hi hx h.p ho hf) ⟨fun pins s σ H D I ⟨d, q⟩ => (hk d).p.run pins s σ H D I q⟩) fun W S σ D c a q => ?_
  cases x with
  | int n =>
    obtain ⟨v, e1, r1⟩ := a.e.get hs
    obtain rfl := rep_i r1
    refine ⟨_, e1, goH a hse q fun W1 d S1 v l a1 rv q1 => ?_⟩
    cases d with
    | int m =>
      obtain rfl := rep_i rv
      have q2 : HQ X.K W1 (ownA st σ) M D Wx (k (.int (f n m)) S1) := q1
      exact ⟨n, m, rfl, rfl, .int (f n m), c, W1, S1, ⟨rfl, a1.s, a1.e.set i (show Rep X.K W1 (.int (f n m)) (.int (f n m)) from rep_iI)⟩, q2.mono a1.s ((Wd.le.refl W1).evo fun b hb => (own_set hb).elim id fun ⟨z1, z2⟩ => by cases z1)⟩
    | _ => exact q1.elim
  | _ => exact q.elim
end
/-! ### x is False, x is True -/
theorem op_isB {X : Cx} : OpR X (compareOp .Is) (fun x y H Q => ∃ b, y = V.bl b ∧ Q (.bl (decide (x = .bl b))) H) := by
  intro pins s σ H x y v u Q I rx ry h
  obtain ⟨b, rfl, q⟩ := h
  cases ry
  cases x with
  | bl a =>
    cases rx
    refine wpAny_is_plain rfl (fin_bl I q ?_)
    cases a <;> cases b <;> rfl
  | _ =>
    refine wpAny_is_plain ?_ (fin_bl I q ?_) <;> first
      | (cases rx; rfl)
      | (obtain ⟨t, rfl⟩ := rx; rfl)
def isBl (b : Bool) : D → Bool
  | .bl a => a == b
  | _ => false
theorem bl_iff {K : PySem.W.Frag} {W : Wd} {d : D} {v : V} {b : Bool} (h : Rep K W d v) : decide (v = .bl b) = isBl b d := by
  cases d <;> simp only [Rep] at h <;> simp only [isBl]
  case bl a => subst h; cases a <;> cases b <;> rfl
  all_goals first
    | (subst h; simp; done)
    | (obtain ⟨_, _, rfl, _⟩ := h; simp; done)
    | (obtain ⟨_, rfl, _⟩ := h; simp; done)
    | (obtain ⟨_, _, _, rfl, _⟩ := h; simp; done)
    | (obtain ⟨rfl, _⟩ := h; simp; done)
def gIsB (x y : D) (_ : Store) : Option D := match y with
  | .bl b => some (.bl (isBl b x))
  | _ => none
theorem op_isBK {X : Cx} : OpD X (compareOp .Is) gIsB := by
  refine opD_of op_isB fun W S dx dy d x y Q sr rx ry e k => ?_
  unfold gIsB at e
  cases dy <;> simp only at e <;> cases e
  rename_i b
  obtain rfl := rep_b ry
  refine ⟨b, rfl, ?_⟩
  rw [bl_iff rx]
  exact k W _ (.refl W) sr (rep_blI _)
/-! ### repr, of an empty dict, too -/
def gReprE (x : D) (S : Store) : Option D := match x with
  | .dct [] [] => some (.str (dictText []))
  | x => gRepr x S
theorem call_reprE {X : Cx} (gd : X.A.guards = some []) (hu : X.A.units + 64 < cLine) : CallD X (.builtin "repr") (g1 gReprE) := ⟨fun pins s σ H xs us Q I rv ⟨W, S, ds, d, S', eH, sr, rl, eg, q⟩ => by
  have old := fun e => (call_reprK gd hu).p pins s σ H xs us Q I rv ⟨W, S, ds, d, S', eH, sr, rl, e, q⟩
  match ds, eg with
  | [], eg => cases eg
  | _ :: _ :: _, eg => cases eg
  | [x], eg =>
    by_cases hx : x = .dct [] []
    · subst hx
      subst eH
      obtain ⟨v, rfl, rx⟩ := repL_1 rl
      have e2 : some (KF.D.str (dictText []), S) = some (d, S') := eg
      cases e2
      simp only [Rep] at rx
      obtain ⟨a, vs, rfl, hr, _, hl, _⟩ := rx
      obtain ⟨u, rfl, ru⟩ : ∃ u, us = [u] ∧ RelV (.ref a) u := by
        cases rv with
        | cons h1 h2 => cases h2; exact ⟨_, rfl, h1⟩
      cases ru
      have hv : vs = [] := by
        cases vs with
        | nil => rfl
        | cons _ _ => simp at hl
      subst hv
      obtain ⟨_, lo, ws, rk, o, es, n, h1, h2, h3, _, pr, _⟩ := dk_rd I.hok hr
      have hw : ws = [] := by cases rk; rfl
      subst hw
      have he : es.toList = [] := by cases hh : es.toList with
        | nil => rfl
        | cons x y => rw [hh] at pr; cases pr
      refine repr_of_reads' (d := .dict []) (as := a :: [] ++ []) (Reads.dict h1 h2.1 h3 (by rw [he]; exact .nil) (by rw [he]; exact .nil)) rfl (fun _ z => ?_) gd (by show X.A.units + _ < cLine; simp only [PyData.depth, PyData.depthKv]; omega) (fun _ _ e => e) fun h' t k hk => ?_
      · have e : sysModules = a := by simpa using z
        rw [e] at lo
        simp at lo
      · exact ⟨.str (dictText []), W.H, I.kept (t' := k) hk, ⟨_, rfl⟩, q W _ (.refl W) sr rep_sI⟩
    · exact old (by
        have : g1 gReprE [x] S = g1 gRepr [x] S := by
          show (gReprE x S).map _ = (gRepr x S).map _
          unfold gReprE
          split
          · exact absurd rfl hx
          · rfl
        rw [← this]
        exact eg)⟩
end KF

set_option linter.all false
set_option maxRecDepth 100000
/-! kindsfollow_k13_whole_places_of_rows's defs; printed by gen4.py -/
namespace KK
open PySem L2 KF
/-- where the classes of the errors stand -/
structure Ex where
  InvalidBlocks : Addr
  InvalidNumber : Addr
structure Ex.Ok (ex : Ex) : Prop where
  n_InvalidBlocks_InvalidNumber : ex.InvalidBlocks ≠ ex.InvalidNumber
def P_law_dip (a0 : D) (a1 : D) (S : Store) : Res D := (((Res.of (gIx a0 (D.int 1) S) S).bind fun d1 S => Res.of (gGt d1 (D.int 0) S) S).bind fun d2 S => Res.of (asB d2) S).bind fun k3 S => if k3 then (((Res.of (gIx a0 (D.int 1) S) S).bind fun d4 S => Res.ok [d4, a1] S).bind fun ds5 S => Res.of2 ((g2 gDivmod) ds5 S)).bind fun d6 S => unT2 d6 fun e7 e8 => (setR a0 (D.int 1) e7 S).bind fun _ S => Res.ok e8 S else ((Res.of (gIx a0 (D.int 2) S) S).bind fun d9 S => Res.of (gAdd d9 (D.int 1) S) S).bind fun d10 S => (setR a0 (D.int 2) d10 S).bind fun _ S => (((((((Res.of (gIx a0 (D.int 0) S) S).bind fun d11 S => Res.of (gMul d11 (D.int 39373) S) S).bind fun d15 S => (((Res.of (gIx a0 (D.int 2) S) S).bind fun d12 S => Res.of (gMul (D.int 7) d12 S) S).bind fun d13 S => (Res.of (gIx a0 (D.int 2) S) S).bind fun d14 S => Res.of (gMul d13 d14 S) S).bind fun d16 S => Res.of (gAdd d15 d16 S) S).bind fun d17 S => Res.of (gAdd d17 (D.int 101) S) S).bind fun d18 S => Res.ok [d18] S).bind fun ds19 S => Res.of2 ((g1 gInt) ds19 S)).bind fun d20 S => Res.of (gMod d20 (D.int 2147483629) S) S).bind fun d21 S => (setR a0 (D.int 0) d21 S).bind fun _ S => ((((Res.of (gIx a0 (D.int 0) S) S).bind fun d22 S => Res.of (gDiv d22 (D.int 64) S) S).bind fun d23 S => Res.ok [d23] S).bind fun ds24 S => Res.of2 ((g1 gInt) ds24 S)).bind fun d25 S => Res.of (gMod d25 a1 S) S
def M_law_dip : List D → Store → Res D := fun ds S => match ds with
  | [a0, a1] => P_law_dip a0 a1 S
  | _ => .bad
def P_law_names (a0 : D) (a1 : D) (S : Store) : Res D := (Res.ok (D.lst [(D.str (Str.ofString "kinds")), (D.str (Str.ofString "pair")), (D.str (Str.ofString "first")), (D.str (Str.ofString "last")), (D.str (Str.ofString "few")), (D.str (Str.ofString "apart")), (D.str (Str.ofString "a")), (D.str (Str.ofString "border"))]) S).bind fun d1 S => ((((lstCR [] S).bind fun d2 S => Res.ok [d2] S).bind fun ds3 S => Res.ok ((D.str (Str.ofString "abcdefghijklmnopqrstuvwxyz0123456789")) :: ds3) S).bind tupR).bind fun d4 S => unT2 d4 fun e5 e6 => (rng1R a1 S).bind fun ds32 S => thnF (forP (fun d8 (s7 : D) S => ((((P_law_dip a0 (D.int 4) S).bind fun d9 S => Res.of (gEq d9 (D.int 0) S) S).bind fun d10 S => Res.of (asB d10) S).bind fun k11 S => if k11 then P_law_dip a0 (D.int 8) S else P_law_dip a0 (D.int 2) S).bind fun d12 S => (((P_law_dip a0 (D.int 26) S).bind fun d13 S => Res.of (gIx e5 d13 S) S).bind fun d16 S => (if okS S (D.str (Str.ofString "")) then (((lcE (rng1E (vE 6)) (nameP 9) yesT (opE gIx (vE 3) (callF (fnM 2 (M_law_dip)) (seqE [(vE 0), (cE (.int 36))]))) [9]) [some (Sl.v a0), some (Sl.v a1), some (Sl.v d1), some (Sl.v e5), some (Sl.v s7), some (Sl.v d8), some (Sl.v d12), none, none, none, none] S).bind fun d14 S => Res.ok [d14] S).bind fun ds15 S => Res.of2 (mJoin (D.str (Str.ofString "")) ds15 S) else Res.bad).bind fun d17 S => Res.of (gAdd d16 d17 S) S).bind fun d18 S => (((P_law_dip a0 (D.int 5) S).bind fun d19 S => Res.of (gEq d19 (D.int 0) S) S).bind fun d20 S => Res.of (asB d20) S).bind fun k21 S => thnS (if k21 then ((P_law_dip a0 (D.int 8) S).bind fun d22 S => Res.of (gIx d1 d22 S) S).bind fun d23 S => Res.ok (Step.nx d23) S else Res.ok (Step.nx d18) S) fun (s24 : D) S => (((lcE (rng1E (vE 1)) (nameP 9) yesT (opE gAdd (cE (.str (Str.ofString "z"))) (callE (g1 gStr) (seqE [(vE 9)]))) [9]) [some (Sl.v a0), some (Sl.v a1), some (Sl.v d1), some (Sl.v e5), some (Sl.v s7), some (Sl.v d8), some (Sl.v d12), some (Sl.v s24), none, none, none] S).bind fun d25 S => Res.of (gAdd (D.lst [s24]) d25 S) S).bind fun d26 S => (if okL S s7 then ((((lcE (itE (vE 8)) (nameP 10) (bE (opE gNotIn (vE 10) (vE 4))) (vE 10) [10]) [some (Sl.v a0), some (Sl.v a1), some (Sl.v d1), some (Sl.v e5), some (Sl.v s7), some (Sl.v d8), some (Sl.v d12), some (Sl.v s24), some (Sl.v d26), none, none] S).bind fun d27 S => Res.of (gIx d27 (D.int 0) S) S).bind fun d28 S => Res.ok [d28] S).bind fun ds29 S => Res.of2 (mAppend s7 ds29 S) else Res.bad).bind fun d30 S => Res.ok (Step.nx s7) S) ds32 e6 S) fun (s31 : D) S => Res.ok s31 S
def M_law_names : List D → Store → Res D := fun ds S => match ds with
  | [a0, a1] => P_law_names a0 a1 S
  | _ => .bad
def P_law_row (a0 : D) (S : Store) : Res D := (((P_law_names a0 (D.int 4) S).bind fun d2 S => ((lstCR [] S).bind fun d1 S => Res.ok [d1] S).bind fun ds3 S => Res.ok (d2 :: ds3) S).bind tupR).bind fun d4 S => unT2 d4 fun e5 e6 => (((P_law_dip a0 (D.int 5) S).bind fun d7 S => Res.of (gAdd (D.int 1) d7 S) S).bind rng1R).bind fun ds31 S => thnF (forP (fun d9 (s8 : D) S => ((((lcE (rng1E (opE gAdd (cE (.int 1)) (callF (fnM 2 (M_law_dip)) (seqE [(vE 0), (cE (.int 4))])))) (nameP 6) yesT (opE gIx (vE 1) (callF (fnM 2 (M_law_dip)) (seqE [(vE 0), (cE (.int 4))]))) [6]) [some (Sl.v a0), some (Sl.v e5), some (Sl.v s8), some (Sl.v d9), none, none, none] S).bind fun d10 S => Res.ok [d10] S).bind fun ds11 S => Res.of2 ((g1 gTuple) ds11 S)).bind fun d12 S => ((((((P_law_dip a0 (D.int 5) S).bind fun d13 S => Res.of (gAdd (D.int 1) d13 S) S).bind fun d23 S => (((Res.of (gPow (D.int 10) (D.int 30) S) S).bind fun d14 S => (P_law_dip a0 (D.int 3) S).bind fun d15 S => Res.of (gSub d14 d15 S) S).bind fun d21 S => ((((((Res.of (gPow (D.int 10) (D.int 9) S) S).bind fun d16 S => Res.ok [d16] S).bind fun ds17 S => Res.ok (a0 :: ds17) S).bind fun ds18 S => fnM 2 (M_law_dip) ds18 [] S).bind fun d19 S => Res.of (gAdd (D.int 1) d19 S) S).bind fun d20 S => Res.ok [d20] S).bind fun ds22 S => Res.ok (d21 :: ds22) S).bind fun ds24 S => Res.ok (d23 :: ds24) S).bind fun ds25 S => Res.ok ((D.int 1) :: ds25) S).bind lstR).bind fun d26 S => (P_law_dip a0 (D.int 4) S).bind fun d27 S => Res.of (gIx d26 d27 S) S).bind fun d28 S => (if okL S s8 then Res.of2 (mAppend s8 [(D.tup [d12, d28])] S) else Res.bad).bind fun d29 S => Res.ok (Step.nx s8) S) ds31 e6 S) fun (s30 : D) S => Res.ok s30 S
def M_law_row : List D → Store → Res D := fun ds S => match ds with
  | [a0] => P_law_row a0 S
  | _ => .bad
def P_is_integer (a0 : D) (S : Store) : Res D := (Res.of2 (g2 (gIsi []) [a0, (D.ty "int")] S)).bind fun d1 S => andR d1 S fun S => (Res.of2 (g2 (gIsi []) [a0, (D.ty "bool")] S)).bind notR
def M_is_integer : List D → Store → Res D := fun ds S => match ds with
  | [a0] => P_is_integer a0 S
  | _ => .bad
def P_is_within (a0 : D) (a1 : D) (a2 : D) (S : Store) : Res D := (P_is_integer a0 S).bind fun d2 S => andR d2 S fun S => (Res.of (gLe a1 a0 S) S).bind fun k1 S => chR k1 S fun S => Res.of (gLe a0 a2 S) S
def M_is_within : List D → Store → Res D := fun ds S => match ds with
  | [a0, a1, a2] => P_is_within a0 a1 a2 S
  | _ => .bad
def P_is_name (a0 : D) (S : Store) : Res D := ((((Res.of2 (g2 (gIsi []) [a0, (D.ty "str")] S)).bind fun d7 S => Res.of (asB d7) S).bind fun k6 S => Res.ok (!k6) S).bind fun k5 S => if k5 then Res.ok true S else (((Res.of2 ((g1 gLen) [a0] S)).bind fun d2 S => (Res.of (gLe (D.int 1) d2 S) S).bind fun k3 S => chR k3 S fun S => Res.of (gLe d2 (D.int 8) S) S).bind fun d4 S => Res.of (asB d4) S).bind fun k1 S => Res.ok (!k1) S).bind fun k8 S => if k8 then Res.ok (D.bl false) S else ((Res.of (gIx a0 (D.int 0) S) S).bind fun d11 S => Res.of (gIn d11 (D.str (Str.ofString "abcdefghijklmnopqrstuvwxyz")) S) S).bind fun d12 S => andR d12 S fun S => (((lcE (itE (vE 0)) (nameP 1) yesT (orE (opE gIn (vE 1) (cE (.str (Str.ofString "abcdefghijklmnopqrstuvwxyz")))) (opE gIn (vE 1) (cE (.str (Str.ofString "0123456789"))))) [1]) [some (Sl.v a0), none] S).bind fun d9 S => Res.ok [d9] S).bind fun ds10 S => Res.of2 ((g1 gAll) ds10 S)
def M_is_name : List D → Store → Res D := fun ds S => match ds with
  | [a0] => P_is_name a0 S
  | _ => .bad
def P_is_block (a0 : D) (S : Store) : Res D := ((((Res.of2 (g2 (gIsi []) [a0, (D.ty "tuple")] S)).bind fun d15 S => Res.of (asB d15) S).bind fun k14 S => Res.ok (!k14) S).bind fun k13 S => if k13 then Res.ok true S else (((Res.of2 ((g1 gLen) [a0] S)).bind fun d11 S => Res.of (gNe d11 (D.int 2) S) S).bind fun d12 S => Res.of (asB d12) S).bind fun k10 S => if k10 then Res.ok true S else (((((Res.of (gIx a0 (D.int 0) S) S).bind fun d7 S => Res.ok [d7, (D.ty "tuple")] S).bind fun ds8 S => Res.of2 (g2 (gIsi []) ds8 S)).bind fun d9 S => Res.of (asB d9) S).bind fun k6 S => Res.ok (!k6) S).bind fun k5 S => if k5 then Res.ok true S else ((((Res.of (gIx a0 (D.int 0) S) S).bind fun d1 S => Res.ok [d1] S).bind fun ds2 S => Res.of2 ((g1 gLen) ds2 S)).bind fun d3 S => Res.of (gEq d3 (D.int 0) S) S).bind fun d4 S => Res.of (asB d4) S).bind fun k16 S => if k16 then Res.ok (D.bl false) S else ((((lcE (itE (opE gIx (vE 0) (cE (.int 0)))) (nameP 1) yesT (callF (fnM 1 (M_is_name)) (seqE [(vE 1)])) [1]) [some (Sl.v a0), none] S).bind fun d19 S => Res.ok [d19] S).bind fun ds20 S => Res.of2 ((g1 gAll) ds20 S)).bind fun d21 S => andR d21 S fun S => ((Res.of (gIx a0 (D.int 1) S) S).bind fun d17 S => Res.ok [d17, (D.int 1), (D.int 1000000000000000000000000000000)] S).bind fun ds18 S => fnM 3 (M_is_within) ds18 [] S
def M_is_block : List D → Store → Res D := fun ds S => match ds with
  | [a0] => P_is_block a0 S
  | _ => .bad
noncomputable def P_check_blocks (ex : Ex) (a0 : D) (S : Store) : Res D := (((Res.of2 (g2 (gIsi []) [a0, (D.ty "tuple")] S)).bind fun d2 S => Res.of (asB d2) S).bind fun k1 S => Res.ok (!k1) S).bind fun k3 S => if k3 then raiR ex.InvalidBlocks (Str.ofString "index") (Res.ok D.non S) else ((seqN a0 S).bind fun xs S => Res.ok (numD 0 xs) S).bind fun ds12 S => thnF (forP (fun d5 (s4 : Unit) S => unT2 d5 fun e6 e7 => (((P_is_block e7 S).bind fun d9 S => Res.of (asB d9) S).bind fun k8 S => Res.ok (!k8) S).bind fun k10 S => if k10 then raiR ex.InvalidBlocks (Str.ofString "index") (Res.ok e6 S) else Res.ok (Step.nx ()) S) ds12 () S) fun (s11 : Unit) S => Res.ok D.non S
noncomputable def M_check_blocks (ex : Ex) : List D → Store → Res D := fun ds S => match ds with
  | [a0] => P_check_blocks ex a0 S
  | _ => .bad
def P_length_of (a0 : D) (S : Store) : Res D := (((lcE (itE (vE 0)) (tupP 2 (consP (nameP 1) (consP (nameP 2) nilP))) yesT (opE gMul (callE (g1 gLen) (seqE [(vE 1)])) (vE 2)) [1, 2]) [some (Sl.v a0), none, none] S).bind fun d1 S => Res.ok [d1] S).bind fun ds2 S => Res.of2 ((g1 gSum) ds2 S)
def M_length_of : List D → Store → Res D := fun ds S => match ds with
  | [a0] => P_length_of a0 S
  | _ => .bad
noncomputable def P_size_of (ex : Ex) (a0 : D) (S : Store) : Res D := (P_check_blocks ex a0 S).bind fun d1 S => P_length_of a0 S
noncomputable def M_size_of (ex : Ex) : List D → Store → Res D := fun ds S => match ds with
  | [a0] => P_size_of ex a0 S
  | _ => .bad
noncomputable def P_kind_at (ex : Ex) (a0 : D) (a1 : D) (S : Store) : Res D := (P_check_blocks ex a0 S).bind fun d1 S => ((((P_is_integer a1 S).bind fun d8 S => Res.of (asB d8) S).bind fun k7 S => Res.ok (!k7) S).bind fun k6 S => if k6 then Res.ok true S else (((Res.of (gLe (D.int 0) a1 S) S).bind fun k3 S => chR k3 S fun S => (P_length_of a0 S).bind fun d4 S => Res.of (gLt a1 d4 S) S).bind fun d5 S => Res.of (asB d5) S).bind fun k2 S => Res.ok (!k2) S).bind fun k9 S => if k9 then raiR ex.InvalidNumber (Str.ofString "given") (Res.ok a1 S) else (seqOf a0 S).bind fun ds27 S => thnF (forP (fun d11 (s10 : D) S => unT2 d11 fun e12 e13 => ((((Res.of2 ((g1 gLen) [e12] S)).bind fun d14 S => Res.of (gMul d14 e13 S) S).bind fun d15 S => Res.of (gLt s10 d15 S) S).bind fun d16 S => Res.of (asB d16) S).bind fun k17 S => thnS (if k17 then (((Res.of2 ((g1 gLen) [e12] S)).bind fun d18 S => Res.of (gMod s10 d18 S) S).bind fun d19 S => Res.of (gIx e12 d19 S) S).bind fun d20 S => Res.ok (Step.rt d20) S else Res.ok (Step.nx ()) S) fun (s21 : Unit) S => augI s10 fun n23 => ((Res.of2 ((g1 gLen) [e12] S)).bind fun d22 S => Res.of (gMul d22 e13 S) S).bind fun d24 S => (augB (fun i j => i - j) n23 d24 S).bind fun d25 S => Res.ok (Step.nx d25) S) ds27 a1 S) fun (s26 : D) S => Res.ok D.non S
noncomputable def M_kind_at (ex : Ex) : List D → Store → Res D := fun ds S => match ds with
  | [a0, a1] => P_kind_at ex a0 a1 S
  | _ => .bad
open Classical in
noncomputable def P_law_based (ex : Ex) (c : Value) (ks : List Str) (xs : List D) (S : Store) : Res D := if c = .ref ex.InvalidBlocks then ((((Res.ok (D.bl true) S).bind fun d4 S => ((Res.ok (D.bl false) S).bind fun d2 S => ((Res.ok (D.bl false) S).bind fun d1 S => Res.ok [d1] S).bind fun ds3 S => Res.ok (d2 :: ds3) S).bind fun ds5 S => Res.ok (d4 :: ds5) S).bind lstR).bind fun d6 S => (((Res.ok (D.bl true) S).bind fun d10 S => ((Res.ok (D.bl false) S).bind fun d8 S => ((Res.ok (D.bl false) S).bind fun d7 S => Res.ok [d7] S).bind fun ds9 S => Res.ok (d8 :: ds9) S).bind fun ds11 S => Res.ok (d10 :: ds11) S).bind lstR).bind fun d12 S => (Res.of (gEq d6 d12 S) S).bind fun k13 S => chR k13 S fun S => Res.of (gEq d12 (D.lst [(D.bl true), (D.bl false), (D.bl false)]) S) S) else if c = .ref ex.InvalidNumber then ((((Res.ok (D.bl true) S).bind fun d4 S => ((Res.ok (D.bl false) S).bind fun d2 S => ((Res.ok (D.bl false) S).bind fun d1 S => Res.ok [d1] S).bind fun ds3 S => Res.ok (d2 :: ds3) S).bind fun ds5 S => Res.ok (d4 :: ds5) S).bind lstR).bind fun d6 S => (((Res.ok (D.bl true) S).bind fun d10 S => ((Res.ok (D.bl false) S).bind fun d8 S => ((Res.ok (D.bl false) S).bind fun d7 S => Res.ok [d7] S).bind fun ds9 S => Res.ok (d8 :: ds9) S).bind fun ds11 S => Res.ok (d10 :: ds11) S).bind lstR).bind fun d12 S => (Res.of (gEq d6 d12 S) S).bind fun k13 S => chR k13 S fun S => Res.of (gEq d12 (D.lst [(D.bl true), (D.bl false), (D.bl false)]) S) S) else Res.bad
noncomputable def M_law_based (ex : Ex) : List D → Store → Res D := fun ds S => match ds with
  | [.exn c _ _ ks xs] => P_law_based ex c ks xs S
  | _ => .bad
noncomputable def P_law_told (ex : Ex) (a0 : D) (a1 : D) (a2 : D) (S : Store) : Res D := thnF (tryR (((Res.of (gEq a0 (D.int 0) S) S).bind fun d1 S => Res.of (asB d1) S).bind fun k2 S => if k2 then ((((((P_size_of ex a1 S).bind fun d3 S => Res.ok [d3] S).bind fun ds4 S => Res.of2 ((g1 gReprE) ds4 S)).bind fun d5 S => Res.ok [d5] S).bind fun ds6 S => Res.ok ((D.str (Str.ofString "told")) :: ds6) S).bind tupR).bind fun d7 S => Res.ok (Step.nx d7) S else ((Res.of (gEq a0 (D.int 1) S) S).bind fun d8 S => Res.of (asB d8) S).bind fun k9 S => if k9 then ((((((P_kind_at ex a1 a2 S).bind fun d10 S => Res.ok [d10] S).bind fun ds11 S => Res.of2 ((g1 gReprE) ds11 S)).bind fun d12 S => Res.ok [d12] S).bind fun ds13 S => Res.ok ((D.str (Str.ofString "told")) :: ds13) S).bind tupR).bind fun d14 S => Res.ok (Step.nx d14) S else (((((((bnd 0 2 (fun ds es => pick [1, 0] ds es) (M_kind_at ex)) [] [a2, a1] S).bind fun d15 S => Res.ok [d15] S).bind fun ds16 S => Res.of2 ((g1 gReprE) ds16 S)).bind fun d17 S => Res.ok [d17] S).bind fun ds18 S => Res.ok ((D.str (Str.ofString "told")) :: ds18) S).bind tupR).bind fun d19 S => Res.ok (Step.nx d19) S) ((catR ex.InvalidBlocks [ex.InvalidNumber] (fun ks xs S => (((P_law_based ex (Value.ref ex.InvalidBlocks) ks xs S).bind fun d27 S => Res.of (asB d27) S).bind fun k28 S => if k28 then (((((xfR (Str.ofString "index") ks xs S).bind fun d29 S => Res.ok [d29] S).bind fun ds30 S => Res.of2 ((g1 gReprE) ds30 S)).bind fun d31 S => Res.ok [d31] S).bind fun ds32 S => Res.ok ((D.str (Str.ofString "blocks")) :: ds32) S).bind tupR else Res.ok (D.tup [(D.str (Str.ofString "odd")), (D.str (Str.ofString ""))]) S).bind fun d33 S => Res.ok (Step.nx d33) S) (catR ex.InvalidNumber [] (fun ks xs S => (((P_law_based ex (Value.ref ex.InvalidNumber) ks xs S).bind fun d20 S => Res.of (asB d20) S).bind fun k21 S => if k21 then (((((xfR (Str.ofString "given") ks xs S).bind fun d22 S => Res.ok [d22] S).bind fun ds23 S => Res.of2 ((g1 gReprE) ds23 S)).bind fun d24 S => Res.ok [d24] S).bind fun ds25 S => Res.ok ((D.str (Str.ofString "number")) :: ds25) S).bind tupR else Res.ok (D.tup [(D.str (Str.ofString "odd")), (D.str (Str.ofString ""))]) S).bind fun d26 S => Res.ok (Step.nx d26) S) (fun e S => Res.err e S))))) fun (s34 : D) S => Res.ok s34 S
noncomputable def M_law_told (ex : Ex) : List D → Store → Res D := fun ds S => match ds with
  | [a0, a1, a2] => P_law_told ex a0 a1 a2 S
  | _ => .bad
noncomputable def P_law_right_places (ex : Ex) (a0 : D) (a1 : D) (S : Store) : Res D := (Res.ok (D.int 0) S).bind fun d1 S => (seqOf a1 S).bind fun ds49 S => thnF (forP (fun d3 (s2 : D) S => unT2 d3 fun e4 e5 => ((Res.of2 ((g1 gLen) [e4] S)).bind fun d6 S => Res.of (gMul d6 e5 S) S).bind fun d7 S => (((((Res.of2 ((g1 gLen) [e4] S)).bind fun d8 S => Res.of (gSub d8 (D.int 1) S) S).bind fun d20 S => ((Res.of (gSub d7 (D.int 1) S) S).bind fun d18 S => ((((Res.of (gSub d7 (D.int 1) S) S).bind fun d10 S => ((Res.of2 ((g1 gLen) [e4] S)).bind fun d9 S => Res.ok [d9] S).bind fun ds11 S => Res.ok (d10 :: ds11) S).bind fun ds12 S => Res.of2 ((g2 gMin) ds12 S)).bind fun d16 S => ((((P_law_dip a0 (D.int 1000) S).bind fun d13 S => Res.of (gMul d7 d13 S) S).bind fun d14 S => Res.of (gDiv d14 (D.int 1000) S) S).bind fun d15 S => Res.ok [d15] S).bind fun ds17 S => Res.ok (d16 :: ds17) S).bind fun ds19 S => Res.ok (d18 :: ds19) S).bind fun ds21 S => Res.ok (d20 :: ds21) S).bind fun ds22 S => Res.ok ((D.int 0) :: ds22) S).bind lstR).bind fun d23 S => (seqOf d23 S).bind fun ds47 S => thnS (forP (fun d25 (s24 : Unit) S => ((((((((Res.of2 ((g1 gInt) [d25] S)).bind fun d26 S => (Res.of2 ((g1 gLen) [e4] S)).bind fun d27 S => Res.of (gMod d26 d27 S) S).bind fun d28 S => Res.of (gIx e4 d28 S) S).bind fun d29 S => Res.ok [d29] S).bind fun ds30 S => Res.of2 ((g1 gReprE) ds30 S)).bind fun d31 S => Res.ok [d31] S).bind fun ds32 S => Res.ok ((D.str (Str.ofString "told")) :: ds32) S).bind tupR).bind fun d33 S => ((((((P_law_dip a0 (D.int 2) S).bind fun d34 S => Res.of (gAdd (D.int 1) d34 S) S).bind fun d38 S => ((Res.of2 ((g1 gTuple) [a1] S)).bind fun d36 S => ((Res.of (gAdd s2 d25 S) S).bind fun d35 S => Res.ok [d35] S).bind fun ds37 S => Res.ok (d36 :: ds37) S).bind fun ds39 S => Res.ok (d38 :: ds39) S).bind fun ds40 S => fnM 3 (M_law_told ex) ds40 [] S).bind fun d41 S => Res.of (gNe d41 d33 S) S).bind fun d42 S => Res.of (asB d42) S).bind fun k43 S => if k43 then (Res.ok (D.bl false) S).bind fun d44 S => Res.ok (Step.rt d44) S else Res.ok (Step.nx ()) S) ds47 () S) fun (s45 : Unit) S => (Res.of (gAdd s2 d7 S) S).bind fun d46 S => Res.ok (Step.nx d46) S) ds49 d1 S) fun (s48 : D) S => Res.ok s48 S
noncomputable def M_law_right_places (ex : Ex) : List D → Store → Res D := fun ds S => match ds with
  | [a0, a1] => P_law_right_places ex a0 a1 S
  | _ => .bad
noncomputable def P_law_right (ex : Ex) (a0 : D) (S : Store) : Res D := (rng1R (D.int 4) S).bind fun ds104 S => thnF (forP (fun d2 (s1 : Unit) S => (P_law_row a0 S).bind fun d3 S => (P_law_right_places ex a0 d3 S).bind fun d4 S => (((Res.of (gIsB d4 (D.bl false) S) S).bind fun d14 S => Res.of (asB d14) S).bind fun k13 S => if k13 then Res.ok true S else (((((Res.of2 ((g1 gTuple) [d3] S)).bind fun d5 S => Res.ok [d5, (D.int 0)] S).bind fun ds6 S => Res.ok ((D.int 0) :: ds6) S).bind fun ds7 S => fnM 3 (M_law_told ex) ds7 [] S).bind fun d10 S => ((((Res.of2 ((g1 gReprE) [d4] S)).bind fun d8 S => Res.ok [d8] S).bind fun ds9 S => Res.ok ((D.str (Str.ofString "told")) :: ds9) S).bind tupR).bind fun d11 S => Res.of (gNe d10 d11 S) S).bind fun d12 S => Res.of (asB d12) S).bind fun k15 S => thnS (if k15 then (Res.ok (D.bl false) S).bind fun d16 S => Res.ok (Step.rt d16) S else Res.ok (Step.nx ()) S) fun (s17 : Unit) S => ((((((Res.of (gAdd d4 (D.int 1) S) S).bind fun d18 S => Res.ok [d18, D.non, (D.bl true), (D.str (Str.ofString "0")), (D.tup [(D.int 0)]), (D.lst []), (D.dct [] [])] S).bind fun ds19 S => Res.ok (d4 :: ds19) S).bind fun ds20 S => Res.ok ((D.int (-1)) :: ds20) S).bind lstR).bind seqOf).bind fun ds99 S => thnS (forP (fun d22 (s21 : Unit) S => ((((((Res.of2 ((g1 gTuple) [d3] S)).bind fun d23 S => Res.ok [d23, d22] S).bind fun ds24 S => Res.ok ((D.int 1) :: ds24) S).bind fun ds25 S => fnM 3 (M_law_told ex) ds25 [] S).bind fun d28 S => ((((Res.of2 ((g1 gReprE) [d22] S)).bind fun d26 S => Res.ok [d26] S).bind fun ds27 S => Res.ok ((D.str (Str.ofString "number")) :: ds27) S).bind tupR).bind fun d29 S => Res.of (gNe d28 d29 S) S).bind fun d30 S => Res.of (asB d30) S).bind fun k31 S => if k31 then (Res.ok (D.bl false) S).bind fun d32 S => Res.ok (Step.rt d32) S else Res.ok (Step.nx ()) S) ds99 () S) fun (s33 : Unit) S => ((((((Res.of2 ((g1 gLen) [d3] S)).bind fun d34 S => Res.ok [d34] S).bind fun ds35 S => Res.ok (a0 :: ds35) S).bind fun ds36 S => fnM 2 (M_law_dip) ds36 [] S).bind fun d38 S => ((Res.of (gIx d3 (D.int 0) S) S).bind fun d37 S => Res.ok [d37] S).bind fun ds39 S => Res.ok (d38 :: ds39) S).bind tupR).bind fun d40 S => unT2 d40 fun e41 e42 => unT2 e42 fun e43 e44 => ((((((((((((((Res.of (gPow (D.int 10) (D.int 30) S) S).bind fun d45 S => Res.of (gAdd d45 (D.int 1) S) S).bind fun d46 S => Res.ok [d46] S).bind fun ds47 S => Res.ok (e43 :: ds47) S).bind tupR).bind fun d50 S => ((((Res.of2 ((g1 gList) [e43] S)).bind fun d48 S => Res.ok [d48, (D.int 1)] S).bind tupR).bind fun d49 S => Res.ok [d49, (D.tup [(D.tup []), (D.int 1)])] S).bind fun ds51 S => Res.ok (d50 :: ds51) S).bind fun ds52 S => Res.ok ((D.tup [e43, (D.bl true)]) :: ds52) S).bind fun ds53 S => Res.ok ((D.tup [e43, (D.int 0)]) :: ds53) S).bind fun ds54 S => Res.ok ((D.tup [e43]) :: ds54) S).bind fun ds55 S => Res.ok (e43 :: ds55) S).bind fun ds56 S => Res.ok ((D.tup []) :: ds56) S).bind fun ds57 S => Res.ok ((D.int 0) :: ds57) S).bind fun ds58 S => Res.ok (D.non :: ds58) S).bind lstR).bind fun d59 S => (((((((((((Res.of (gAdd e43 (D.tup [D.non]) S) S).bind fun d60 S => Res.ok [d60, (D.int 1)] S).bind tupR).bind fun d61 S => Res.ok [d61] S).bind fun ds62 S => Res.ok ((D.tup [(D.str (Str.ofString "a")), (D.int 1)]) :: ds62) S).bind fun ds63 S => Res.ok ((D.tup [(D.tup [e43]), (D.int 1)]) :: ds63) S).bind fun ds64 S => Res.ok ((D.tup [(D.tup [(D.str (Str.ofString "A"))]), (D.int 1)]) :: ds64) S).bind fun ds65 S => Res.ok ((D.lst [e43, e44]) :: ds65) S).bind fun ds66 S => Res.ok ((D.tup [e43, e44, (D.int 1)]) :: ds66) S).bind lstR).bind fun d67 S => Res.of (gAdd d59 d67 S) S).bind fun d68 S => ((((iRes e41 S).bind fun j69 S => Res.of (gSl d3 none j69 S) S).bind fun d72 S => ((((P_law_dip a0 (D.int 16) S).bind fun d70 S => Res.of (gIx d68 d70 S) S).bind fun d71 S => Res.ok [d71] S).bind lstR).bind fun d73 S => Res.of (gAdd d72 d73 S) S).bind fun d75 S => (((Res.of (gAdd e41 (D.int 1) S) S).bind iRes).bind fun j74 S => Res.of (gSl d3 j74 none S) S).bind fun d76 S => Res.of (gAdd d75 d76 S) S).bind fun d77 S => (((((P_law_dip a0 (D.int 3) S).bind fun d79 S => ((Res.of2 ((g1 gTuple) [d77] S)).bind fun d78 S => Res.ok [d78, (D.int 0)] S).bind fun ds80 S => Res.ok (d79 :: ds80) S).bind fun ds81 S => fnM 3 (M_law_told ex) ds81 [] S).bind fun d84 S => ((((Res.of2 ((g1 gReprE) [e41] S)).bind fun d82 S => Res.ok [d82] S).bind fun ds83 S => Res.ok ((D.str (Str.ofString "blocks")) :: ds83) S).bind tupR).bind fun d85 S => Res.of (gNe d84 d85 S) S).bind fun d86 S => Res.of (asB d86) S).bind fun k87 S => thnS (if k87 then (Res.ok (D.bl false) S).bind fun d88 S => Res.ok (Step.rt d88) S else Res.ok (Step.nx ()) S) fun (s89 : Unit) S => (((((P_law_dip a0 (D.int 3) S).bind fun d92 S => (((P_law_dip a0 (D.int 5) S).bind fun d90 S => Res.of (gIx (D.lst [d3, D.non, (D.int 0), (D.str (Str.ofString "a")), (D.dct [] [])]) d90 S) S).bind fun d91 S => Res.ok [d91, (D.int 0)] S).bind fun ds93 S => Res.ok (d92 :: ds93) S).bind fun ds94 S => fnM 3 (M_law_told ex) ds94 [] S).bind fun d95 S => Res.of (gNe d95 (D.tup [(D.str (Str.ofString "blocks")), (D.str (Str.ofString "None"))]) S) S).bind fun d96 S => Res.of (asB d96) S).bind fun k97 S => if k97 then (Res.ok (D.bl false) S).bind fun d98 S => Res.ok (Step.rt d98) S else Res.ok (Step.nx ()) S) ds104 () S) fun (s100 : Unit) S => ((P_law_told ex (D.int 0) (D.tup []) (D.int 0) S).bind fun d102 S => Res.of (gEq d102 (D.tup [(D.str (Str.ofString "told")), (D.str (Str.ofString "0"))]) S) S).bind fun d103 S => andR d103 S fun S => (P_law_told ex (D.int 1) (D.tup []) (D.int 0) S).bind fun d101 S => Res.of (gEq d101 (D.tup [(D.str (Str.ofString "number")), (D.str (Str.ofString "0"))]) S) S
noncomputable def M_law_right (ex : Ex) : List D → Store → Res D := fun ds S => match ds with
  | [a0] => P_law_right ex a0 S
  | _ => .bad
def P_law_well (a0 : D) (a1 : D) (S : Store) : Res D := ((((Res.of2 ((g1 gLen) [a0] S)).bind fun d1 S => Res.of (gLt a1 d1 S) S).bind fun d2 S => Res.of (asB d2) S).bind fun k3 S => if k3 then Res.of (gIx a0 a1 S) S else Res.ok (D.int 0) S).bind fun d4 S => ((Res.of (gMul (D.int 7907) a1 S) S).bind fun d5 S => Res.of (gAdd (D.int 104729) d5 S) S).bind fun d6 S => ((Res.of (gSl a0 none (some (4)) S) S).bind seqOf).bind fun ds32 S => thnF (forP (fun d8 (s7 : D) S => ((((((Res.of (gMul s7 (D.int 48271) S) S).bind fun d10 S => ((Res.of2 ((g1 gInt) [d8] S)).bind fun d9 S => Res.of (gMod d9 (D.int 2147483587) S) S).bind fun d11 S => Res.of (gAdd d10 d11 S) S).bind fun d12 S => Res.of (gAdd d12 (D.int 13) S) S).bind fun d13 S => Res.ok [d13] S).bind fun ds14 S => Res.of2 ((g1 gInt) ds14 S)).bind fun d15 S => Res.of (gMod d15 (D.int 2147483629) S) S).bind fun d16 S => Res.ok (Step.nx d16) S) ds32 d6 S) fun (s17 : D) S => ((((((Res.of (gMul s17 (D.int 69621) S) S).bind fun d19 S => ((Res.of2 ((g1 gInt) [d4] S)).bind fun d18 S => Res.of (gMod d18 (D.int 2147483579) S) S).bind fun d20 S => Res.of (gAdd d19 d20 S) S).bind fun d21 S => Res.of (gAdd d21 (D.int 5) S) S).bind fun d22 S => Res.ok [d22] S).bind fun ds23 S => Res.of2 ((g1 gInt) ds23 S)).bind fun d24 S => Res.of (gMod d24 (D.int 2147483629) S) S).bind fun d25 S => ((((((Res.of2 ((g1 gAbs) [d4] S)).bind fun d26 S => (Res.of (gPow (D.int 10) (D.int 18) S) S).bind fun d27 S => Res.of (gGe d26 d27 S) S).bind fun d28 S => Res.of (asB d28) S).bind fun k29 S => if k29 then Res.of2 ((g1 gAbs) [d4] S) else Res.ok (D.int 0) S).bind fun d30 S => Res.ok [d30, (D.int 0)] S).bind fun ds31 S => Res.ok (d25 :: ds31) S).bind lstCR
def M_law_well : List D → Store → Res D := fun ds S => match ds with
  | [a0, a1] => P_law_well a0 a1 S
  | _ => .bad
noncomputable def P_law (ex : Ex) (a0 : D) (S : Store) : Res D := (((((((Res.of2 ((g1 gLen) [a0] S)).bind fun d1 S => Res.ok [d1, (D.int 5)] S).bind fun ds2 S => Res.of2 ((g2 gMin) ds2 S)).bind fun d3 S => Res.ok [d3] S).bind fun ds4 S => Res.ok ((D.int 2) :: ds4) S).bind fun ds5 S => Res.of2 ((g2 gMax) ds5 S)).bind rng1R).bind fun ds15 S => thnF (forP (fun d7 (s6 : Unit) S => (((((P_law_well a0 d7 S).bind fun d9 S => Res.ok [d9] S).bind fun ds10 S => fnM 1 (M_law_right ex) ds10 [] S).bind fun d11 S => Res.of (asB d11) S).bind fun k8 S => Res.ok (!k8) S).bind fun k12 S => if k12 then (Res.ok (D.bl false) S).bind fun d13 S => Res.ok (Step.rt d13) S else Res.ok (Step.nx ()) S) ds15 () S) fun (s14 : Unit) S => Res.ok (D.bl true) S
noncomputable def M_law (ex : Ex) : List D → Store → Res D := fun ds S => match ds with
  | [a0] => P_law ex a0 S
  | _ => .bad
@[simp] theorem ev_law_dip {a0 a1 : D} {S : Store} : M_law_dip [a0, a1] S = P_law_dip a0 a1 S := rfl
@[simp] theorem ev_law_names {a0 a1 : D} {S : Store} : M_law_names [a0, a1] S = P_law_names a0 a1 S := rfl
@[simp] theorem ev_law_row {a0 : D} {S : Store} : M_law_row [a0] S = P_law_row a0 S := rfl
@[simp] theorem ev_is_integer {a0 : D} {S : Store} : M_is_integer [a0] S = P_is_integer a0 S := rfl
@[simp] theorem ev_is_within {a0 a1 a2 : D} {S : Store} : M_is_within [a0, a1, a2] S = P_is_within a0 a1 a2 S := rfl
@[simp] theorem ev_is_name {a0 : D} {S : Store} : M_is_name [a0] S = P_is_name a0 S := rfl
@[simp] theorem ev_is_block {a0 : D} {S : Store} : M_is_block [a0] S = P_is_block a0 S := rfl
@[simp] theorem ev_check_blocks {ex : Ex} {a0 : D} {S : Store} : M_check_blocks ex [a0] S = P_check_blocks ex a0 S := rfl
@[simp] theorem ev_length_of {a0 : D} {S : Store} : M_length_of [a0] S = P_length_of a0 S := rfl
@[simp] theorem ev_size_of {ex : Ex} {a0 : D} {S : Store} : M_size_of ex [a0] S = P_size_of ex a0 S := rfl
@[simp] theorem ev_kind_at {ex : Ex} {a0 a1 : D} {S : Store} : M_kind_at ex [a0, a1] S = P_kind_at ex a0 a1 S := rfl
theorem ev_law_based {ex : Ex} {c : Value} {a dx : Addr} {ks : List Str} {xs : List D} {S : Store} : M_law_based ex [.exn c a dx ks xs] S = P_law_based ex c ks xs S := rfl
@[simp] theorem ev_law_told {ex : Ex} {a0 a1 a2 : D} {S : Store} : M_law_told ex [a0, a1, a2] S = P_law_told ex a0 a1 a2 S := rfl
@[simp] theorem ev_law_right_places {ex : Ex} {a0 a1 : D} {S : Store} : M_law_right_places ex [a0, a1] S = P_law_right_places ex a0 a1 S := rfl
@[simp] theorem ev_law_right {ex : Ex} {a0 : D} {S : Store} : M_law_right ex [a0] S = P_law_right ex a0 S := rfl
@[simp] theorem ev_law_well {a0 a1 : D} {S : Store} : M_law_well [a0, a1] S = P_law_well a0 a1 S := rfl
@[simp] theorem ev_law {ex : Ex} {a0 : D} {S : Store} : M_law ex [a0] S = P_law ex a0 S := rfl
end KK

set_option linter.all false
set_option maxRecDepth 100000
set_option maxHeartbeats 1000000
/-! GA: names, texts, shown values. -/
namespace KK
open PySem L2 KF TL
abbrev LETT : Str := Str.ofString "abcdefghijklmnopqrstuvwxyz"
abbrev DIGI : Str := Str.ofString "0123456789"
structure NameOk (w : Str) : Prop where
  l1 : 1 ≤ w.cps.size
  l8 : w.cps.size ≤ 8
  hd : ∃ c, w.cps.toList[0]? = some c ∧ c ∈ LETT.cps.toList
  al : ∀ c ∈ w.cps.toList, c ∈ LETT.cps.toList ∨ c ∈ DIGI.cps.toList
@[simp] theorem tyS {S : Store} {w : Str} : gIsi [] (.str w) (.ty "str") S = some (.bl true) := by
  simp [gIsi, tyD, clsTy, tyIn, isiTy]
  decide
@[simp] theorem tyT {S : Store} {xs : List D} : gIsi [] (.tup xs) (.ty "tuple") S = some (.bl true) := by
  simp [gIsi, tyD, clsTy, tyIn, isiTy]
  decide
@[simp] theorem in_sign {S : Store} {c : Nat} {z : Str} : gIn (.str ⟨#[c]⟩) (.str z) S = some (.bl (decide (c ∈ z.cps.toList))) := by
  simp [gIn, inD]
theorem len_str {w : Str} {S : Store} (h : w.cps.size ≤ 1000) : gLen (.str w) S = some (.int w.cps.size) := by
  show (if w.cps.size ≤ sizeLine then some (D.int w.cps.size) else none) = _
  rw [if_pos (sz h)]
theorem ix_str {w : Str} {S : Store} {i c : Nat} (h : w.cps.size ≤ 1000) (hc : w.cps.toList[i]? = some c) : gIx (.str w) (.int i) S = some (.str ⟨#[c]⟩) := by
  show (if w.cps.size ≤ sizeLine then (L2.atI w.cps.toList (i : Int)).map fun c => D.str ⟨#[c]⟩ else none) = _
  rw [if_pos (sz h), at_nat, hc]
  rfl
theorem bools_map {α : Type} (f : α → Bool) : ∀ xs : List α, boolsD (xs.map fun x => D.bl (f x)) = some (xs.map f)
  | [] => rfl
  | x :: xs => by simp [boolsD, bools_map f xs]
theorem all_map {α : Type} {S : Store} (f : α → Bool) (xs : List α) : gAll (.lst (xs.map fun x => D.bl (f x))) S = some (.bl (xs.all f)) := by
  show ((boolsD (xs.map fun x => D.bl (f x))).map fun bs => D.bl (bs.all id)) = _
  rw [bools_map]
  simp
@[simp] theorem isnon_n : KF.isNon .non = true := rfl
@[simp] theorem isnon_i {i : Int} : KF.isNon (.int i) = false := rfl
@[simp] theorem isnon_t {xs : List D} : KF.isNon (.tup xs) = false := rfl
theorem thnF_ok {σσ : Type} {s : σσ} {S : Store} {k : σσ → Store → Res D} {r : Res (Step σσ Empty)} (h : r = .ok (.nx s) S) : thnF r k = k s S := by
  rw [h]
  rfl
theorem at_zip {α : Type} {xs : List α} {p : α × Nat} (h : p ∈ xs.zipIdx) : xs[p.2]? = some p.1 := by
  have := List.mem_zipIdx h
  rw [List.getElem?_eq_getElem (by omega)]
  simp [this.2.2]
theorem lt_zip {α : Type} {xs : List α} {p : α × Nat} (h : p ∈ xs.zipIdx) : p.2 < xs.length := by
  have := List.mem_zipIdx h
  omega
theorem for_none {γ σσ κ : Type} {S : Store} {step : D → σσ → Store → Res (Step σσ σσ)} {e : γ → D} {s : σσ} (xs : List γ) (h : ∀ x ∈ xs, step (e x) s S = .ok (.nx s) S) : forP (κ := κ) step (xs.map e) s S = .ok (.nx s) S := by
  rw [for_find (fun _ => false) (fun _ => D.non) xs (fun x hx => by rw [h x hx]; rfl), show xs.find? (fun _ => false) = none from List.find?_eq_none.mpr (by simp)]
def nameB (w : Str) : Bool := decide (1 ≤ w.cps.size) && (decide (w.cps.size ≤ 8) && ((match w.cps.toList with | [] => false | c :: _ => decide (c ∈ LETT.cps.toList)) && w.cps.toList.all fun c => decide (c ∈ LETT.cps.toList) || decide (c ∈ DIGI.cps.toList)))
theorem nameB_ok {w : Str} (h : nameB w = true) : NameOk w := by
  unfold nameB at h
  simp only [Bool.and_eq_true, decide_eq_true_eq, List.all_eq_true, Bool.or_eq_true] at h
  obtain ⟨h1, h2, h3, h4⟩ := h
  refine ⟨h1, h2, ?_, h4⟩
  cases e : w.cps.toList with
  | nil => rw [e] at h3; cases h3
  | cons c r =>
    rw [e] at h3
    exact ⟨c, rfl, by simpa using h3⟩
abbrev SIGNS : Str := Str.ofString "abcdefghijklmnopqrstuvwxyz0123456789"
theorem sign_at (r : Nat) (h : r < 36) : ∃ c, SIGNS.cps.toList[r]? = some c ∧ (c ∈ LETT.cps.toList ∨ c ∈ DIGI.cps.toList) ∧ (r < 26 → c ∈ LETT.cps.toList) := by
  have : ∀ r : Fin 36, (match SIGNS.cps.toList[r.val]? with | some c => (decide (c ∈ LETT.cps.toList) || decide (c ∈ DIGI.cps.toList)) && (decide (26 ≤ r.val) || decide (c ∈ LETT.cps.toList)) | none => false) = true := by decide +kernel
  have z := this ⟨r, h⟩
  simp only at z
  cases e : SIGNS.cps.toList[r]? with
  | none => rw [e] at z; cases z
  | some c =>
    rw [e] at z
    simp only [Bool.and_eq_true, Bool.or_eq_true, decide_eq_true_eq] at z
    exact ⟨c, rfl, z.1, fun h26 => z.2.resolve_left (by omega)⟩
theorem ix_sign {r : Int} {S : Store} (h0 : 0 ≤ r) (h : r < 36) : ∃ c, gIx (.str SIGNS) (.int r) S = some (.str ⟨#[c]⟩) ∧ (c ∈ LETT.cps.toList ∨ c ∈ DIGI.cps.toList) ∧ (r < 26 → c ∈ LETT.cps.toList) := by
  obtain ⟨c, hc, h1, h2⟩ := sign_at r.toNat (by omega)
  refine ⟨c, ?_, h1, fun z => h2 (by omega)⟩
  show (if SIGNS.length ≤ sizeLine then (L2.atI SIGNS.cps.toList r).map fun c => D.str ⟨#[c]⟩ else none) = _
  rw [if_pos (by rw [sizeLine_eq]; decide +kernel), at_nn _ h0, hc]
  rfl
structure Wd (j : Nat) (w : Str) : Prop where
  sz : w.cps.size = 1 + j
  hd : ∃ c, w.cps.toList[0]? = some c ∧ c ∈ LETT.cps.toList
  al : ∀ c ∈ w.cps.toList, c ∈ LETT.cps.toList ∨ c ∈ DIGI.cps.toList
theorem Wd.one {c : Nat} (h : c ∈ LETT.cps.toList) : Wd 0 ⟨#[c]⟩ := ⟨rfl, ⟨c, rfl, h⟩, fun d hd => by simp at hd; subst hd; exact .inl h⟩
theorem Wd.snoc {j : Nat} {w : Str} {c : Nat} (h : Wd j w) (hc : c ∈ LETT.cps.toList ∨ c ∈ DIGI.cps.toList) : Wd (j + 1) (w ++ ⟨#[c]⟩) := by
  have e : (w ++ (⟨#[c]⟩ : Str)).cps = w.cps ++ #[c] := rfl
  obtain ⟨c0, h1, h2⟩ := h.hd
  refine ⟨by rw [e]; simp [h.sz]; omega, ⟨c0, ?_, h2⟩, fun d hd => ?_⟩
  · rw [e, Array.toList_append, List.getElem?_append_left (by rw [Array.length_toList, h.sz]; omega)]
    exact h1
  · rw [e, Array.toList_append, List.mem_append] at hd
    rcases hd with hd | hd
    · exact h.al d hd
    · simp at hd; subst hd; exact hc
theorem Wd.name {j : Nat} {w : Str} (h : Wd j w) (hj : j ≤ 7) : NameOk w := ⟨by rw [h.sz]; omega, by rw [h.sz]; omega, h.hd, h.al⟩
theorem len_str5 {w : Str} {S : Store} (h : w.cps.size ≤ 100000) : gLen (.str w) S = some (.int w.cps.size) := by
  show (if w.cps.size ≤ sizeLine then some (D.int w.cps.size) else none) = _
  rw [if_pos (by rw [sizeLine_eq]; omega)]
def topV : D → Bool
  | .non => true
  | .bl _ => true
  | .int _ => true
  | .str w => decide (w.cps.size ≤ 100000)
  | .lst _ => true
  | .tup _ => true
  | .dct _ _ => true
  | _ => false
def isS (w : Str) : D → Bool
  | .str v => v == w
  | _ => false
def nmD : D → Bool
  | .str w => nameB w
  | _ => false
def sgB (c : Nat) : Bool := decide (c ∈ LETT.cps.toList) || decide (c ∈ DIGI.cps.toList)
theorem isname_str {w : Str} (hw : w.cps.size ≤ 100000) (S : Store) : P_is_name (.str w) S = .ok (.bl (nameB w)) S := by
  by_cases h : 1 ≤ w.cps.size ∧ w.cps.size ≤ 8
  · obtain ⟨h1, h8⟩ := h
    cases hl : w.cps.toList with
    | nil =>
      have : w.cps.size = 0 := by rw [← Array.length_toList, hl]; rfl
      omega
    | cons c r =>
      have e1 : gIx (.str w) (.int 0) S = _ := ix_str (S := S) (i := 0) (by omega) (show w.cps.toList[0]? = some c by rw [hl]; rfl)
      have lc := lc_map (S := S) (mi := itE (vE 0)) (g := nameP 1) (m := orE (opE gIn (vE 1) (cE (.str LETT))) (opE gIn (vE 1) (cE (.str DIGI)))) (vs := [1]) (st := [some (Sl.v (D.str w)), none])
        (e := fun c : Nat => D.str ⟨#[c]⟩) w.cps.toList (fun c => .bl (sgB c)) rfl (by simp; omega) (fun c hc => ⟨[some (Sl.v (D.str w)), some (Sl.v (D.str ⟨#[c]⟩))], rfl, by
          by_cases h : c ∈ LETT.cps.toList
          · simp -implicitDefEqProofs [h, sgB]
          · simp -implicitDefEqProofs [h, sgB]⟩)
      have hn : nameB w = (decide (c ∈ LETT.cps.toList) && w.cps.toList.all sgB) := by
        show (decide (1 ≤ w.cps.size) && (decide (w.cps.size ≤ 8) && (_ && w.cps.toList.all sgB))) = _
        simp only [h1, h8, decide_true, Bool.true_and, hl]
      rw [hn]
      unfold P_is_name
      by_cases hc : c ∈ LETT.cps.toList
      · simp -implicitDefEqProofs [len_str (S := S) (w := w) (by omega), show (1 : Int) ≤ w.cps.size by omega, show (w.cps.size : Int) ≤ 8 by omega, e1, hc, lc, all_map (S := S) sgB]
      · simp -implicitDefEqProofs [len_str (S := S) (w := w) (by omega), show (1 : Int) ≤ w.cps.size by omega, show (w.cps.size : Int) ≤ 8 by omega, e1, hc]
  · have : nameB w = false := by
      unfold nameB
      by_cases h1 : 1 ≤ w.cps.size
      · have h8 : ¬ w.cps.size ≤ 8 := fun z => h ⟨h1, z⟩
        simp [h8]
      · simp [h1]
    rw [this]
    unfold P_is_name
    by_cases h1 : 1 ≤ w.cps.size
    · have h8 : ¬ w.cps.size ≤ 8 := fun z => h ⟨h1, z⟩
      simp -implicitDefEqProofs [len_str5 (S := S) (w := w) hw, show (1 : Int) ≤ w.cps.size by omega, show ¬ (w.cps.size : Int) ≤ 8 by omega]
    · simp -implicitDefEqProofs [len_str5 (S := S) (w := w) hw, show ¬ (1 : Int) ≤ w.cps.size by omega]
theorem ty_not {S : Store} {d : D} (h : topV d = true) (hs : ∀ w, d ≠ .str w) : gIsi [] d (.ty "str") S = some (.bl false) := by
  cases d <;> simp [topV] at h <;> first | exact absurd rfl (hs _) | (simp [gIsi, tyD, clsTy, tyIn, isiTy] <;> decide)
theorem isname_top {d : D} (h : topV d = true) (S : Store) : P_is_name d S = .ok (.bl (nmD d)) S := by
  by_cases hs : ∃ w, d = .str w
  · obtain ⟨w, rfl⟩ := hs
    exact isname_str (by simpa [topV] using h) S
  · have e : nmD d = false := by
      cases d <;> first | rfl | exact absurd ⟨_, rfl⟩ hs
    rw [e]
    unfold P_is_name
    simp -implicitDefEqProofs [ty_not (S := S) h fun w z => hs ⟨w, z⟩]
section
variable {n : Nat} {S : Store}
theorem log_lt {i : Int} {k : Nat} (h0 : 0 ≤ i) (h : i < 2 ^ k) (hk : 0 < k) : i.natAbs.log2 < k := by
  by_cases h1 : i.natAbs = 0
  · rw [h1]; simpa using hk
  · rw [Nat.log2_lt h1]
    have e : ((2 ^ k : Nat) : Int) = (2 : Int) ^ k := by simp
    omega
theorem set_cell {n : Nat} {S : Store} {xs : List D} {i : Int} {q : Nat} {d : D} (h : S[n]? = some (.lst xs)) (hq : ixN xs.length i = some q) : setR (.cell n) (.int i) d S = .ok () (S.set n (.lst (xs.set q d))) := by
  unfold setR
  simp [setIt, mutL, h, hq]
theorem mul_i {i j : Int} {S : Store} (h : i.natAbs.log2 + j.natAbs.log2 < 1000000) : gMul (.int i) (.int j) S = some (.int (i * j)) := if_pos h
theorem set_3 {n : Nat} {S : Store} {a b c d : D} (h : S[n]? = some (.lst [a, b, c])) : setR (.cell n) (.int 0) d S = .ok () (S.set n (.lst [d, b, c])) ∧ setR (.cell n) (.int 1) d S = .ok () (S.set n (.lst [a, d, c])) ∧ setR (.cell n) (.int 2) d S = .ok () (S.set n (.lst [a, b, d])) :=
  ⟨set_cell (q := 0) h (ix_0 2), set_cell (q := 1) h (ix_1 1), set_cell (q := 2) h (ix_2 0)⟩
end
theorem sum_le {α : Type} {f : α → Nat} {b : Nat} : ∀ {xs : List α}, (∀ x ∈ xs, f x ≤ b) → (xs.map f).sum ≤ xs.length * b
  | [], _ => by simp
  | x :: xs, h => by
    have := sum_le (xs := xs) fun y hy => h y (List.mem_cons_of_mem _ hy)
    have := h x (by simp)
    simp only [List.map_cons, List.sum_cons, List.length_cons, Nat.add_mul, Nat.one_mul]
    omega
theorem join_len {sep : Str} {ws : List Str} {b : Nat} (h : ∀ w ∈ ws, w.length ≤ b) (hs : sep.length ≤ 1) : (Txt.join sep ws).length ≤ ws.length * (b + 1) := by
  rw [join_eq]
  have h1 := StrLaws.join_length_le sep ws
  have h2 : (ws.map (fun x : Str => x.length)).sum ≤ ws.length * b := sum_le h
  have h3 : ws.length * sep.length ≤ ws.length * 1 := Nat.mul_le_mul_left _ hs
  rw [Nat.mul_add]
  omega
theorem strs_map : ∀ ws : List Str, strsD (ws.map D.str) = some ws
  | [] => rfl
  | w :: ws => by simp [strsD, strs_map ws]
theorem join_ok {S : Store} {sep : Str} {ws : List Str} {b : Nat} (h : ∀ w ∈ ws, w.length ≤ b) (hb : b ≤ 1000) (hl : ws.length ≤ 100) (hs : sep.length ≤ 1) : mJoin (.str sep) [.lst (ws.map .str)] S = some (.str (Txt.join sep ws), S) := by
  show (((asQ S (.lst (ws.map D.str))).bind strsD).bind fun ys => if (ys.map (·.length)).sum + ys.length * sep.length ≤ 16777216 then some (D.str (Txt.join sep ys), S) else none) = _
  have e : asQ S (.lst (ws.map D.str)) = some (ws.map D.str) := rfl
  rw [e]
  simp only [Option.bind_some, strs_map]
  have h2 := sum_le h
  have h3 : ws.length * sep.length ≤ ws.length * 1 := Nat.mul_le_mul_left _ hs
  have h4 : ws.length * b ≤ 100 * 1000 := Nat.mul_le_mul hl hb
  have e3 : (ws.map (fun x : Str => x.length)).sum ≤ ws.length * b := h2
  rw [if_pos (by omega)]
section
variable {S : Store} {b c n k : Nat}
def Sh (S : Store) (b n : Nat) (d : D) : Prop := ∃ p, KF.rpD S n d = some p ∧ p.showable = true ∧ p.shown.length ≤ b
theorem Sh.mono {d : D} (h : Sh S b n d) (l : b ≤ c) : Sh S c n d := by
  obtain ⟨p, h1, h2, h3⟩ := h
  exact ⟨p, h1, h2, Nat.le_trans h3 l⟩
theorem sh_bl {x : Bool} : Sh S 5 n (.bl x) := ⟨.bool x, by unfold KF.rpD; rfl, rfl, by cases x <;> decide +kernel⟩
theorem shs {ds : List D} (h : ∀ d ∈ ds, Sh S b n d) : ∃ ps, rpDs S n ds = some ps ∧ PyData.showableAll ps = true ∧ (∀ t ∈ PyData.shownAll ps, t.length ≤ b) ∧ (PyData.shownAll ps).length = ds.length := by
  induction ds with
  | nil => exact ⟨[], by unfold rpDs; rfl, rfl, by simp [PyData.shownAll], rfl⟩
  | cons d ds ih =>
    obtain ⟨p, h1, h2, h3⟩ := h d (by simp)
    obtain ⟨ps, i1, i2, i3, i4⟩ := ih fun x hx => h x (by simp [hx])
    refine ⟨p :: ps, by unfold rpDs; rw [h1, i1], by simp [PyData.showableAll, h2, i2], fun t ht => ?_, by simp [PyData.shownAll, i4]⟩
    simp only [PyData.shownAll, List.mem_cons] at ht
    rcases ht with rfl | ht
    · exact h3
    · exact i3 t ht
theorem jlen {ts : List Str} (h : ∀ t ∈ ts, t.length ≤ b) (hk : ts.length ≤ k) : (Str.join ", " ts).length ≤ k * (b + 2) := by
  have h1 := StrLaws.join_length_le ", " ts
  have h2 : (ts.map (fun x : Str => x.length)).sum ≤ ts.length * b := sum_le h
  have e : (", " : Str).length = 2 := by decide +kernel
  have h3 : ts.length * (b + 2) ≤ k * (b + 2) := Nat.mul_le_mul_right _ hk
  rw [Nat.mul_add] at h3
  have h4 : (ts.map (·.length)).sum = (ts.map (fun x : Str => x.length)).sum := rfl
  rw [e] at h1
  omega
theorem sh_lst {ds : List D} (h : ∀ d ∈ ds, Sh S b n d) (hk : ds.length ≤ k) : Sh S (k * (b + 2) + 3) (n + 1) (.lst ds) := by
  obtain ⟨ps, i1, i2, i3, i4⟩ := shs h
  refine ⟨.list ps, by unfold KF.rpD; rw [i1]; rfl, i2, ?_⟩
  rw [PyData.shown_list, Str.length_append, Str.length_append]
  have := jlen i3 (by rw [i4]; exact hk)
  have e1 : ("[" : Str).length = 1 := by decide +kernel
  have e2 : ("]" : Str).length = 1 := by decide +kernel
  omega
theorem sh_tup {ds : List D} (h : ∀ d ∈ ds, Sh S b n d) (hk : ds.length ≤ k) : Sh S (k * (b + 2) + 3) (n + 1) (.tup ds) := by
  obtain ⟨ps, i1, i2, i3, i4⟩ := shs h
  refine ⟨.tuple ps, by unfold KF.rpD; rw [i1]; rfl, i2, ?_⟩
  rw [PyData.shown_tuple, Str.length_append, Str.length_append]
  have := jlen i3 (by rw [i4]; exact hk)
  have e1 : ("(" : Str).length = 1 := by decide +kernel
  have e2 : ∀ x : Bool, (((if x then ",)" else ")" : String) : Str)).length ≤ 2 := by decide +kernel
  have := e2 (ps.length == 1)
  omega
theorem repr_of {d : D} (h : Sh S b 40 d) (hb : b ≤ 10000000) : ∃ z, gRepr d S = some (.str z) := by
  obtain ⟨p, h1, h2, h3⟩ := h
  refine ⟨p.shown, ?_⟩
  unfold gRepr
  rw [h1]
  exact if_pos ⟨h2, by rw [sizeLine_eq]; omega⟩
def Small (w : Str) : Prop := ∀ c ∈ w.cps.toList, c < 16 ^ 8
theorem sh_str {x : Str} {m : Nat} (hx : Small x) (hl : x.length ≤ m) : Sh S (10 * m + 2) n (.str x) :=
  ⟨.str x, by unfold KF.rpD; rfl, rfl, by have := StrLaws.reprText_len x hx; show (reprText x).length ≤ _; omega⟩
theorem sh_int {i : Nat} (h : i < 1000000) : Sh S 13 n (.int i) :=
  ⟨.int i, by unfold KF.rpD; rfl, by
    have : (i : Int).natAbs.log2 < 40 := log_lt (k := 40) (by omega) (by omega) (by decide)
    simp only [PyData.showable, decide_eq_true_eq]
    omega, PyData.shown_int_le2 (by omega) (by omega)⟩
theorem NameOk.small {w : Str} (h : NameOk w) : Small w := fun c hc => by
  have a : ∀ c ∈ LETT.cps.toList, c < 16 ^ 8 := by decide +kernel
  have b : ∀ c ∈ DIGI.cps.toList, c < 16 ^ 8 := by decide +kernel
  rcases h.al c hc with q | q
  · exact a c q
  · exact b c q
end
theorem ne_nilL {xs : List D} {S : Store} : gNe (.lst xs) (.lst []) S = some (.bl (!xs.isEmpty)) := by
  unfold gNe
  have e : neD S KF.deep (.lst xs) (.lst []) = (eqD S KF.deep (.lst xs) (.lst [])).map fun b => !b := rfl
  rw [e]
  cases xs with
  | nil => rfl
  | cons x r =>
    have : eqD S KF.deep (.lst (x :: r)) (.lst []) = some false := by
      show (if (x :: r).length = ([] : List D).length then eqs (eqD S 59) (x :: r) [] else some false) = _
      rw [if_neg (by simp)]
    rw [this]
    rfl
theorem if_ok {α : Type} {S : Store} {p : Bool} {x y : α} : (if p then Res.ok x S else Res.ok y S) = Res.ok (if p then x else y) S := by cases p <;> rfl
@[simp] theorem okS_str {S : Store} {w : Str} : okS S (.str w) = true := rfl
theorem of2_ok {d : D} {S : Store} : Res.of2 (some (d, S)) = .ok d S := rfl
/-! lists in cells, by what they hold -/
section
variable {S : Store} {d : D} {c : Nat} {xs : List D}
theorem asL_C (h : S[c]? = some (.lst xs)) : asL S (.cell c) = some xs := by
  show (match S[c]? with | some (.lst xs) => some xs | some (.fro xs) => some xs | _ => none) = _
  rw [h]
theorem asL_F (h : S[c]? = some (.fro xs)) : asL S (.cell c) = some xs := by
  show (match S[c]? with | some (.lst xs) => some xs | some (.fro xs) => some xs | _ => none) = _
  rw [h]
theorem asL_get (h : asL S (.cell c) = some xs) : S[c]? = some (.lst xs) ∨ S[c]? = some (.fro xs) := by
  have e : (match S[c]? with | some (.lst xs) => some xs | some (.fro xs) => some xs | _ => none) = some xs := h
  split at e
  · rename_i h; cases e; exact .inl h
  · rename_i h; cases e; exact .inr h
  · cases e
theorem len_C (h : asL S (.cell c) = some xs) : gLen (.cell c) S = some (.int xs.length) := by
  show (asL S (.cell c)).map _ = _
  rw [h]
  rfl
theorem tup_C (h : asL S (.cell c) = some xs) : gTuple (.cell c) S = some (.tup xs) := by
  show (asL S (.cell c)).map _ = _
  rw [h]
  rfl
theorem sl_C (h : asL S (.cell c) = some xs) (a b : Option Int) : gSl (.cell c) a b S = some (.lst (cutX xs a b)) := by
  show (asL S (.cell c)).map _ = _
  rw [h]
  rfl
theorem ix_Ci (h : asL S (.cell c) = some xs) (i : Int) : gIx (.cell c) (.int i) S = L2.atI xs i := by
  show (asL S (.cell c)).bind _ = _
  rw [h]
  rfl
theorem nin_C {α : Type} [DecidableEq α] {e : α → D} {k : Nat} {x : α} {ys : List α} (q : EqAt k e) (hk : k ≤ 60) (h : asL S (.cell c) = some (ys.map e)) (hs : ∀ z w, e x = .str z → e x ≠ .str z ∨ (.cell c : D) ≠ .str w) : gNotIn (e x) (.cell c) S = some (.bl (decide (x ∉ ys))) := by
  have h2 : inD S (e x) (.cell c) = optAny (fun z => eqD S KF.deep z (e x)) (ys.map e) := by
    have : inD S (e x) (.cell c) = (asQ S (.cell c)).bind fun ys => optAny (fun z => eqD S KF.deep z (e x)) ys := by
      cases e x <;> rfl
    rw [this]
    show (asL S (.cell c)).bind _ = _
    rw [h]
    rfl
  unfold gNotIn
  rw [h2, KF.optAny_map fun y => q.deep hk]
  simp
theorem seq_C (h : asL S (.cell c) = some xs) : ∃ S', seqOf (.cell c) S = .ok xs S' ∧ S'.length = S.length ∧ asL S' (.cell c) = some xs ∧ ∀ i, i ≠ c → S'[i]? = S[i]? := by
  rcases asL_get h with g | g
  · have hl := (List.getElem?_eq_some_iff.mp g).1
    refine ⟨S.set c (.fro xs), ?_, by simp, asL_F (List.getElem?_set_self hl), fun i hi => List.getElem?_set_ne (Ne.symm hi)⟩
    show (match S[c]? with | some (.lst xs) => Res.ok xs (S.set c (.fro xs)) | some (.fro xs) => .ok xs S | _ => .bad) = _
    rw [g]
  · refine ⟨S, ?_, rfl, h, fun i _ => rfl⟩
    show (match S[c]? with | some (.lst xs) => Res.ok xs (S.set c (.fro xs)) | some (.fro xs) => .ok xs S | _ => .bad) = _
    rw [g]
end
end KK

set_option linter.all false
set_option maxRecDepth 100000
set_option maxHeartbeats 1000000
/-! GB: draws from a well. -/
namespace KK
open PySem L2 KF TL
/-- a well stands in the cell n; B: how many draws at most -/
def PW (S : Store) (n B : Nat) : Prop := ∃ a b c : Int, S[n]? = some (.lst [.int a, .int b, .int c]) ∧ 0 ≤ a ∧ a < 2 ^ 31 ∧ 0 ≤ c ∧ c ≤ B
theorem PW.lt {S : Store} {n B : Nat} (h : PW S n B) : n < S.length := by
  obtain ⟨a, b, c, h, _⟩ := h
  exact (List.getElem?_eq_some_iff.mp h).1
theorem PW.mono {S : Store} {n B B' : Nat} (h : PW S n B) (l : B ≤ B') : PW S n B' := by
  obtain ⟨a, b, c, h1, h2, h3, h4, h5⟩ := h
  exact ⟨a, b, c, h1, h2, h3, h4, by omega⟩
theorem PW.to {S S' : Store} {n B : Nat} (h : PW S n B) (e : S'[n]? = S[n]?) : PW S' n B := by
  obtain ⟨a, b, c, h1, h2⟩ := h
  exact ⟨a, b, c, e.trans h1, h2⟩
/-- old cells but the well stay -/
structure Gr (n : Nat) (S S' : Store) : Prop where
  len : S.length ≤ S'.length
  oth : ∀ i, i < S.length → i ≠ n → S'[i]? = S[i]?
theorem Gr.refl (n : Nat) (S : Store) : Gr n S S := ⟨Nat.le_refl _, fun _ _ _ => rfl⟩
theorem Gr.trans {n : Nat} {A B C : Store} (x : Gr n A B) (y : Gr n B C) : Gr n A C :=
  ⟨Nat.le_trans x.len y.len, fun i h ne => (y.oth i (Nat.lt_of_lt_of_le h x.len) ne).trans (x.oth i h ne)⟩
theorem Gr.cell {n m : Nat} {S S' : Store} {c : Cell} (g : Gr n S S') (h : S[m]? = some c) (hm : m ≠ n) : S'[m]? = some c :=
  (g.oth m (List.getElem?_eq_some_iff.mp h).1 hm).trans h
theorem Gr.ls {n m : Nat} {S S' : Store} {xs : List D} (g : Gr n S S') (h : asL S (.cell m) = some xs) (hm : m ≠ n) : asL S' (.cell m) = some xs := by
  rcases asL_get h with h | h
  · exact asL_C (g.cell h hm)
  · exact asL_F (g.cell h hm)
theorem gr_new {n : Nat} {S : Store} {c : Cell} : Gr n S (S ++ [c]) := ⟨by simp, fun i h _ => List.getElem?_append_left h⟩
theorem pw_new {S : Store} {n B : Nat} {c : Cell} (h : PW S n B) : PW (S ++ [c]) n B := h.to (List.getElem?_append_left h.lt)
theorem dip_ok {n B : Nat} {S : Store} {k : Int} (h : PW S n B) (h0 : 0 < k) (h1 : k < 2 ^ 40) (hB : B < 2 ^ 60) : ∃ (r : Nat) (S' : Store), P_law_dip (.cell n) (.int k) S = .ok (.int r) S' ∧ (r : Int) < k ∧ PW S' n (B + 1) ∧ Gr n S S' := by
  have hn := h.lt
  obtain ⟨a, b, c, hs, ha0, ha1, hc0, hc1⟩ := h
  have lk : k.natAbs.log2 < 9000 := Nat.lt_trans (log_lt (k := 40) (by omega) h1 (by decide)) (by decide)
  have gs : ∀ x : Cell, (S.set n x)[n]? = some x := fun x => by rw [List.getElem?_set_self hn]
  have ss : ∀ x y : Cell, (S.set n x).set n y = S.set n y := fun x y => by rw [List.set_set]
  have fr : ∀ x : Cell, Gr n S (S.set n x) := fun x => ⟨by simp, fun i _ ne => List.getElem?_set_ne (Ne.symm ne)⟩
  by_cases hb : 0 < b
  · have e0 := Int.emod_nonneg b (b := k) (by omega)
    refine ⟨(b % k).toNat, S.set n (.lst [.int a, .int (b / k), .int c]), ?_, by rw [Int.toNat_of_nonneg e0]; exact Int.emod_lt_of_pos _ h0, ⟨a, b / k, c, gs _, ha0, ha1, hc0, by omega⟩, fr _⟩
    rw [Int.toNat_of_nonneg e0]
    unfold P_law_dip
    simp -implicitDefEqProofs [t_ixC hs, hb, gDivmod, h0, lk, (set_3 hs).2.1]
  · have la : a.natAbs.log2 < 62 := log_lt (k := 62) ha0 (by omega) (by decide)
    have lc : (c + 1).natAbs.log2 < 62 := log_lt (k := 62) (by omega) (by omega) (by decide)
    have m1 : a.natAbs.log2 + Nat.log2 39373 < 1000000 := by
      have : Nat.log2 39373 = 15 := by decide +kernel
      omega
    have m2 : Nat.log2 7 + (c + 1).natAbs.log2 < 1000000 := by
      have : Nat.log2 7 = 2 := by decide +kernel
      omega
    have m3 : (7 * (c + 1)).natAbs.log2 + (c + 1).natAbs.log2 < 1000000 := by
      have : (7 * (c + 1)).natAbs.log2 < 80 := log_lt (k := 80) (by omega) (by omega) (by decide)
      omega
    have z0 := Int.emod_nonneg (a * 39373 + 7 * (c + 1) * (c + 1) + 101) (b := 2147483629) (by decide)
    have z1 := Int.emod_lt_of_pos (a * 39373 + 7 * (c + 1) * (c + 1) + 101) (b := 2147483629) (by decide)
    have y0 := Int.emod_nonneg ((a * 39373 + 7 * (c + 1) * (c + 1) + 101) % 2147483629 / 64) (b := k) (by omega)
    have y1 := Int.emod_lt_of_pos ((a * 39373 + 7 * (c + 1) * (c + 1) + 101) % 2147483629 / 64) h0
    refine ⟨_, S.set n (.lst [.int ((a * 39373 + 7 * (c + 1) * (c + 1) + 101) % 2147483629), .int b, .int (c + 1)]), ?_, by rw [Int.toNat_of_nonneg y0]; exact y1,
      ⟨_, b, c + 1, gs _, z0, by omega, by omega, by omega⟩, fr _⟩
    rw [Int.toNat_of_nonneg y0]
    unfold P_law_dip
    simp -implicitDefEqProofs only [t_ixC hs, at_0, at_1, at_2, hb, t_ofS, bind_ok, t_assoc, gGt, t_g2I, decide_false, t_asB, if_false, Bool.false_eq_true, t_addI, (set_3 hs).2.2, t_ixC (gs _), mul_i (i := a) (j := 39373) m1, mul_i (i := 7) (j := c + 1) m2, mul_i m3, t_g1, gInt, gMod, gDiv]
    have lp : Nat.log2 2147483629 < 9000 := by decide +kernel
    have lq : Nat.log2 64 < 9000 := by decide +kernel
    simp -implicitDefEqProofs [h0, lk, lp, lq, (set_3 (gs _)).1, ss, t_ixC (gs _)]
theorem dip_M {n B : Nat} {S : Store} {k : Int} (h : PW S n B) (h0 : 0 < k) (h1 : k < 2 ^ 40) (hB : B < 2 ^ 60) : ∃ (r : Nat) (S' : Store), M_law_dip [.cell n, .int k] S = .ok (.int r) S' ∧ (r : Int) < k ∧ PW S' n (B + 1) ∧ Gr n S S' := dip_ok h h0 h1 hB
/-- texts joined by nothing -/
theorem join_al {P : Nat → Prop} : ∀ {ws : List Str}, (∀ w ∈ ws, ∃ c, w = ⟨#[c]⟩ ∧ P c) → (Str.join (Str.ofString "") ws).cps.size = ws.length ∧ ∀ c ∈ (Str.join (Str.ofString "") ws).cps.toList, P c
  | [], _ => ⟨rfl, fun c hc => by simp [Str.join, Str.empty] at hc⟩
  | [w], h => by
    obtain ⟨c, rfl, hc⟩ := h w (by simp)
    exact ⟨rfl, fun d hd => by
      have : d = c := by simpa [Str.join] using hd
      exact this ▸ hc⟩
  | w :: v :: r, h => by
    obtain ⟨i1, i2⟩ := join_al (ws := v :: r) fun u hu => h u (List.mem_cons_of_mem _ hu)
    obtain ⟨c, rfl, hc⟩ := h w (by simp)
    have e : (Str.join (Str.ofString "") (⟨#[c]⟩ :: v :: r)).cps = #[c] ++ (Str.ofString "").cps ++ (Str.join (Str.ofString "") (v :: r)).cps := rfl
    have e0 : (Str.ofString "").cps = #[] := by decide +kernel
    refine ⟨?_, fun d hd => ?_⟩
    · rw [e, e0]
      simp only [Array.append_empty, Array.size_append, i1, List.length_cons]
      show 1 + _ = _
      omega
    · rw [e, e0] at hd
      simp only [Array.append_empty, Array.toList_append, List.mem_append] at hd
      rcases hd with hd | hd
      · have : d = c := by simpa using hd
        exact this ▸ hc
      · exact i2 d hd
end KK

set_option linter.all false
set_option maxRecDepth 100000
set_option maxHeartbeats 2000000
/-! GC: names drawn from a well. -/
namespace KK
open PySem L2 KF TL
def okC (c : Nat) : Prop := c ∈ LETT.cps.toList ∨ c ∈ DIGI.cps.toList
def sgW (w : Str) : Prop := ∃ c, w = ⟨#[c]⟩ ∧ okC c
section
variable {n B : Nat} {S : Store} {d1 d2 d4 d5 : D}
theorem signs_ok {r : Nat} (hr : r ≤ 7) (h : PW S n B) (hB : B + 100 < 2 ^ 60) :
    ∃ (ws : List Str) (S' : Store), (lcE (rng1E (vE 6)) (nameP 9) yesT (opE gIx (vE 3) (callF (fnM 2 (M_law_dip)) (seqE [(vE 0), (cE (.int 36))]))) [9]) [some (Sl.v (.cell n)), some (Sl.v d1), some (Sl.v d2), some (Sl.v (.str SIGNS)), some (Sl.v d4), some (Sl.v d5), some (Sl.v (.int r)), none, none, none, none] S = .ok (.lst (ws.map .str)) S' ∧ ws.length = r ∧ (∀ w ∈ ws, sgW w) ∧ PW S' n (B + r) ∧ Gr n S S' := by
  obtain ⟨d, S', e, ys, rfl, ws, rfl, h1, h2, h3, h4⟩ := lc_sat (mi := rng1E (vE 6)) (g := nameP 9) (m := opE gIx (vE 3) (callF (fnM 2 (M_law_dip)) (seqE [(vE 0), (cE (.int 36))]))) (vs := [9]) (st := [some (Sl.v (.cell n)), some (Sl.v d1), some (Sl.v d2), some (Sl.v (.str SIGNS)), some (Sl.v d4), some (Sl.v d5), some (Sl.v (.int r)), none, none, none, none]) (S := S) (S1 := S) (ds := (List.range r).map fun (i : Nat) => D.int i)
    (fun j acc S' => ∃ ws : List Str, acc = ws.map .str ∧ ws.length = j ∧ (∀ w ∈ ws, sgW w) ∧ PW S' n (B + j) ∧ Gr n S S') (by simp -implicitDefEqProofs [rng_nat (show r ≤ 1000000 by omega)]) (by simp; omega) ⟨[], rfl, rfl, by simp, h, .refl n S⟩ fun i d acc S1 hd ⟨ws, e, h1, h2, h3, h4⟩ => by
      subst e
      have hi : i < r := by
        have := (List.getElem?_eq_some_iff.mp hd).1
        simpa using this
      obtain ⟨q, S2, e2, hq, hu, g⟩ := dip_M (k := 36) h3 (by decide) (by decide) (by omega)
      obtain ⟨c, ec, hc, _⟩ := ix_sign (r := q) (S := S2) (by omega) (by omega)
      refine ⟨[some (Sl.v (.cell n)), some (Sl.v d1), some (Sl.v d2), some (Sl.v (.str SIGNS)), some (Sl.v d4), some (Sl.v d5), some (Sl.v (.int r)), none, none, some (Sl.v d), none], rfl, .str ⟨#[c]⟩, S2, ?_, ws ++ [⟨#[c]⟩], by simp, by simp [h1], fun w hw => ?_, hu, h4.trans g⟩
      · simp -implicitDefEqProofs only [ev_op, ev_v, ev_c, ev_callF, ev_seq1, ev_seq0, List.getElem?_cons_succ, List.getElem?_cons_zero, bind_ok, t_fn2, e2, ec, t_ofS]
      · rcases List.mem_append.mp hw with q | q
        · exact h2 w q
        · exact ⟨c, by simpa using q, hc⟩
  have hl : ((List.range r).map fun (i : Nat) => D.int i).length = r := by simp
  rw [hl] at h1 h3
  exact ⟨ws, S', e, h1, h2, h3, h4⟩
def zw (k : Nat) : Str := Str.ofString "z" ++ (Str.ofString (toString (k : Int)))
theorem zw_ok {k : Nat} (h : k < 4) : NameOk (zw k) := nameB_ok (by
  have : ∀ k : Fin 4, nameB (zw k.val) = true := by decide +kernel
  exact this ⟨k, h⟩)
theorem zw_nd : ((List.range 4).map zw).Nodup := by decide +kernel
theorem zs_ok {d0 d3 d6 d7 : D} : (lcE (rng1E (vE 1)) (nameP 9) yesT (opE gAdd (cE (.str (Str.ofString "z"))) (callE (g1 gStr) (seqE [(vE 9)]))) [9]) [some (Sl.v d0), some (Sl.v (.int 4)), some (Sl.v d2), some (Sl.v d3), some (Sl.v d4), some (Sl.v d5), some (Sl.v d6), some (Sl.v d7), none, none, none] S = .ok (.lst (((List.range 4).map zw).map .str)) S := by
  rw [List.map_map]
  refine lc_map (e := fun (i : Nat) => D.int i) (List.range 4) (D.str ∘ zw) (by
    have := rng_nat (S := S) (n := 4) (by omega)
    exact this) (by simp) fun k hk => ?_
  have hk : k < 4 := by simpa using hk
  refine ⟨[some (Sl.v d0), some (Sl.v (.int 4)), some (Sl.v d2), some (Sl.v d3), some (Sl.v d4), some (Sl.v d5), some (Sl.v d6), some (Sl.v d7), none, some (Sl.v (.int k)), none], rfl, ?_⟩
  have gs : gStr (.int (k : Int)) S = some (.str (Str.ofString (toString (k : Int)))) := by
    have : (k : Int).natAbs.log2 < 1920 := Nat.lt_trans (log_lt (k := 40) (by omega) (by omega) (by decide)) (by decide)
    show (if (k : Int).natAbs.log2 < 1920 then _ else _) = _
    rw [if_pos this]
  have ga : gAdd (.str (Str.ofString "z")) (.str (Str.ofString (toString (k : Int)))) S = some (.str (zw k)) := by
    have : ∀ i : Fin 4, (Str.ofString "z").length + (Str.ofString (toString (i.val : Int))).length ≤ 16777216 := by decide +kernel
    have z := this ⟨k, hk⟩
    show (if (Str.ofString "z").length + (Str.ofString (toString (k : Int))).length ≤ sizeLine then _ else _) = _
    rw [if_pos (by rw [sizeLine_eq]; exact z)]
    rfl
  simp -implicitDefEqProofs only [ev_op, ev_c, ev_v, ev_callE, ev_seq1, ev_seq0, List.getElem?_cons_succ, List.getElem?_cons_zero, bind_ok, t_g1, gs, t_ofS, ga, Function.comp]
theorem nin_S {c : Nat} {ws : List Str} {w : Str} (h : asL S (.cell c) = some (ws.map .str)) : gNotIn (.str w) (.cell c) S = some (.bl (decide (w ∉ ws))) := by
  have h2 : inD S (.str w) (.cell c) = optAny (fun z => eqD S KF.deep z (.str w)) (ws.map .str) := by
    show (asL S (.cell c)).bind _ = _
    rw [h]
    rfl
  unfold gNotIn
  rw [h2, KF.optAny_map (e := D.str) (x := w) fun y => eq_str.deep (by decide)]
  simp
theorem free13 {d0 d3 d6 d7 : D} {c : Nat} {ws : List Str} {w : Str} (h : asL S (.cell c) = some (ws.map .str)) (hl : ws.length < 4) (hw : NameOk w) : ∃ v r, (lcE (itE (vE 8)) (nameP 10) (bE (opE gNotIn (vE 10) (vE 4))) (vE 10) [10]) [some (Sl.v d0), some (Sl.v d1), some (Sl.v d2), some (Sl.v d3), some (Sl.v (.cell c)), some (Sl.v d5), some (Sl.v d6), some (Sl.v d7), some (Sl.v (.lst ((w :: (List.range 4).map zw).map .str))), none, none] S = .ok (.lst (.str v :: r)) S ∧ NameOk v ∧ v ∉ ws := by
  have lc := lc_eq (S := S) (st := [some (Sl.v d0), some (Sl.v d1), some (Sl.v d2), some (Sl.v d3), some (Sl.v (.cell c)), some (Sl.v d5), some (Sl.v d6), some (Sl.v d7), some (Sl.v (.lst ((w :: (List.range 4).map zw).map .str))), none, none]) (mi := itE (vE 8)) (g := nameP 10) (t := bE (opE gNotIn (vE 10) (vE 4))) (m := vE 10) (vs := [10]) (e := D.str) (w :: (List.range 4).map zw) (fun w => decide (w ∉ ws)) D.str (by
    rfl) (by simp) fun v hv => ⟨[some (Sl.v d0), some (Sl.v d1), some (Sl.v d2), some (Sl.v d3), some (Sl.v (.cell c)), some (Sl.v d5), some (Sl.v d6), some (Sl.v d7), some (Sl.v (.lst ((w :: (List.range 4).map zw).map .str))), none, some (Sl.v (.str v))], rfl, by
      simp -implicitDefEqProofs only [ev_b, ev_op, ev_v, List.getElem?_cons_succ, List.getElem?_cons_zero, bind_ok, nin_S h, t_ofS, t_asB], fun _ => by
      simp -implicitDefEqProofs only [ev_v, List.getElem?_cons_succ, List.getElem?_cons_zero]⟩
  have al : ∀ v ∈ w :: (List.range 4).map zw, NameOk v := fun v hv => by
    rcases List.mem_cons.mp hv with e | e
    · exact e ▸ hw
    · obtain ⟨k, hk, rfl⟩ := List.mem_map.mp e
      exact zw_ok (by simpa using hk)
  cases hF : (w :: (List.range 4).map zw).filter (fun w => decide (w ∉ ws)) with
  | nil =>
    exfalso
    have all := List.filter_eq_nil_iff.mp hF
    have sub : ((List.range 4).map zw).length ≤ ws.length := zw_nd.length_le_of_subset fun v hv => by
      have := all v (List.mem_cons_of_mem _ hv)
      simpa using this
    simp at sub
    omega
  | cons v r =>
    have hv : v ∈ (w :: (List.range 4).map zw).filter (fun w => decide (w ∉ ws)) := by rw [hF]; simp
    obtain ⟨q1, q2⟩ := List.mem_filter.mp hv
    rw [hF] at lc
    exact ⟨v, r.map .str, lc, al v q1, by simpa using q2⟩
end
end KK

set_option linter.all false
set_option maxRecDepth 100000
set_option maxHeartbeats 4000000
/-! GD: names in a new cell. -/
namespace KK
open PySem L2 KF TL
theorem gr_setN {n m : Nat} {A S : Store} {c : Cell} (g : Gr n A S) (hm : A.length ≤ m) : Gr n A (S.set m c) := ⟨by rw [List.length_set]; exact g.len, fun i hi ne => by
  rw [List.getElem?_set_ne (by omega)]
  exact g.oth i hi ne⟩
theorem pw_setN {n m B : Nat} {S : Store} {c : Cell} (h : PW S n B) (hm : m ≠ n) : PW (S.set m c) n B := h.to (List.getElem?_set_ne hm)
theorem thnF_sat {σσ : Type} {r : Res (Step σσ Empty)} {P : σσ → Store → Prop} {k : σσ → Store → Res D} (Q : Res D → Prop) (h : r.sat fun x S => ∃ s, x = .nx s ∧ P s S) (i : ∀ s S, P s S → Q (k s S)) : Q (KF.thnF r k) := by
  obtain ⟨a, S, rfl, s, rfl, p⟩ := h
  exact i s S p
theorem app_C {S : Store} {m : Nat} {xs : List D} {d : D} (h : S[m]? = some (.lst xs)) (hl : xs.length ≤ 10000) : mAppend (.cell m) [d] S = some (.non, S.set m (.lst (xs ++ [d]))) := by
  have e : mutL S (.cell m) = some (m, xs) := by
    show (match S[m]? with | some (.lst xs) => some (m, xs) | _ => none) = _
    rw [h]
  unfold mAppend
  rw [e]
  exact if_pos (by rw [sizeLine_eq]; omega)
theorem okL_C {S : Store} {m : Nat} {xs : List D} (h : asL S (.cell m) = some xs) : okL S (.cell m) = true := by
  show (asL S (.cell m)).isSome = true
  rw [h]
  rfl
def WORDS13 : List Str := [Str.ofString "kinds", Str.ofString "pair", Str.ofString "first", Str.ofString "last", Str.ofString "few", Str.ofString "apart", Str.ofString "a", Str.ofString "border"]
theorem words13_ok : ∀ w ∈ WORDS13, NameOk w := fun w hw => nameB_ok (List.all_eq_true.mp (show WORDS13.all nameB = true by decide +kernel) w hw)
abbrev EMP : Str := Str.ofString ""
theorem word_ok {c : Nat} {sg : List Str} (hc : c ∈ LETT.cps.toList) (hs : ∀ w ∈ sg, sgW w) (hl : sg.length ≤ 7) : NameOk (⟨#[c]⟩ ++ Txt.join EMP sg) := by
  obtain ⟨h1, h2⟩ := join_al (P := okC) hs
  rw [join_eq]
  have e : ((⟨#[c]⟩ : Str) ++ Str.join EMP sg).cps = #[c] ++ (Str.join EMP sg).cps := rfl
  have sz : ((⟨#[c]⟩ : Str) ++ Str.join EMP sg).cps.size = 1 + sg.length := by
    rw [e, Array.size_append, h1]
    rfl
  refine ⟨by omega, by omega, ⟨c, ?_, hc⟩, fun d hd => ?_⟩
  · rw [e, Array.toList_append]
    rfl
  · rw [e, Array.toList_append, List.mem_append] at hd
    rcases hd with hd | hd
    · have : d = c := by simpa using hd
      exact this ▸ .inl hc
    · exact h2 d hd
theorem names13 {n B : Nat} {S : Store} (h : PW S n B) (hB : B + 200 < 2 ^ 60) : ∃ (m : Nat) (ws : List Str) (S' : Store), P_law_names (.cell n) (.int 4) S = .ok (.cell m) S' ∧ S'[m]? = some (.lst (ws.map .str)) ∧ ws.length = 4 ∧ (∀ w ∈ ws, NameOk w) ∧ PW S' n (B + 60) ∧ Gr n S S' ∧ m ≠ n := by
  have hm : S.length ≠ n := fun z => absurd h.lt (by omega)
  unfold P_law_names
  have r4 : ∀ S, rng1R (.int 4) S = .ok ((List.range 4).map fun (i : Nat) => D.int i) S := fun S => rng_nat (n := 4) (by omega)
  simp -implicitDefEqProofs only [bind_ok, t_lstC (ds := []) (S := S) (by simp), t_tup2, t_un2, r4]
  refine thnF_sat (Q := fun r => ∃ (m : Nat) (ws : List Str) (S' : Store), r = .ok (.cell m) S' ∧ S'[m]? = some (.lst (ws.map .str)) ∧ ws.length = 4 ∧ (∀ w ∈ ws, NameOk w) ∧ PW S' n (B + 60) ∧ Gr n S S' ∧ m ≠ n)
    (for_rng (fun i s S' => s = .cell S.length ∧ ∃ ws : List Str, S'[S.length]? = some (.lst (ws.map .str)) ∧ ws.length = i ∧ (∀ w ∈ ws, NameOk w) ∧ PW S' n (B + i * 15) ∧ Gr n S S') 4 ⟨rfl, [], by simp, rfl, by simp, pw_new h, gr_new⟩ fun i s S0 hi ⟨es, ws, c0, l0, n0, hu, g⟩ => ?_) fun s S' ⟨es, ws, c0, l0, n0, hu, g⟩ => ⟨_, ws, S', by rw [es], c0, l0, n0, hu, g, hm⟩
  subst es
  generalize hM : S.length = m at *
  obtain ⟨q1, S1, e1, hq1, h1, g1⟩ := dip_ok (k := 4) hu (by decide) (by decide) (by omega)
  have c2 : ∃ (r : Nat) (S2 : Store), (if decide ((q1 : Int) = 0) then P_law_dip (.cell n) (.int 8) S1 else P_law_dip (.cell n) (.int 2) S1) = .ok (.int r) S2 ∧ r ≤ 7 ∧ PW S2 n (B + i * 15 + 1 + 1) ∧ Gr n S1 S2 := by
    by_cases z : (q1 : Int) = 0
    · obtain ⟨r, S2, e, hr, hh, gg⟩ := dip_ok (k := 8) h1 (by decide) (by decide) (by omega)
      exact ⟨r, S2, by simpa [z] using e, by omega, hh, gg⟩
    · obtain ⟨r, S2, e, hr, hh, gg⟩ := dip_ok (k := 2) h1 (by decide) (by decide) (by omega)
      exact ⟨r, S2, by rw [if_neg (by simpa using z)]; exact e, by omega, hh, gg⟩
  obtain ⟨r, S2, e2, hr, h2, g2⟩ := c2
  obtain ⟨q3, S3, e3, hq3, h3, g3⟩ := dip_ok (k := 26) h2 (by decide) (by decide) (by omega)
  obtain ⟨c, ec, _, hc⟩ := ix_sign (r := q3) (S := S3) (by omega) (by omega)
  obtain ⟨sg, S4, e4, l4, a4, h4, g4⟩ := signs_ok (d1 := .int 4) (d2 := .lst (WORDS13.map .str)) (d4 := .cell m) (d5 := .int i) hr h3 (by omega)
  have jn : mJoin (.str EMP) [.lst (sg.map .str)] S4 = some (.str (Txt.join EMP sg), S4) := join_ok (b := 1) (fun w hw => by obtain ⟨c, rfl, _⟩ := a4 w hw; exact Nat.le_refl _) (by decide) (by omega) (by decide +kernel)
  have wn := word_ok (hc (by omega)) a4 (by omega)
  have ga : gAdd (.str ⟨#[c]⟩) (.str (Txt.join EMP sg)) S4 = some (.str (⟨#[c]⟩ ++ Txt.join EMP sg)) := if_pos (by
    have := wn.l8
    have e : ((⟨#[c]⟩ : Str) ++ Txt.join EMP sg).length = (⟨#[c]⟩ : Str).length + (Txt.join EMP sg).length := Str.length_append _ _
    rw [sizeLine_eq, ← e]
    show ((⟨#[c]⟩ : Str) ++ Txt.join EMP sg).cps.size ≤ _
    omega)
  obtain ⟨q5, S5, e5, hq5, h5, g5⟩ := dip_ok (k := 5) h4 (by decide) (by decide) (by omega)
  have c6 : ∃ (w : Str) (S6 : Store), (if decide ((q5 : Int) = 0) then (P_law_dip (.cell n) (.int 8) S5).bind fun d22 S => (Res.of (gIx (.lst (WORDS13.map .str)) d22 S) S).bind fun d23 S => Res.ok (Step.nx d23) S else Res.ok (Step.nx (D.str (⟨#[c]⟩ ++ Txt.join EMP sg))) S5 : Res (Step D D)) = .ok (Step.nx (.str w)) S6 ∧ NameOk w ∧ PW S6 n (B + i * 15 + 1 + 1 + 1 + r + 1 + 1) ∧ Gr n S5 S6 := by
    by_cases z : (q5 : Int) = 0
    · obtain ⟨r, S6, e, hr, hh, gg⟩ := dip_ok (k := 8) h5 (by decide) (by decide) (by omega)
      have hl : r < WORDS13.length := by show r < 8; omega
      have gi : gIx (.lst (WORDS13.map .str)) (.int r) S6 = some (.str WORDS13[r]) := by
        rw [t_ixL, at_nat, List.getElem?_map, List.getElem?_eq_getElem hl]
        rfl
      exact ⟨WORDS13[r], S6, by rw [if_pos (by simpa using z), e]; simp -implicitDefEqProofs only [bind_ok, gi, t_ofS], words13_ok _ (List.getElem_mem hl), hh, gg⟩
    · exact ⟨_, S5, by rw [if_neg (by simpa using z)], wn, h5.mono (by omega), .refl n S5⟩
  obtain ⟨w, S6, e6, hw, h6, g6⟩ := c6
  have gAll := (((((g.trans g1).trans g2).trans g3).trans g4).trans g5).trans g6
  have c6 : S6[m]? = some (.lst (ws.map .str)) := (((((g1.trans g2).trans g3).trans g4).trans g5).trans g6).cell c0 hm
  have zs := zs_ok (S := S6) (d0 := .cell n) (d2 := .lst (WORDS13.map .str)) (d3 := .str SIGNS) (d4 := .cell m) (d5 := .int i) (d6 := .int r) (d7 := .str w)
  obtain ⟨v, rest, ef, hv, nv⟩ := free13 (d0 := .cell n) (d1 := .int 4) (d2 := .lst (WORDS13.map .str)) (d3 := .str SIGNS) (d5 := .int i) (d6 := .int r) (d7 := .str w) (asL_C c6) (by omega) hw
  have ad : gAdd (.lst [.str w]) (.lst (((List.range 4).map zw).map .str)) S6 = some (.lst ((w :: (List.range 4).map zw).map .str)) := by
    rw [t_addL (by simp)]
    rfl
  unfold WORDS13 at e4 e6 zs ef
  simp -implicitDefEqProofs only [List.map_cons, List.map_nil] at e4 e6 zs ef
  try simp -implicitDefEqProofs only [bind_ok] at e6
  simp -implicitDefEqProofs only [t_assoc, e1, bind_ok, t_eqI, t_ofS, t_asB, e2, e3, ec, okS_str, if_true, e4, jn, of2_ok, ga, e5, e6, t_nx]
  simp -implicitDefEqProofs only [List.map_cons, List.map_nil] at ad
  simp -implicitDefEqProofs only [zs, bind_ok, ad, t_ofS, okL_C (asL_C c6), if_true, ef, t_ixL, at_0, app_C c6 (by simp; omega), of2_ok]
  refine ⟨_, _, rfl, _, rfl, rfl, ws ++ [v], ?_, by simp [l0], fun x hx => ?_, pw_setN (h6.mono (by omega)) hm, gr_setN gAll (by omega)⟩
  · rw [List.getElem?_set_self (List.getElem?_eq_some_iff.mp c6).1]
    simp
  · rcases List.mem_append.mp hx with q | q
    · exact n0 x q
    · have : x = v := by simpa using q
      exact this ▸ hv
end KK

set_option linter.all false
set_option maxRecDepth 100000
set_option maxHeartbeats 4000000
/-! GE: a row of blocks. -/
namespace KK
open PySem L2 KF TL
abbrev Blk := List Str × Nat
abbrev bD (b : Blk) : D := .tup [.tup (b.1.map .str), .int b.2]
structure BOk (b : Blk) : Prop where
  w1 : 1 ≤ b.1.length
  w4 : b.1.length ≤ 4
  nm : ∀ w ∈ b.1, NameOk w
  t1 : 1 ≤ b.2
  t2 : b.2 ≤ 10 ^ 30
theorem word13 {n B m c : Nat} {S : Store} {ws : List Str} {d3 : D} (h : PW S n B) (hB : B + 100 < 2 ^ 60) (hm : m ≠ n) (hs : S[m]? = some (.lst (ws.map .str))) (hl : ws.length = 4) (hw : ∀ w ∈ ws, NameOk w) :
    ∃ (us : List Str) (S' : Store), (lcE (rng1E (opE gAdd (cE (.int 1)) (callF (fnM 2 (M_law_dip)) (seqE [(vE 0), (cE (.int 4))])))) (nameP 6) yesT (opE gIx (vE 1) (callF (fnM 2 (M_law_dip)) (seqE [(vE 0), (cE (.int 4))]))) [6]) [some (Sl.v (.cell n)), some (Sl.v (.cell m)), some (Sl.v (.cell c)), some (Sl.v d3), none, none, none] S = .ok (.lst (us.map .str)) S' ∧ 1 ≤ us.length ∧ us.length ≤ 4 ∧ (∀ w ∈ us, NameOk w) ∧ PW S' n (B + 5) ∧ Gr n S S' := by
  obtain ⟨q, S1, e1, hq, h1, g1⟩ := dip_M (k := 4) h (by decide) (by decide) (by omega)
  have eq : (1 : Int) + q = ((1 + q : Nat) : Int) := by omega
  obtain ⟨d, S', e, ys, rfl, us, rfl, z1, z2, z3, z4⟩ := lc_sat (mi := rng1E (opE gAdd (cE (.int 1)) (callF (fnM 2 (M_law_dip)) (seqE [(vE 0), (cE (.int 4))])))) (g := nameP 6) (m := opE gIx (vE 1) (callF (fnM 2 (M_law_dip)) (seqE [(vE 0), (cE (.int 4))]))) (vs := [6]) (st := [some (Sl.v (.cell n)), some (Sl.v (.cell m)), some (Sl.v (.cell c)), some (Sl.v d3), none, none, none]) (S := S) (S1 := S1) (ds := (List.range (1 + q)).map fun (i : Nat) => D.int i)
    (fun j acc S' => ∃ us : List Str, acc = us.map .str ∧ us.length = j ∧ (∀ w ∈ us, NameOk w) ∧ PW S' n (B + 1 + j) ∧ Gr n S S') (by
      simp -implicitDefEqProofs only [ei_rng1, ev_op, ev_c, ev_v, ev_callF, ev_seq1, ev_seq0, List.getElem?_cons_zero, bind_ok, t_fn2, e1, t_addI, t_ofS, eq]
      exact rng_nat (by omega)) (by simp; omega) ⟨[], rfl, rfl, by simp, h1, g1⟩ fun i d acc S1 hd ⟨us, e, z1, z2, z3, z4⟩ => by
      subst e
      have hi : i < 1 + q := by
        have := (List.getElem?_eq_some_iff.mp hd).1
        simpa using this
      obtain ⟨r, S2, e2, hr, hu, g⟩ := dip_M (k := 4) z3 (by decide) (by decide) (by omega)
      have hr' : r < ws.length := by omega
      have gx : gIx (.cell m) (.int r) S2 = some (.str ws[r]) := by
        rw [ix_Ci (asL_C ((z4.trans g).cell hs hm)), at_nat, List.getElem?_map, List.getElem?_eq_getElem hr']
        rfl
      refine ⟨[some (Sl.v (.cell n)), some (Sl.v (.cell m)), some (Sl.v (.cell c)), some (Sl.v d3), none, none, some (Sl.v d)], rfl, .str ws[r], S2, ?_, us ++ [ws[r]], by simp, by simp [z1], fun w hw' => ?_, hu, z4.trans g⟩
      · simp -implicitDefEqProofs only [ev_op, ev_v, ev_c, ev_callF, ev_seq1, ev_seq0, List.getElem?_cons_succ, List.getElem?_cons_zero, bind_ok, t_fn2, e2, gx, t_ofS]
      · rcases List.mem_append.mp hw' with q | q
        · exact z2 w q
        · have : w = ws[r] := by simpa using q
          exact this ▸ hw _ (List.getElem_mem hr')
  have hl : ((List.range (1 + q)).map fun (i : Nat) => D.int i).length = 1 + q := by simp
  rw [hl] at z1 z3
  exact ⟨us, S', e, by omega, by omega, z2, z3.mono (by omega), z4⟩
theorem pow_i {j : Nat} {S : Store} (hj : j ≤ 1000) : gPow (.int 10) (.int j) S = some (.int (10 ^ j)) := by
  show (if (0 : Int) ≤ j ∧ (j : Int) ≤ 1000000 ∧ Int.natAbs 10 < 2 ^ 64 then some (D.int (10 ^ Int.toNat j)) else none) = _
  rw [if_pos ⟨by omega, by omega, by decide⟩]
  simp
theorem row13 {n B : Nat} {S : Store} (h : PW S n B) (hB : B + 300 < 2 ^ 60) : ∃ (m : Nat) (bs : List Blk) (S' : Store), P_law_row (.cell n) S = .ok (.cell m) S' ∧ S'[m]? = some (.lst (bs.map bD)) ∧ 1 ≤ bs.length ∧ bs.length ≤ 5 ∧ (∀ b ∈ bs, BOk b) ∧ PW S' n (B + 120) ∧ Gr n S S' ∧ m ≠ n := by
  obtain ⟨mw, ws, S1, e1, c1, l1, n1, h1, g1, mn⟩ := names13 h (by omega)
  have hm : S1.length ≠ n := fun z => absurd h1.lt (by omega)
  have hm2 : mw ≠ S1.length := fun z => absurd (List.getElem?_eq_some_iff.mp c1).1 (by omega)
  unfold P_law_row
  simp -implicitDefEqProofs only [t_assoc, e1, bind_ok, t_lstC (ds := []) (S := S1) (by simp), t_tup2, t_un2]
  obtain ⟨q, S2, e2, hq, h2, g2⟩ := dip_ok (k := 5) (pw_new (c := .lst []) h1) (by decide) (by decide) (by omega)
  have eq : (1 : Int) + q = ((1 + q : Nat) : Int) := by omega
  simp -implicitDefEqProofs only [e2, bind_ok, t_addI, t_ofS, eq, rng_nat (show 1 + q ≤ 1000000 by omega)]
  have g02 : Gr n S S2 := (g1.trans gr_new).trans g2
  have c2 : S2[S1.length]? = some (.lst []) := g2.cell (by simp) hm
  have cw : S2[mw]? = some (.lst (ws.map .str)) := (Gr.trans (gr_new (n := n) (c := .lst [])) g2).cell c1 mn
  have hg : S.length ≤ S1.length := g1.len
  generalize S1.length = m at *
  refine thnF_sat (Q := fun r => ∃ (m : Nat) (bs : List Blk) (S' : Store), r = .ok (.cell m) S' ∧ S'[m]? = some (.lst (bs.map bD)) ∧ 1 ≤ bs.length ∧ bs.length ≤ 5 ∧ (∀ b ∈ bs, BOk b) ∧ PW S' n (B + 120) ∧ Gr n S S' ∧ m ≠ n)
    (for_rng (fun i s S' => s = .cell m ∧ ∃ bs : List Blk, S'[m]? = some (.lst (bs.map bD)) ∧ S'[mw]? = some (.lst (ws.map .str)) ∧ bs.length = i ∧ (∀ b ∈ bs, BOk b) ∧ PW S' n (B + 61 + i * 10) ∧ Gr n S S') (1 + q) ⟨rfl, [], c2, cw, rfl, by simp, h2, g02⟩ fun i s S0 hi ⟨es, bs, cm, cw, l0, n0, hu, g⟩ => ?_) fun s S' ⟨es, bs, c0, _, l0, n0, hu, g⟩ => ⟨_, bs, S', by rw [es], c0, by omega, by omega, n0, hu.mono (by omega), g, hm⟩
  subst es
  obtain ⟨us, S3, e3, u1, u4, un, h3, g3⟩ := word13 (c := m) (d3 := .int i) hu (by omega) mn cw l1 n1
  obtain ⟨t1, S4, e4, q4, h4, g4⟩ := dip_ok (k := 5) h3 (by decide) (by decide) (by omega)
  obtain ⟨t2, S5, e5, q5, h5, g5⟩ := dip_ok (k := 3) h4 (by decide) (by decide) (by omega)
  obtain ⟨t3, S6, e6, q6, h6, g6⟩ := dip_M (k := 1000000000) h5 (by decide) (by decide) (by omega)
  obtain ⟨t4, S7, e7, q7, h7, g7⟩ := dip_ok (k := 4) h6 (by decide) (by decide) (by omega)
  have p30 : ∀ S, gPow (.int 10) (.int 30) S = some (.int 1000000000000000000000000000000) := fun S => pow_i (j := 30) (by omega)
  have p9 : ∀ S, gPow (.int 10) (.int 9) S = some (.int 1000000000) := fun S => pow_i (j := 9) (by omega)
  have c7 := ((((g3.trans g4).trans g5).trans g6).trans g7)
  have cm7 := c7.cell cm hm
  have gx : ∃ t : Nat, gIx (.lst [.int 1, .int (1 + t1), .int (1000000000000000000000000000000 - t2), .int (1 + t3)]) (.int t4) S7 = some (.int t) ∧ 1 ≤ t ∧ t ≤ 10 ^ 30 := by
    rw [t_ixL, at_nat]
    match t4, q7 with
    | 0, _ => exact ⟨1, rfl, by omega, by omega⟩
    | 1, _ => exact ⟨1 + t1, by simp, by omega, by omega⟩
    | 2, _ => exact ⟨1000000000000000000000000000000 - t2, by simp; omega, by omega, by omega⟩
    | 3, _ => exact ⟨1 + t3, by simp, by omega, by omega⟩
    | k + 4, h => omega
  obtain ⟨t, gt, ht1, ht2⟩ := gx
  have sb : ∀ S, KF.gSub (.int 1000000000000000000000000000000) (.int t2) S = some (.int (1000000000000000000000000000000 - t2)) := fun S => rfl
  simp -implicitDefEqProofs only [t_assoc, e3, bind_ok, t_g1, t_tupL, t_ofS, e4, t_addI, p30, e5, sb, p9, t_fn2, e6, t_lst4, e7, gt, okL_C (asL_C cm7), if_true, app_C cm7 (by simp; omega), of2_ok]
  refine ⟨_, _, rfl, _, rfl, rfl, bs ++ [(us, t)], ?_, ?_, by simp [l0], fun b hb => ?_, pw_setN (h7.mono (by omega)) hm, gr_setN (g.trans c7) (by omega)⟩
  · rw [List.getElem?_set_self (List.getElem?_eq_some_iff.mp cm7).1]
    simp
  · rw [List.getElem?_set_ne (Ne.symm hm2)]
    exact c7.cell cw mn
  · rcases List.mem_append.mp hb with q | q
    · exact n0 b q
    · have : b = (us, t) := by simpa using q
      subst this
      exact ⟨u1, u4, un, ht1, ht2⟩
end KK

set_option linter.all false
set_option maxRecDepth 100000
set_option maxHeartbeats 2000000
/-! GF: blocks judged. -/
namespace KK
open PySem L2 KF TL
def isI : D → Bool
  | .int _ => true
  | _ => false
def isT : D → Bool
  | .tup _ => true
  | _ => false
def winB (a b : Int) : D → Bool
  | .int i => decide (a ≤ i) && decide (i ≤ b)
  | _ => false
theorem ty_tup {S : Store} {d : D} (h : topV d = true) : gIsi [] d (.ty "tuple") S = some (.bl (isT d)) := by
  cases d <;> simp [topV] at h <;> (simp [gIsi, tyD, clsTy, tyIn, isiTy, isT] <;> decide)
theorem isint_top {d : D} (h : topV d = true) (S : Store) : P_is_integer d S = .ok (.bl (isI d)) S := by
  have e1 : gIsi [] d (.ty "int") S = some (.bl (match d with | .int _ => true | .bl _ => true | _ => false)) := by
    cases d <;> simp [topV] at h <;> (simp [gIsi, tyD, clsTy, tyIn, isiTy] <;> decide)
  have e2 : gIsi [] d (.ty "bool") S = some (.bl (match d with | .bl _ => true | _ => false)) := by
    cases d <;> simp [topV] at h <;> (simp [gIsi, tyD, clsTy, tyIn, isiTy] <;> decide)
  unfold P_is_integer
  simp -implicitDefEqProofs only [t_g2, e1, e2, t_ofS, bind_ok]
  cases d <;> rfl
theorem within_top {d : D} {a b : Int} (h : topV d = true) (S : Store) : P_is_within d (.int a) (.int b) S = .ok (.bl (winB a b d)) S := by
  unfold P_is_within
  simp -implicitDefEqProofs only [isint_top h, bind_ok]
  cases d <;> try rfl
  rename_i i
  by_cases h1 : a ≤ i
  · simp -implicitDefEqProofs [isI, winB, h1]
  · simp -implicitDefEqProofs [isI, winB, h1]
def blkB : D → Bool
  | .tup [.tup ks, t] => !ks.isEmpty && (ks.all nmD && winB 1 1000000000000000000000000000000 t)
  | _ => false
/-- a value that can be judged -/
structure VOk (d : D) : Prop where
  top : topV d = true
  two : ∀ x t, d = .tup [x, t] → topV x = true ∧ topV t = true ∧ ∀ ks, x = .tup ks → ks.length ≤ 1000 ∧ ∀ k ∈ ks, topV k = true
theorem isblk {d : D} (h : VOk d) (S : Store) : P_is_block d S = .ok (.bl (blkB d)) S := by
  have nI : ∀ (k : Int) (S : Store), gNe (.int k) (.int 2) S = some (.bl (decide (k ≠ 2))) := fun k S => t_neI
  by_cases ht : isT d = true
  · obtain ⟨xs, rfl⟩ : ∃ xs, d = .tup xs := by
      cases d <;> simp [isT] at ht
      exact ⟨_, rfl⟩
    by_cases hl : xs.length = 2
    · obtain ⟨x, t, rfl⟩ : ∃ x t, xs = [x, t] := by
        match xs, hl with
        | [x, t], _ => exact ⟨x, t, rfl⟩
      obtain ⟨hx, htt, hk⟩ := h.two x t rfl
      by_cases hxt : isT x = true
      · obtain ⟨ks, rfl⟩ : ∃ ks, x = .tup ks := by
          cases x <;> simp [isT] at hxt
          exact ⟨_, rfl⟩
        obtain ⟨hz, hk⟩ := hk ks rfl
        cases ks with
        | nil =>
          unfold P_is_block
          simp -implicitDefEqProofs [ty_tup h.top, isT, nI, ty_tup hx, blkB]
        | cons k r =>
          have lc := lc_map (S := S) (mi := itE (opE gIx (vE 0) (cE (.int 0)))) (g := nameP 1) (m := callF (fnM 1 (M_is_name)) (seqE [(vE 1)])) (vs := [1]) (st := [some (Sl.v (.tup [.tup (k :: r), t])), none])
            (e := fun d : D => d) (k :: r) (fun d => .bl (nmD d)) (by simp -implicitDefEqProofs) (by omega) fun d hd => ⟨[some (Sl.v (.tup [.tup (k :: r), t])), some (Sl.v d)], rfl, by
              simp -implicitDefEqProofs [isname_top (hk d hd)]⟩
          have r1 : ¬ (((r.length + 1 : Nat) : Int) = 0) := by omega
          have w := within_top (a := 1) (b := 1000000000000000000000000000000) htt S
          have al := all_map (S := S) nmD (k :: r)
          unfold P_is_block
          simp -implicitDefEqProofs only [t_g2, ty_tup h.top, isT, t_ofS, bind_ok, t_asB, Bool.not_true, Bool.false_eq_true, if_false, t_g1, t_lenT, List.length_cons, List.length_nil, Nat.zero_add, Nat.reduceAdd, nI, t_ixT, at_0, at_1, ty_tup hx, t_eqI, r1, decide_false, lc, al, t_fn3, ev_is_within]
          have e2 : decide (((2 : Nat) : Int) ≠ 2) = false := by decide
          simp -implicitDefEqProofs only [e2, t_ofS, bind_ok, t_asB, Bool.false_eq_true, if_false, lc, t_g1, al]
          show andR (.bl ((k :: r).all nmD)) S (fun S => P_is_within t (.int 1) (.int 1000000000000000000000000000000) S) = .ok (.bl (!(k :: r).isEmpty && ((k :: r).all nmD && winB 1 1000000000000000000000000000000 t))) S
          rw [t_and (b := winB 1 1000000000000000000000000000000 t) fun _ => w]
          rfl
      · have e : blkB (.tup [x, t]) = false := by
          cases x <;> first | rfl | exact absurd rfl hxt
        rw [e]
        unfold P_is_block
        simp -implicitDefEqProofs [ty_tup h.top, show isT (.tup [x, t]) = true from rfl, nI, ty_tup hx, (Bool.not_eq_true _).mp hxt]
    · have e : blkB (.tup xs) = false := by
        match xs, hl with
        | [], _ => rfl
        | [a], _ => cases a <;> rfl
        | a :: b :: c :: r, _ => cases a <;> rfl
        | [a, b], h => exact absurd rfl h
      have hl' : ¬ ((xs.length : Int) = 2) := by omega
      rw [e]
      unfold P_is_block
      simp -implicitDefEqProofs [ty_tup h.top, isT, nI, hl']
  · have e : blkB d = false := by
      cases d <;> first | rfl | exact absurd rfl ht
    rw [e]
    unfold P_is_block
    simp -implicitDefEqProofs [ty_tup h.top, (Bool.not_eq_true _).mp ht]
theorem blk_nm {w : Str} (h : NameOk w) : nmD (.str w) = true := by
  have : nameB w = true := by
    obtain ⟨h1, h2, ⟨c, hc, hl⟩, ha⟩ := h
    unfold nameB
    cases e : w.cps.toList with
    | nil => rw [e] at hc; cases hc
    | cons x r =>
      rw [e] at hc
      have : x = c := by simpa using hc
      subst this
      simp only [Bool.and_eq_true, decide_eq_true_eq, List.all_eq_true, Bool.or_eq_true]
      exact ⟨h1, h2, hl, fun c hc => ha c (by rw [e]; exact hc)⟩
  exact this
theorem bok_v {b : Blk} (h : BOk b) : VOk (bD b) := ⟨rfl, fun x t e => by
  simp only [bD, D.tup.injEq, List.cons.injEq, and_true] at e
  obtain ⟨rfl, rfl⟩ := e
  refine ⟨rfl, rfl, fun ks e => ?_⟩
  cases e
  refine ⟨by have := h.w4; simp; omega, fun k hk => ?_⟩
  obtain ⟨w, hw, rfl⟩ := List.mem_map.mp hk
  have := (h.nm w hw).l8
  simp [topV]
  omega⟩
theorem bok_b {b : Blk} (h : BOk b) : blkB (bD b) = true := by
  obtain ⟨ks, t⟩ := b
  have h1 := h.w1
  have t1 := h.t1
  have t2 := h.t2
  simp only [bD, blkB, winB, Bool.and_eq_true, decide_eq_true_eq, Bool.not_eq_true', List.all_eq_true]
  refine ⟨?_, fun d hd => ?_, ?_, ?_⟩
  · cases ks with
    | nil => simp at h1
    | cons _ _ => rfl
  · obtain ⟨w, hw, rfl⟩ := List.mem_map.mp hd
    exact blk_nm (h.nm w hw)
  · simp only at t1; omega
  · simp only at t2; omega
end KK

set_option linter.all false
set_option maxRecDepth 100000
set_option maxHeartbeats 2000000
/-! GG: blocks checked, counted, gone through. -/
namespace KK
open PySem L2 KF TL
theorem for_err {γ σσ κ : Type} {S : Store} {step : D → σσ → Store → Res (Step σσ σσ)} {e : γ → D} {s : σσ} (p : γ → Bool) (x : γ → Exn) : ∀ (xs : List γ), (∀ y ∈ xs, step (e y) s S = if p y then .err (x y) S else .ok (.nx s) S) →
    forP (κ := κ) step (xs.map e) s S = match xs.find? p with | some y => .err (x y) S | none => .ok (.nx s) S
  | [], h => rfl
  | y :: ys, h => by
    rw [List.map_cons, forP_cons, h y (by simp)]
    cases hp : p y with
    | true => simp [List.find?, hp, turn]
    | false =>
      simp only [List.find?, hp]
      exact for_err p x ys fun z hz => h z (by simp [hz])
def ixS : Str := Str.ofString "index"
def gvS : Str := Str.ofString "given"
def exB (ex : Ex) (d : D) : Exn := ⟨.ref ex.InvalidBlocks, some ([ixS], [d])⟩
def exN (ex : Ex) (d : D) : Exn := ⟨.ref ex.InvalidNumber, some ([gvS], [d])⟩
theorem chk_not {ex : Ex} {d : D} {S : Store} (h : gIsi [] d (.ty "tuple") S = some (.bl false)) : P_check_blocks ex d S = .err (exB ex .non) S := by
  unfold P_check_blocks
  simp -implicitDefEqProofs [h, raiR]
  rfl
theorem chk_tup {ex : Ex} {ds : List D} {S : Store} (h : ∀ d ∈ ds, VOk d) : P_check_blocks ex (.tup ds) S = match ds.zipIdx.find? (fun p => !blkB p.1) with | some p => .err (exB ex (.int p.2)) S | none => .ok .non S := by
  have fe := for_err (κ := Empty) (S := S) (s := ()) (e := fun p : D × Nat => D.tup [.int p.2, p.1]) (step := fun d5 (s4 : Unit) S => unT2 d5 fun e6 e7 => (((P_is_block e7 S).bind fun d9 S => Res.of (asB d9) S).bind fun k8 S => Res.ok (!k8) S).bind fun k10 S => if k10 then raiR ex.InvalidBlocks (Str.ofString "index") (Res.ok e6 S) else Res.ok (Step.nx ()) S)
    (fun p => !blkB p.1) (fun p => exB ex (.int p.2)) ds.zipIdx fun p hp => by
      have hd : p.1 ∈ ds := List.fst_mem_of_mem_zipIdx hp
      cases hb : blkB p.1 with
      | true => simp -implicitDefEqProofs [isblk (h _ hd), hb]
      | false =>
        simp -implicitDefEqProofs [isblk (h _ hd), hb, raiR]
        rfl
  have nz : numD 0 ds = ds.zipIdx.map fun p => D.tup [.int p.2, p.1] := by
    have := num_zip (e := fun d : D => d) ds 0
    simpa using this
  unfold P_check_blocks
  simp -implicitDefEqProofs only [t_g2, tyT, t_ofS, bind_ok, t_asB, Bool.not_true, Bool.false_eq_true, if_false, t_seqNT, nz, fe]
  cases ds.zipIdx.find? (fun p => !blkB p.1) <;> rfl
theorem chk_good {ex : Ex} {bs : List Blk} {S : Store} (h : ∀ b ∈ bs, BOk b) : P_check_blocks ex (.tup (bs.map bD)) S = .ok .non S := by
  rw [chk_tup fun d hd => by
    obtain ⟨b, hb, rfl⟩ := List.mem_map.mp hd
    exact bok_v (h b hb)]
  have : (bs.map bD).zipIdx.find? (fun p => !blkB p.1) = none := List.find?_eq_none.mpr fun p hp => by
    obtain ⟨b, hb, e⟩ := List.mem_map.mp (List.fst_mem_of_mem_zipIdx hp)
    rw [← e, bok_b (h b hb)]
    simp
  rw [this]
theorem find_zip {α : Type} {q : α → Bool} : ∀ (xs : List α) (x : α) (ys : List α) (k : Nat), (∀ y ∈ xs, q y = false) → q x = true → ((xs ++ x :: ys).zipIdx k).find? (fun p => q p.1) = some (x, k + xs.length)
  | [], x, ys, k, _, h => by simp [h]
  | y :: xs, x, ys, k, h0, h => by
    rw [List.cons_append, List.zipIdx_cons, List.find?_cons]
    simp only [h0 y (by simp)]
    rw [find_zip xs x ys (k + 1) (fun z hz => h0 z (by simp [hz])) h]
    simp only [List.length_cons]
    congr 2
    omega
theorem chk_bad {ex : Ex} {as bs : List Blk} {d : D} {S : Store} (ha : ∀ b ∈ as, BOk b) (hb : ∀ b ∈ bs, BOk b) (hv : VOk d) (hd : blkB d = false) : P_check_blocks ex (.tup (as.map bD ++ d :: bs.map bD)) S = .err (exB ex (.int as.length)) S := by
  rw [chk_tup fun x hx => by
    rcases List.mem_append.mp hx with q | q
    · obtain ⟨b, hb, rfl⟩ := List.mem_map.mp q
      exact bok_v (ha b hb)
    · rcases List.mem_cons.mp q with q | q
      · exact q ▸ hv
      · obtain ⟨b, hb', rfl⟩ := List.mem_map.mp q
        exact bok_v (hb b hb')]
  rw [find_zip (q := fun d => !blkB d) (as.map bD) d (bs.map bD) 0 (fun y hy => by
    obtain ⟨b, hb, rfl⟩ := List.mem_map.mp hy
    simp [bok_b (ha b hb)]) (by simp [hd])]
  simp
/-! sizes -/
def bsz (b : Blk) : Nat := b.1.length * b.2
def tot (bs : List Blk) : Nat := (bs.map bsz).sum
theorem ints_map {α : Type} (f : α → Int) : ∀ xs : List α, intsD (xs.map fun x => D.int (f x)) = some (xs.map f)
  | [] => rfl
  | x :: xs => by simp [intsD, ints_map f xs]
theorem mul_b {b : Blk} (h : BOk b) (S : Store) : gMul (.int b.1.length) (.int b.2) S = some (.int (bsz b)) := by
  have h4 := h.w4
  have h2 := h.t2
  rw [mul_i (by
    have l1 : (b.1.length : Int).natAbs.log2 < 40 := log_lt (k := 40) (by omega) (by omega) (by decide)
    have l2 : (b.2 : Int).natAbs.log2 < 200 := log_lt (k := 200) (by omega) (by omega) (by decide)
    omega)]
  simp [bsz]
theorem len_of {bs : List Blk} {S : Store} (h : ∀ b ∈ bs, BOk b) (hl : bs.length ≤ 1000) : P_length_of (.tup (bs.map bD)) S = .ok (.int (tot bs)) S := by
  have lc := lc_map (S := S) (mi := itE (vE 0)) (g := tupP 2 (consP (nameP 1) (consP (nameP 2) nilP))) (m := opE gMul (callE (g1 gLen) (seqE [(vE 1)])) (vE 2)) (vs := [1, 2]) (st := [some (Sl.v (.tup (bs.map bD))), none, none])
    (e := bD) bs (fun b => D.int (bsz b)) rfl (by omega) fun b hb => ⟨[some (Sl.v (.tup (bs.map bD))), some (Sl.v (.tup (b.1.map .str))), some (Sl.v (.int b.2))], rfl, by
      simp -implicitDefEqProofs only [ev_op, ev_callE, ev_seq1, ev_seq0, ev_v, List.getElem?_cons_succ, List.getElem?_cons_zero, bind_ok, t_g1, t_lenT, List.length_map, t_ofS, mul_b (h b hb)]⟩
  have sm : gSum (.lst (bs.map fun b => D.int (bsz b))) S = some (.int (tot bs)) := by
    show ((intsD (bs.map fun b => D.int (bsz b))).map fun ns => D.int ns.sum) = _
    rw [ints_map (fun b => (bsz b : Int))]
    have : ∀ bs : List Blk, (bs.map fun b => (bsz b : Int)).sum = (tot bs : Int) := fun bs => by
      induction bs with
      | nil => rfl
      | cons b bs ih =>
        simp only [List.map_cons, List.sum_cons, ih, tot]
        omega
    simp [this]
  unfold P_length_of
  simp -implicitDefEqProofs only [lc, bind_ok, t_g1, sm, t_ofS]
theorem size_good {ex : Ex} {bs : List Blk} {S : Store} (h : ∀ b ∈ bs, BOk b) (hl : bs.length ≤ 1000) : P_size_of ex (.tup (bs.map bD)) S = .ok (.int (tot bs)) S := by
  unfold P_size_of
  simp -implicitDefEqProofs only [chk_good h, bind_ok, len_of h hl]
/-- the word's kind at a place -/
def kat : List Blk → Nat → Str
  | [], _ => EMP
  | b :: bs, p => if p < bsz b then b.1[p % b.1.length]?.getD EMP else kat bs (p - bsz b)
theorem go_ok {bs : List Blk} {S : Store} : ∀ (p : Nat), (∀ b ∈ bs, BOk b) → p < tot bs →
    forP (κ := Empty) (fun d11 (s10 : D) S => unT2 d11 fun e12 e13 => ((((Res.of2 ((g1 gLen) [e12] S)).bind fun d14 S => Res.of (gMul d14 e13 S) S).bind fun d15 S => Res.of (gLt s10 d15 S) S).bind fun d16 S => Res.of (asB d16) S).bind fun k17 S => thnS (if k17 then (((Res.of2 ((g1 gLen) [e12] S)).bind fun d18 S => Res.of (gMod s10 d18 S) S).bind fun d19 S => Res.of (gIx e12 d19 S) S).bind fun d20 S => Res.ok (Step.rt d20) S else Res.ok (Step.nx ()) S) fun (s21 : Unit) S => augI s10 fun n23 => ((Res.of2 ((g1 gLen) [e12] S)).bind fun d22 S => Res.of (gMul d22 e13 S) S).bind fun d24 S => (augB (fun i j => i - j) n23 d24 S).bind fun d25 S => Res.ok (Step.nx d25) S) (bs.map bD) (.int p) S = .ok (.rt (.str (kat bs p))) S := by
  induction bs with
  | nil => intro p _ h; simp [tot] at h
  | cons b bs ih =>
    intro p hb hp
    have h0 := hb b (by simp)
    have mb := mul_b h0 S
    have w1 := h0.w1
    rw [List.map_cons, forP_cons]
    by_cases hlt : p < bsz b
    · have q1 : (p : Int) < (bsz b : Int) := by omega
      have q3 : (0 : Int) < (b.1.length : Int) := by omega
      have em : (p : Int) % (b.1.length : Int) = ((p % b.1.length : Nat) : Int) := by simp
      have hm : p % b.1.length < b.1.length := Nat.mod_lt _ (by omega)
      have ix : gIx (.tup (b.1.map .str)) (.int ((p % b.1.length : Nat) : Int)) S = some (.str (kat (b :: bs) p)) := by
        rw [t_ixT, at_nat, List.getElem?_map, List.getElem?_eq_getElem hm]
        simp only [kat, hlt, if_true, List.getElem?_eq_getElem hm, Option.map_some, Option.getD_some]
      simp -implicitDefEqProofs only [t_un2, t_g1, t_lenT, List.length_map, t_ofS, bind_ok, mb, gLt, t_g2I, q1, decide_true, t_asB, if_true, gMod, q3, em, ix, t_rt]
      rfl
    · have q1 : ¬ (p : Int) < (bsz b : Int) := by omega
      have ee : (p : Int) - (bsz b : Int) = ((p - bsz b : Nat) : Int) := by omega
      have := ih (p - bsz b) (fun x hx => hb x (by simp [hx])) (by simp only [tot, List.map_cons, List.sum_cons] at hp ⊢; omega)
      have ek : kat (b :: bs) p = kat bs (p - bsz b) := by simp only [kat, hlt, if_false]
      rw [ek, ← this]
      simp -implicitDefEqProofs only [t_un2, t_g1, t_lenT, List.length_map, t_ofS, bind_ok, mb, gLt, t_g2I, q1, decide_false, t_asB, Bool.false_eq_true, if_false, t_nx, augI, augB, ee, turn]
theorem kind_good {ex : Ex} {bs : List Blk} {p : Nat} {S : Store} (h : ∀ b ∈ bs, BOk b) (hl : bs.length ≤ 1000) (hp : p < tot bs) : P_kind_at ex (.tup (bs.map bD)) (.int p) S = .ok (.str (kat bs p)) S := by
  have q1 : (0 : Int) ≤ p := by omega
  have q2 : (p : Int) < tot bs := by omega
  have g := go_ok (S := S) p h hp
  unfold P_kind_at
  simp -implicitDefEqProofs only [chk_good h, bind_ok, isint_top (d := .int p) rfl, isI, t_asB, t_ofS, Bool.not_true, Bool.false_eq_true, if_false, gLe, t_g2I, q1, decide_true, t_chT, len_of h hl, gLt, q2, t_seqT]
  simp -implicitDefEqProofs only [t_g1, gLt] at g ⊢
  rw [g]
  rfl
theorem kind_out {ex : Ex} {bs : List Blk} {d : D} {S : Store} (h : ∀ b ∈ bs, BOk b) (hl : bs.length ≤ 1000) (ht : topV d = true) (hd : ∀ i, d = .int i → i < 0 ∨ (tot bs : Int) ≤ i) : P_kind_at ex (.tup (bs.map bD)) d S = .err (exN ex d) S := by
  unfold P_kind_at
  cases hi : isI d with
  | false =>
    simp -implicitDefEqProofs [chk_good h, isint_top ht, hi, raiR]
    rfl
  | true =>
    obtain ⟨i, rfl⟩ : ∃ i, d = .int i := by
      cases d <;> simp [isI] at hi
      exact ⟨_, rfl⟩
    rcases hd i rfl with q | q
    · have q1 : ¬ 0 ≤ i := by omega
      simp -implicitDefEqProofs [chk_good h, isint_top ht, hi, raiR, q1]
      rfl
    · have q1 : 0 ≤ i := by omega
      have q2 : ¬ i < (tot bs : Int) := by omega
      simp -implicitDefEqProofs [chk_good h, isint_top ht, hi, raiR, q1, len_of h hl, q2]
      rfl
end KK

set_option linter.all false
set_option maxRecDepth 100000
set_option maxHeartbeats 2000000
/-! GH: what calls tell. -/
namespace KK
open PySem L2 KF TL
theorem catR_hit {ρ : Type} {C : Addr} {live : List Addr} {yes : List Str → List D → Store → Res ρ} {no : Exn → Store → Res ρ} {ks : List Str} {xs : List D} {S : Store} : catR C live yes no ⟨.ref C, some (ks, xs)⟩ S = noErr (yes ks xs S) := if_pos rfl
theorem catR_next {ρ : Type} {C C' : Addr} {live : List Addr} {yes : List Str → List D → Store → Res ρ} {no : Exn → Store → Res ρ} {fs : Option (List Str × List D)} {S : Store} (h : C' ≠ C) (hm : C' ∈ live) : catR C live yes no ⟨.ref C', fs⟩ S = no ⟨.ref C', fs⟩ S := by
  unfold catR
  rw [if_neg (fun z => h (Value.ref.inj z)), if_pos ⟨C', hm, rfl⟩]
theorem based_ok {ex : Ex} (hx : ex.Ok) {c : Addr} (h : c = ex.InvalidBlocks ∨ c = ex.InvalidNumber) {ks : List Str} {xs : List D} {S : Store} : P_law_based ex (.ref c) ks xs S = .ok (.bl true) S := by
  have e : gEq (.lst [.bl true, .bl false, .bl false]) (.lst [.bl true, .bl false, .bl false]) S = some (.bl true) := rfl
  have n1 := hx.n_InvalidBlocks_InvalidNumber
  unfold P_law_based
  rcases h with rfl | rfl
  · rw [if_pos rfl]
    simp -implicitDefEqProofs [e]
  · rw [if_neg (fun z => n1 (Value.ref.inj z).symm), if_pos rfl]
    simp -implicitDefEqProofs [e]
def TOLD : Str := Str.ofString "told"
def NUMB : Str := Str.ofString "number"
def BLKS : Str := Str.ofString "blocks"
def ans (w z : Str) : D := .tup [.str w, .str z]
section
variable {ex : Ex} {bs : List Blk} {S : Store} {d a : D} {z : Str}
theorem kw_kind {x y : D} : (bnd 0 2 (fun ds es => pick [1, 0] ds es) (M_kind_at ex)) [] [y, x] S = P_kind_at ex x y S := rfl
theorem told_sz (h : ∀ b ∈ bs, BOk b) (hl : bs.length ≤ 1000) (hz : gReprE (.int (tot bs)) S = some (.str z)) : P_law_told ex (.int 0) (.tup (bs.map bD)) d S = .ok (ans TOLD z) S := by
  unfold P_law_told
  simp -implicitDefEqProofs [size_good h hl, hz, tryR, KF.thn, KF.thnF, ans, TOLD]
theorem two_3 {f : Nat} (h : 1 ≤ f ∧ f ≤ 2) : f = 1 ∨ f = 2 := by omega
theorem told_kd {p f : Nat} (hf : 1 ≤ f ∧ f ≤ 2) (h : ∀ b ∈ bs, BOk b) (hl : bs.length ≤ 1000) (hp : p < tot bs) (hz : gReprE (.str (kat bs p)) S = some (.str z)) : P_law_told ex (.int f) (.tup (bs.map bD)) (.int p) S = .ok (ans TOLD z) S := by
  unfold P_law_told
  rcases two_3 hf with rfl | rfl
  · simp -implicitDefEqProofs [kind_good h hl hp, hz, tryR, KF.thn, KF.thnF, ans, TOLD]
  · simp -implicitDefEqProofs [kw_kind, kind_good h hl hp, hz, tryR, KF.thn, KF.thnF, ans, TOLD]
theorem told_nm (hx : ex.Ok) (h : ∀ b ∈ bs, BOk b) (hl : bs.length ≤ 1000) (ht : topV d = true) (hd : ∀ i, d = .int i → i < 0 ∨ (tot bs : Int) ≤ i) (hz : gReprE d S = some (.str z)) : P_law_told ex (.int 1) (.tup (bs.map bD)) d S = .ok (ans NUMB z) S := by
  have xf : xfR gvS [gvS] [d] S = .ok d S := by simp [xfR]
  have k := kind_out (ex := ex) (S := S) h hl ht hd
  have b := fun ks xs => based_ok hx (c := ex.InvalidNumber) (.inr rfl) (ks := ks) (xs := xs) (S := S)
  have n1 := hx.n_InvalidBlocks_InvalidNumber
  unfold exN at k
  unfold gvS at k xf
  unfold P_law_told
  simp -implicitDefEqProofs [k, hz, tryR, KF.thn, KF.thnF, ans, NUMB]
  rw [catR_next (Ne.symm n1) (by simp), catR_hit]
  simp -implicitDefEqProofs [b, xf, hz, noErr]
theorem told_bk {f : Nat} (hf : f ≤ 2) (hx : ex.Ok) (hc : P_check_blocks ex a S = .err (exB ex d) S) {w : D} (hz : gReprE d S = some (.str z)) : P_law_told ex (.int f) a w S = .ok (ans BLKS z) S := by
  have xf : xfR ixS [ixS] [d] S = .ok d S := by simp [xfR]
  have b := fun ks xs => based_ok hx (c := ex.InvalidBlocks) (.inl rfl) (ks := ks) (xs := xs) (S := S)
  have s1 : P_size_of ex a S = .err (exB ex d) S := by
    unfold P_size_of
    rw [hc]
    rfl
  have k1 : P_kind_at ex a w S = .err (exB ex d) S := by
    unfold P_kind_at
    rw [hc]
    rfl
  unfold exB at s1 k1
  unfold ixS at s1 k1 xf
  unfold P_law_told
  have : f = 0 ∨ f = 1 ∨ f = 2 := by omega
  rcases this with rfl | rfl | rfl
  · simp -implicitDefEqProofs [s1, tryR, KF.thn, KF.thnF, ans, BLKS]
    rw [catR_hit]
    simp -implicitDefEqProofs [b, xf, hz, noErr]
  · simp -implicitDefEqProofs [k1, tryR, KF.thn, KF.thnF, ans, BLKS]
    rw [catR_hit]
    simp -implicitDefEqProofs [b, xf, hz, noErr]
  · simp -implicitDefEqProofs [kw_kind, k1, tryR, KF.thn, KF.thnF, ans, BLKS]
    rw [catR_hit]
    simp -implicitDefEqProofs [b, xf, hz, noErr]
theorem ans_eq {w z w' z' : Str} : gEq (ans w z) (ans w' z') S = some (.bl (decide ((w, z) = (w', z')))) := t_eq (eq_pair eq_str eq_str) (x := (w, z)) (y := (w', z')) (by decide)
theorem ans_ne {w z w' z' : Str} : gNe (ans w z) (ans w' z') S = some (.bl (!decide ((w, z) = (w', z')))) := by
  have e : neD S KF.deep (ans w z) (ans w' z') = (eqD S KF.deep (ans w z) (ans w' z')).map fun b => !b := rfl
  have q := (eq_pair eq_str eq_str).deep (S := S) (x := (w, z)) (y := (w', z')) (by decide)
  show (neD S KF.deep (ans w z) (ans w' z')).map D.bl = _
  rw [e]
  show ((eqD S KF.deep (ans w z) (ans w' z')).map fun b => !b).map D.bl = _
  have q' : eqD S KF.deep (ans w z) (ans w' z') = some (decide ((w, z) = (w', z'))) := q
  rw [q']
  rfl
theorem ans_same {w z : Str} : gNe (ans w z) (ans w z) S = some (.bl false) := by
  rw [ans_ne]
  simp
end
/-! shown values -/
theorem repE_of {d : D} {b : Nat} {S : Store} (h : Sh S b 40 d) (hb : b ≤ 10000000) : ∃ z, gReprE d S = some (.str z) := by
  unfold gReprE
  split
  · exact ⟨_, rfl⟩
  · exact repr_of h hb
theorem sh_big {i : Int} {n : Nat} {S : Store} (h : i.natAbs.log2 < 1000) : Sh S 1001 n (.int i) :=
  ⟨.int i, by unfold KF.rpD; rfl, by
    simp only [PyData.showable, decide_eq_true_eq]
    omega, by
    rw [PyData.shown_int, PySem.ofString_length]
    exact PySem.int_text_length_le (k := 1000) (by decide) h⟩
end KK

set_option linter.all false
set_option maxRecDepth 100000
set_option maxHeartbeats 4000000
/-! GI: places of all blocks. -/
namespace KK
open PySem L2 KF TL
theorem kat_at : ∀ (as : List Blk) (b : Blk) (cs : List Blk) (p : Nat), p < bsz b → kat (as ++ b :: cs) (tot as + p) = b.1[p % b.1.length]?.getD EMP
  | [], b, cs, p, h => by simp [kat, tot, h]
  | a :: as, b, cs, p, h => by
    have e : tot (a :: as) + p = bsz a + (tot as + p) := by simp [tot]; omega
    have n : ¬ bsz a + (tot as + p) < bsz a := by omega
    rw [e, List.cons_append, kat, if_neg n, show bsz a + (tot as + p) - bsz a = tot as + p by omega]
    exact kat_at as b cs p h
theorem tot_app (as bs : List Blk) : tot (as ++ bs) = tot as + tot bs := by simp [tot]
theorem split_at {α : Type} {xs : List α} {i : Nat} {x : α} (h : xs[i]? = some x) : xs = xs.take i ++ x :: xs.drop (i + 1) := by
  obtain ⟨hl, e⟩ := List.getElem?_eq_some_iff.mp h
  rw [← e, List.getElem_cons_drop, List.take_append_drop]
theorem take_s {α : Type} {xs : List α} {i : Nat} {x : α} (h : xs[i]? = some x) : xs.take (i + 1) = xs.take i ++ [x] := by
  obtain ⟨hl, e⟩ := List.getElem?_eq_some_iff.mp h
  rw [List.take_succ, h]
  rfl
theorem name_rep {w : Str} (h : NameOk w) : ∃ z, ∀ S, gReprE (.str w) S = some (.str z) := by
  refine ⟨reprText w, fun S => ?_⟩
  show gRepr (.str w) S = _
  unfold gRepr
  have : KF.rpD S 40 (.str w) = some (.str w) := by unfold KF.rpD; rfl
  rw [this]
  refine if_pos ⟨rfl, ?_⟩
  have l := StrLaws.reprText_len w h.small
  have l8 : w.length ≤ 8 := h.l8
  rw [sizeLine_eq]
  show (reprText w).length ≤ _
  omega
theorem places13 {ex : Ex} {n B m : Nat} {S : Store} {bs : List Blk} (h : PW S n B) (hB : B + 300 < 2 ^ 60) (hm : m ≠ n) (hs : asL S (.cell m) = some (bs.map bD)) (hb : ∀ b ∈ bs, BOk b) (hl : bs.length ≤ 5) :
    ∃ S', P_law_right_places ex (.cell n) (.cell m) S = .ok (.int (tot bs)) S' ∧ PW S' n (B + 100) ∧ asL S' (.cell m) = some (bs.map bD) := by
  obtain ⟨S1, e1, _, a1, o1⟩ := seq_C hs
  have h1 := h.to (o1 n (Ne.symm hm))
  unfold P_law_right_places
  simp -implicitDefEqProofs only [e1, bind_ok]
  refine thnF_sat (Q := fun r => ∃ S', r = .ok (.int (tot bs)) S' ∧ PW S' n (B + 100) ∧ asL S' (.cell m) = some (bs.map bD))
    (for_map (fun i s S' => s = .int (tot (bs.take i)) ∧ PW S' n (B + i * 20) ∧ asL S' (.cell m) = some (bs.map bD)) bs ⟨by simp [tot], by simpa using h1, a1⟩ fun i b s S0 hi ⟨es, hu, ha⟩ => ?_) fun s S' ⟨es, hu, ha⟩ => ⟨S', by rw [es, List.take_of_length_le (Nat.le_refl _)], hu.mono (by omega), ha⟩
  subst es
  have hb0 := hb b (List.mem_of_getElem? hi)
  have il : i < bs.length := (List.getElem?_eq_some_iff.mp hi).1
  have w1 := hb0.w1
  have w4 := hb0.w4
  have t1 := hb0.t1
  have t2 := hb0.t2
  have sz : 1 ≤ bsz b := Nat.mul_pos w1 t1
  have lb : b.1.length ≤ bsz b := Nat.le_mul_of_pos_right _ t1
  have zb : bsz b ≤ 4 * 10 ^ 30 := Nat.mul_le_mul w4 t2
  obtain ⟨q, S2, e2, hq, h2, g2⟩ := dip_ok (k := 1000) hu (by decide) (by decide) (by omega)
  have a2 := g2.ls ha hm
  have mb := fun S => mul_b hb0 S
  have sub1 : ∀ S, KF.gSub (.int (b.1.length : Int)) (.int 1) S = some (.int ((b.1.length - 1 : Nat) : Int)) := fun S => by
    show some (D.int ((b.1.length : Int) - 1)) = _
    congr 2; omega
  have sub2 : ∀ S, KF.gSub (.int (bsz b : Int)) (.int 1) S = some (.int ((bsz b - 1 : Nat) : Int)) := fun S => by
    show some (D.int ((bsz b : Int) - 1)) = _
    congr 2; omega
  have mn : ∀ S, gMin (.int ((bsz b - 1 : Nat) : Int)) (.int (b.1.length : Int)) S = some (.int ((min (bsz b - 1) b.1.length : Nat) : Int)) := fun S => by
    show some (D.int (if (b.1.length : Int) < ((bsz b - 1 : Nat) : Int) then (b.1.length : Int) else ((bsz b - 1 : Nat) : Int))) = _
    congr 2
    split <;> omega
  have ml : ∀ S, gMul (.int (bsz b : Int)) (.int (q : Int)) S = some (.int ((bsz b * q : Nat) : Int)) := fun S => by
    rw [mul_i (by
      have l1 : (bsz b : Int).natAbs.log2 < 200 := log_lt (k := 200) (by omega) (by omega) (by decide)
      have l2 : (q : Int).natAbs.log2 < 40 := log_lt (k := 40) (by omega) (by omega) (by decide)
      omega)]
    simp
  have dv : ∀ S, gDiv (.int ((bsz b * q : Nat) : Int)) (.int 1000) S = some (.int ((bsz b * q / 1000 : Nat) : Int)) := fun S => by
    have lk : (1000 : Int).natAbs.log2 < 9000 := by decide +kernel
    show (if (0 : Int) < 1000 ∧ (1000 : Int).natAbs.log2 < 9000 then some (D.int (((bsz b * q : Nat) : Int) / 1000)) else none) = _
    rw [if_pos ⟨by decide, lk⟩]
    simp
  have d5 : bsz b * q / 1000 < bsz b := by
    rw [Nat.div_lt_iff_lt_mul (by decide)]
    exact Nat.mul_lt_mul_of_pos_left (by omega) (by omega)
  have l5 : lstR [.int 0, .int ((b.1.length - 1 : Nat) : Int), .int ((bsz b - 1 : Nat) : Int), .int ((min (bsz b - 1) b.1.length : Nat) : Int), .int ((bsz b * q / 1000 : Nat) : Int)] S2 = .ok (.lst ([0, b.1.length - 1, bsz b - 1, min (bsz b - 1) b.1.length, bsz b * q / 1000].map fun (k : Nat) => D.int k)) S2 := t_lst (by simp)
  have spots : ∀ p ∈ [0, b.1.length - 1, bsz b - 1, min (bsz b - 1) b.1.length, bsz b * q / 1000], p < bsz b := fun p hp => by
    simp only [List.mem_cons, List.not_mem_nil, or_false] at hp
    rcases hp with rfl | rfl | rfl | rfl | rfl
    · omega
    · omega
    · omega
    · omega
    · exact d5
  have sp5 : [0, b.1.length - 1, bsz b - 1, min (bsz b - 1) b.1.length, bsz b * q / 1000].length = 5 := rfl
  simp -implicitDefEqProofs only [t_un2, t_g1, t_g2, t_lenT, List.length_map, t_ofS, bind_ok, mb, sub1, sub2, mn, t_assoc, e2, ml, dv, l5, t_seqL]
  generalize [0, b.1.length - 1, bsz b - 1, min (bsz b - 1) b.1.length, bsz b * q / 1000] = sp at spots sp5
  have loop := for_map (κ := D) (step := fun d25 (s24 : Unit) S => ((Res.of (gInt d25 S) S).bind fun d26 S => (Res.of (gMod d26 (D.int (b.1.length : Int)) S) S).bind fun d28 S => (Res.of (gIx (D.tup (b.1.map D.str)) d28 S) S).bind fun d29 S => (Res.of (gReprE d29 S) S).bind fun d31 S => (tupR [D.str (Str.ofString "told"), d31] S).bind fun d33 S => (P_law_dip (D.cell n) (D.int 2) S).bind fun d34 S => (Res.of (gAdd (D.int 1) d34 S) S).bind fun d38 S => (Res.of (gTuple (D.cell m) S) S).bind fun d36 S => (Res.of (gAdd (D.int (tot (bs.take i) : Int)) d25 S) S).bind fun d35 S => (fnM 3 (M_law_told ex) [d38, d36, d35] [] S).bind fun d41 S => (Res.of (gNe d41 d33 S) S).bind fun d42 S => (Res.of (asB d42) S).bind fun k43 S => if k43 then Res.ok (Step.rt (D.bl false)) S else Res.ok (Step.nx ()) S)) (e := fun (k : Nat) => D.int k) (S := S2) (s := ())
    (fun j _ S' => PW S' n (B + i * 20 + 1 + j) ∧ asL S' (.cell m) = some (bs.map bD)) sp ⟨h2, a2⟩ fun j p _ S3 hj ⟨hu3, ha3⟩ => by
      have hp := spots p (List.mem_of_getElem? hj)
      have jl : j < sp.length := (List.getElem?_eq_some_iff.mp hj).1
      have hpm : p % b.1.length < b.1.length := Nat.mod_lt _ (by omega)
      have q3 : (0 : Int) < (b.1.length : Int) := by omega
      have em : (p : Int) % (b.1.length : Int) = ((p % b.1.length : Nat) : Int) := by simp
      have ix : ∀ S, gIx (.tup (b.1.map .str)) (.int ((p % b.1.length : Nat) : Int)) S = some (.str b.1[p % b.1.length]) := fun S => by
        rw [t_ixT, at_nat, List.getElem?_map, List.getElem?_eq_getElem hpm]
        rfl
      obtain ⟨z, ez⟩ := name_rep (hb0.nm _ (List.getElem_mem hpm))
      obtain ⟨f, S4, e4, hf, h4, g4⟩ := dip_ok (k := 2) hu3 (by decide) (by decide) (by omega)
      have a4 := g4.ls ha3 hm
      have ek : kat bs (tot (bs.take i) + p) = b.1[p % b.1.length] := by
        have := kat_at (bs.take i) b (bs.drop (i + 1)) p hp
        rw [← split_at hi] at this
        rw [this, List.getElem?_eq_getElem hpm]
        rfl
      have lt : tot (bs.take i) + p < tot bs := by
        have : tot bs = tot (bs.take i) + (bsz b + tot (bs.drop (i + 1))) := by
          conv => lhs; rw [split_at hi]
          rw [tot_app]
          rfl
        omega
      have ez4 : gReprE (.str (kat bs (tot (bs.take i) + p))) S4 = some (.str z) := by
        rw [ek]
        exact ez S4
      have ef : (1 : Int) + f = ((1 + f : Nat) : Int) := by omega
      have ep : (tot (bs.take i) : Int) + (p : Int) = ((tot (bs.take i) + p : Nat) : Int) := by omega
      have tk := told_kd (ex := ex) (f := 1 + f) ⟨by omega, by omega⟩ hb (by omega) lt ez4
      have as := ans_same (S := S4) (w := TOLD) (z := z)
      refine ⟨_, S4, ?_, (), rfl, by rw [show B + i * 20 + 1 + (j + 1) = B + i * 20 + 1 + j + 1 by omega]; exact h4, a4⟩
      unfold ans TOLD at tk as
      simp -implicitDefEqProofs only [gInt, t_ofS, bind_ok, gMod, t_g2I, q3, em, if_true, ix, ez, t_tup2, e4, t_addI, ef, tup_C a4, ep, t_fn3, ev_law_told, tk, as, t_asB, Bool.false_eq_true, if_false]
  obtain ⟨r, S5, e5, _, rfl, h5, a5⟩ := loop
  rw [sp5] at h5
  simp -implicitDefEqProofs only [e5, t_nx, t_addI, t_ofS, bind_ok]
  refine ⟨_, S5, rfl, _, rfl, ?_, by rw [show B + (i + 1) * 20 = B + i * 20 + 20 by omega]; exact h5.mono (by omega), a5⟩
  have : tot (bs.take (i + 1)) = tot (bs.take i) + bsz b := by
    rw [take_s hi, tot_app]
    simp [tot]
  rw [this]
  congr 1
end KK

set_option linter.all false
set_option maxRecDepth 100000
set_option maxHeartbeats 4000000
/-! GJ: odd blocks; the law's turns. -/
namespace KK
open PySem L2 KF TL
abbrev wD (ws : List Str) : D := .tup (ws.map .str)
def oddL (ws : List Str) (t : Nat) : List D := [.non, .int 0, .tup [], wD ws, .tup [wD ws], .tup [wD ws, .int 0], .tup [wD ws, .bl true], .tup [wD ws, .int 1000000000000000000000000000001], .tup [.lst (ws.map .str), .int 1], .tup [.tup [], .int 1],
  .tup [wD ws, .int t, .int 1], .lst [wD ws, .int t], .tup [.tup [.str (Str.ofString "A")], .int 1], .tup [.tup [wD ws], .int 1], .tup [.str (Str.ofString "a"), .int 1], .tup [.tup (ws.map .str ++ [.non]), .int 1]]
theorem topS {w : Str} (h : NameOk w) : topV (.str w) = true := by
  have := h.l8
  simp [topV]
  omega
theorem v_not {d : D} (h : topV d = true) (n : ∀ x t, d ≠ .tup [x, t]) : VOk d := ⟨h, fun x t e => absurd e (n x t)⟩
theorem v_two {x t : D} (hx : topV x = true) (ht : topV t = true) (hk : ∀ ks, x = .tup ks → ks.length ≤ 1000 ∧ ∀ k ∈ ks, topV k = true) : VOk (.tup [x, t]) := ⟨rfl, fun a b e => by
  simp only [D.tup.injEq, List.cons.injEq, and_true] at e
  obtain ⟨rfl, rfl⟩ := e
  exact ⟨hx, ht, hk⟩⟩
theorem odd_ok {ws : List Str} {t : Nat} (hw : ∀ w ∈ ws, NameOk w) (hl : ws.length ≤ 4) : ∀ d ∈ oddL ws t, VOk d ∧ blkB d = false := fun d hd => by
  have kw : ∀ ks, wD ws = .tup ks → ks.length ≤ 1000 ∧ ∀ k ∈ ks, topV k = true := fun ks e => by
    cases e
    refine ⟨by simp; omega, fun k hk => ?_⟩
    obtain ⟨w, hw', rfl⟩ := List.mem_map.mp hk
    exact topS (hw w hw')
  have s1 : topV (.str (Str.ofString "A")) = true := by decide +kernel
  have s2 : topV (.str (Str.ofString "a")) = true := by decide +kernel
  have nA : nmD (.str (Str.ofString "A")) = false := by decide +kernel
  simp only [oddL, List.mem_cons, List.not_mem_nil, or_false] at hd
  rcases hd with rfl | rfl | rfl | rfl | rfl | rfl | rfl | rfl | rfl | rfl | rfl | rfl | rfl | rfl | rfl | rfl
  · exact ⟨v_not rfl fun x t e => (by cases e), rfl⟩
  · exact ⟨v_not rfl fun x t e => (by cases e), rfl⟩
  · exact ⟨v_not rfl fun x t e => (by cases e), rfl⟩
  · refine ⟨⟨rfl, fun x t e => ?_⟩, ?_⟩
    · have e' : ws.map D.str = [x, t] := by injection e
      have hx : x ∈ ws.map D.str := by rw [e']; simp
      have ht : t ∈ ws.map D.str := by rw [e']; simp
      obtain ⟨a, ha, rfl⟩ := List.mem_map.mp hx
      obtain ⟨b, hb, rfl⟩ := List.mem_map.mp ht
      exact ⟨topS (hw a ha), topS (hw b hb), fun ks e => by cases e⟩
    · match ws with
      | [] => rfl
      | [a] => rfl
      | [a, b] => rfl
      | a :: b :: c :: r => rfl
  · exact ⟨v_not rfl fun x t e => (by cases e), rfl⟩
  · exact ⟨v_two rfl rfl kw, by simp [blkB, winB]⟩
  · exact ⟨v_two rfl rfl kw, by simp [blkB, winB]⟩
  · exact ⟨v_two rfl rfl kw, by simp [blkB, winB]⟩
  · exact ⟨v_two rfl rfl fun ks e => (by cases e), rfl⟩
  · exact ⟨v_two rfl rfl fun ks e => (by cases e; simp), rfl⟩
  · exact ⟨v_not rfl fun x t e => (by cases e), rfl⟩
  · exact ⟨v_not rfl fun x t e => (by cases e), rfl⟩
  · exact ⟨v_two rfl rfl fun ks e => by cases e; exact ⟨by simp, fun k hk => by simp at hk; exact hk ▸ s1⟩, by simp [blkB, nA]⟩
  · exact ⟨v_two rfl rfl fun ks e => by cases e; exact ⟨by simp, fun k hk => by simp at hk; exact hk ▸ rfl⟩, by simp [blkB, nmD]⟩
  · exact ⟨v_two s2 rfl fun ks e => (by cases e), rfl⟩
  · refine ⟨v_two rfl rfl fun ks e => ?_, by simp [blkB, nmD]⟩
    cases e
    refine ⟨by simp; omega, fun k hk => ?_⟩
    rcases List.mem_append.mp hk with q | q
    · exact (kw _ rfl).2 k q
    · have : k = .non := by simpa using q
      exact this ▸ rfl
section
variable {S : Store}
theorem ty_C {m : Nat} {xs : List D} (h : asL S (.cell m) = some xs) : gIsi [] (.cell m) (.ty "tuple") S = some (.bl false) := by
  have : tyD S (.cell m) = some (.b "list") := by
    rcases asL_get h with g | g
    · show (match S[m]? with | some (.lst _) => some (Ty.b "list") | some (.fro _) => some (.b "list") | some (.ins C _ _) => some (.o C) | some (.fins C _ _) => some (.o C) | _ => none) = _
      rw [g]
    · show (match S[m]? with | some (.lst _) => some (Ty.b "list") | some (.fro _) => some (.b "list") | some (.ins C _ _) => some (.o C) | some (.fins C _ _) => some (.o C) | _ => none) = _
      rw [g]
  unfold gIsi
  rw [this]
  rfl
theorem rep_non : gReprE .non S = some (.str (Str.ofString "None")) := by
  show gRepr .non S = _
  unfold gRepr
  have : KF.rpD S 40 .non = some .none := by unfold KF.rpD; rfl
  rw [this]
  exact if_pos ⟨rfl, by rw [sizeLine_eq]; decide +kernel⟩
theorem rep_0 : gReprE (.int 0) S = some (.str (Str.ofString "0")) := by
  show gRepr (.int 0) S = _
  unfold gRepr
  have : KF.rpD S 40 (.int 0) = some (.int 0) := by unfold KF.rpD; rfl
  rw [this]
  exact if_pos ⟨rfl, by rw [sizeLine_eq]; decide +kernel⟩
theorem rep_int {i : Int} (h : i.natAbs < 2 ^ 200) : ∃ z, gReprE (.int i) S = some (.str z) := repE_of (sh_big (by
  by_cases h0 : i.natAbs = 0
  · rw [h0]; decide
  · rw [Nat.log2_lt h0]
    exact Nat.lt_of_lt_of_le h (Nat.pow_le_pow_right (by decide) (by decide)))) (by decide)
def whereL (t : Nat) : List D := [.int (-1), .int t, .int (t + 1), .non, .bl true, .str (Str.ofString "0"), .tup [.int 0], .lst [], .dct [] []]
theorem where_ok {t : Nat} (ht : t < 2 ^ 150) : ∀ d ∈ whereL t, topV d = true ∧ (∀ i, d = .int i → i < 0 ∨ (t : Int) ≤ i) ∧ ∃ z, gReprE d S = some (.str z) := fun d hd => by
  have s1 : topV (.str (Str.ofString "0")) = true := by decide +kernel
  have sm : Small (Str.ofString "0") := fun c hc => by
    have : ∀ c ∈ (Str.ofString "0").cps.toList, c < 16 ^ 8 := by decide +kernel
    exact this c hc
  simp only [whereL, List.mem_cons, List.not_mem_nil, or_false] at hd
  rcases hd with rfl | rfl | rfl | rfl | rfl | rfl | rfl | rfl | rfl
  · exact ⟨rfl, fun i e => by cases e; exact .inl (by decide), rep_int (by decide)⟩
  · exact ⟨rfl, fun i e => by cases e; exact .inr (by omega), rep_int (by omega)⟩
  · exact ⟨rfl, fun i e => by cases e; exact .inr (by omega), rep_int (by omega)⟩
  · exact ⟨rfl, fun i e => (by cases e), _, rep_non⟩
  · exact ⟨rfl, fun i e => (by cases e), repE_of sh_bl (by decide)⟩
  · exact ⟨s1, fun i e => (by cases e), repE_of (sh_str (m := 1) sm (by decide +kernel)) (by decide)⟩
  · exact ⟨rfl, fun i e => (by cases e), repE_of (b := 1 * (13 + 2) + 3) (sh_tup (n := 39) (k := 1) (fun x hx => by
      have : x = .int 0 := by simpa using hx
      exact this ▸ sh_int (i := 0) (by decide)) (by simp)) (by decide)⟩
  · exact ⟨rfl, fun i e => (by cases e), repE_of (b := 0 * (0 + 2) + 3) (sh_lst (n := 39) (k := 0) (b := 0) (fun x hx => by cases hx) (by simp)) (by decide)⟩
  · exact ⟨rfl, fun i e => (by cases e), _, rfl⟩
theorem for_noneD {σσ κ : Type} {step : D → σσ → Store → Res (Step σσ σσ)} {s : σσ} (ds : List D) (h : ∀ d ∈ ds, step d s S = .ok (.nx s) S) : forP (κ := κ) step ds s S = .ok (.nx s) S := by
  have := for_none (κ := κ) (e := fun d : D => d) ds h
  simpa using this
theorem sat_none {σσ τ : Type} {step : D → σσ → Store → Res (Step σσ σσ)} {ds : List D} {s : σσ} {k : σσ → Store → Res (Step τ κ)} {Q : Step τ κ → Store → Prop} (h : ∀ d ∈ ds, step d s S = .ok (.nx s) S) (i : (k s S).sat Q) : (thnS (forP (κ := κ) step ds s S) k).sat Q := by
  rw [for_noneD ds h]
  exact i
end
theorem tot_lt {bs : List Blk} (hb : ∀ b ∈ bs, BOk b) (hl : bs.length ≤ 5) : tot bs < 2 ^ 150 := by
  have : ∀ bs : List Blk, (∀ b ∈ bs, BOk b) → tot bs ≤ bs.length * (4 * 10 ^ 30) := fun bs => by
    induction bs with
    | nil => intro _; simp [tot]
    | cons b bs ih =>
      intro h
      have := ih fun x hx => h x (by simp [hx])
      have h0 := h b (by simp)
      have : bsz b ≤ 4 * 10 ^ 30 := Nat.mul_le_mul h0.w4 h0.t2
      simp only [tot, List.map_cons, List.sum_cons, List.length_cons] at *
      omega
  have := this bs hb
  omega
end KK

set_option linter.all false
set_option maxRecDepth 100000
set_option maxHeartbeats 4000000
/-! GK: the law's turns. -/
namespace KK
open PySem L2 KF TL
theorem cut_at {xs : List D} {i : Nat} : cutX xs none (some (i : Int)) = xs.take i := cut_take xs i
theorem sat_thnF {P : Unit → Store → Prop} {r : Res (Step Unit Empty)} {k : Store → Res D} (h : r.sat fun x S => ∃ s, x = .nx s ∧ P s S) (hk : ∀ S, k S = .ok (.bl true) S) : ∃ S', KF.thnF r (fun _ S => k S) = .ok (.bl true) S' := by
  obtain ⟨a, S, rfl, s, rfl, _⟩ := h
  exact ⟨S, hk S⟩
theorem right13 {ex : Ex} (hx : ex.Ok) {n : Nat} {S : Store} (h : PW S n 0) : ∃ S', P_law_right ex (.cell n) S = .ok (.bl true) S' := by
  unfold P_law_right
  simp -implicitDefEqProofs only [show rng1R (.int 4) S = .ok ((List.range 4).map fun (i : Nat) => D.int i) S from rng_nat (n := 4) (by omega), bind_ok]
  refine sat_thnF (for_rng (fun i _ S => PW S n (i * 300)) 4 (by simpa using h) fun i s S hi hu => ?_) fun S => ?_
  · obtain ⟨m, bs, S1, e1, c1, b1, b5, hb, h1, g1, hm⟩ := row13 hu (by omega)
    obtain ⟨S2, e2, h2, a2⟩ := places13 (ex := ex) h1 (by omega) hm (asL_C c1) hb b5
    have ht := tot_lt hb b5
    have isb : ∀ S, gIsB (.int (tot bs : Int)) (.bl false) S = some (.bl false) := fun S => rfl
    obtain ⟨z2, ez2⟩ := rep_int (S := S2) (i := (tot bs : Int)) (by omega)
    have tz := told_sz (ex := ex) (d := .int 0) hb (by omega) ez2
    have az := ans_same (S := S2) (w := TOLD) (z := z2)
    have w9 : lstR [.int (-1), .int (tot bs : Int), .int ((tot bs : Int) + 1), .non, .bl true, .str (Str.ofString "0"), .tup [.int 0], .lst [], .dct [] []] S2 = .ok (.lst (whereL (tot bs))) S2 := t_lst (by simp)
    unfold ans TOLD at tz az
    simp -implicitDefEqProofs only [t_assoc, e1, bind_ok, e2, isb, t_ofS, t_asB, Bool.false_eq_true, if_false, t_g1, tup_C a2, t_fn3, ev_law_told, tz, ez2, t_tup2, az, t_nx, t_addI, w9, t_seqL]
    refine sat_none (fun d hd => ?_) ?_
    · obtain ⟨q1, q2, z, ez⟩ := where_ok (S := S2) ht d hd
      have tn := told_nm (ex := ex) hx hb (by omega) q1 q2 ez
      have an := ans_same (S := S2) (w := NUMB) (z := z)
      unfold ans NUMB at tn an
      simp -implicitDefEqProofs only [t_g1, tup_C a2, t_ofS, bind_ok, t_fn3, ev_law_told, tn, ez, t_tup2, an, t_asB, Bool.false_eq_true, if_false]
    obtain ⟨at_, S3, e3, h3lt, h3, g3⟩ := dip_M (k := (bs.length : Int)) h2 (by omega) (by omega) (by omega)
    have hat : at_ < bs.length := by omega
    have a3 := g3.ls a2 hm
    have hb0 := hb (bs[0]'(by omega)) (List.getElem_mem _)
    have ix0 : gIx (.cell m) (.int 0) S3 = some (bD (bs[0]'(by omega))) := by
      rw [ix_Ci a3, show (0 : Int) = ((0 : Nat) : Int) from rfl, at_nat, List.getElem?_map, List.getElem?_eq_getElem (by omega)]
      rfl
    simp -implicitDefEqProofs only [t_assoc, t_g1, len_C a2, List.length_map, t_ofS, bind_ok, t_fn2, e3, ix0, t_tup2, t_un2]
    generalize hbb : bs[0]'(by omega) = b0 at *
    obtain ⟨ws, t⟩ := b0
    have hw4 := hb0.w4
    have hwn := hb0.nm
    simp only at hw4 hwn
    have p30 : ∀ S, gPow (.int 10) (.int 30) S = some (.int 1000000000000000000000000000000) := fun S => pow_i (j := 30) (by omega)
    have ad1 : ∀ S, gAdd (.int 1000000000000000000000000000000) (.int 1) S = some (.int 1000000000000000000000000000001) := fun S => rfl
    have l10 : lstR [.non, .int 0, .tup [], wD ws, .tup [wD ws], .tup [wD ws, .int 0], .tup [wD ws, .bl true], .tup [wD ws, .int 1000000000000000000000000000001], .tup [.lst (ws.map .str), .int 1], .tup [.tup [], .int 1]] S3 = .ok (.lst [.non, .int 0, .tup [], wD ws, .tup [wD ws], .tup [wD ws, .int 0], .tup [wD ws, .bl true], .tup [wD ws, .int 1000000000000000000000000000001], .tup [.lst (ws.map .str), .int 1], .tup [.tup [], .int 1]]) S3 := t_lst (by simp)
    have adT : gAdd (.tup (ws.map D.str)) (.tup [.non]) S3 = some (.tup (ws.map D.str ++ [.non])) := t_addT (by simp; omega)
    have l6 : lstR [.tup [wD ws, .int t, .int 1], .lst [wD ws, .int t], .tup [.tup [.str (Str.ofString "A")], .int 1], .tup [.tup [wD ws], .int 1], .tup [.str (Str.ofString "a"), .int 1], .tup [.tup (ws.map .str ++ [.non]), .int 1]] S3 = .ok (.lst [.tup [wD ws, .int t, .int 1], .lst [wD ws, .int t], .tup [.tup [.str (Str.ofString "A")], .int 1], .tup [.tup [wD ws], .int 1], .tup [.str (Str.ofString "a"), .int 1], .tup [.tup (ws.map .str ++ [.non]), .int 1]]) S3 := t_lst (by simp)
    have ad16 : gAdd (.lst [.non, .int 0, .tup [], wD ws, .tup [wD ws], .tup [wD ws, .int 0], .tup [wD ws, .bl true], .tup [wD ws, .int 1000000000000000000000000000001], .tup [.lst (ws.map .str), .int 1], .tup [.tup [], .int 1]]) (.lst [.tup [wD ws, .int t, .int 1], .lst [wD ws, .int t], .tup [.tup [.str (Str.ofString "A")], .int 1], .tup [.tup [wD ws], .int 1], .tup [.str (Str.ofString "a"), .int 1], .tup [.tup (ws.map .str ++ [.non]), .int 1]]) S3 = some (.lst (oddL ws t)) := by
      rw [t_addL (by simp)]
      rfl
    obtain ⟨r16, S4, e4, h4lt, h4, g4⟩ := dip_ok (k := 16) h3 (by decide) (by decide) (by omega)
    have a4 := g4.ls a3 hm
    have hr : r16 < (oddL ws t).length := by show r16 < 16; omega
    have gx : gIx (.lst (oddL ws t)) (.int r16) S4 = some (oddL ws t)[r16] := by
      rw [t_ixL, at_nat, List.getElem?_eq_getElem hr]
    have hodd := odd_ok (t := t) hwn (by omega) _ (List.getElem_mem hr)
    generalize (oddL ws t)[r16] = od at gx hodd
    have ea : (at_ : Int) + 1 = ((at_ + 1 : Nat) : Int) := by omega
    have sl1 : gSl (.cell m) none (some (at_ : Int)) S3 = some (.lst ((bs.take at_).map bD)) := by
      rw [sl_C a3, cut_take, List.map_take]
    have sl2 : gSl (.cell m) (some ((at_ + 1 : Nat) : Int)) none S4 = some (.lst ((bs.drop (at_ + 1)).map bD)) := by
      rw [sl_C a4, cut_drop, List.map_drop]
    have ad2 : gAdd (.lst ((bs.take at_).map bD)) (.lst [od]) S4 = some (.lst ((bs.take at_).map bD ++ [od])) := t_addL (by simp; omega)
    have ad3 : gAdd (.lst ((bs.take at_).map bD ++ [od])) (.lst ((bs.drop (at_ + 1)).map bD)) S4 = some (.lst ((bs.take at_).map bD ++ od :: (bs.drop (at_ + 1)).map bD)) := by
      rw [t_addL (by simp; omega)]
      simp
    obtain ⟨f5, S5, e5, h5lt, h5, g5⟩ := dip_ok (k := 3) h4 (by decide) (by decide) (by omega)
    have a5 := g5.ls a4 hm
    obtain ⟨z5, ez5⟩ := rep_int (S := S5) (i := (at_ : Int)) (by omega)
    have lt_ : (bs.take at_).length = at_ := by rw [List.length_take]; omega
    have cb := chk_bad (ex := ex) (as := bs.take at_) (bs := bs.drop (at_ + 1)) (S := S5) (fun b hh => hb b (List.mem_of_mem_take hh)) (fun b hh => hb b (List.mem_of_mem_drop hh)) hodd.1 hodd.2
    rw [lt_] at cb
    have tb := told_bk (f := f5) (by omega) hx cb (w := .int 0) ez5
    have ab := ans_same (S := S5) (w := BLKS) (z := z5)
    obtain ⟨f6, S6, e6, h6lt, h6, g6⟩ := dip_ok (k := 3) h5 (by decide) (by decide) (by omega)
    obtain ⟨r7, S7, e7, h7lt, h7, g7⟩ := dip_ok (k := 5) h6 (by decide) (by decide) (by omega)
    have a7 := g7.ls (g6.ls a5 hm) hm
    have nt : ∃ v, gIx (.lst [.cell m, .non, .int 0, .str (Str.ofString "a"), .dct [] []]) (.int r7) S7 = some v ∧ gIsi [] v (.ty "tuple") S7 = some (.bl false) := by
      rw [t_ixL, at_nat]
      match r7, h7lt with
      | 0, _ => exact ⟨_, rfl, ty_C a7⟩
      | 1, _ => exact ⟨_, rfl, ty_tup rfl⟩
      | 2, _ => exact ⟨_, rfl, ty_tup rfl⟩
      | 3, _ => exact ⟨_, rfl, ty_tup (by decide +kernel)⟩
      | 4, _ => exact ⟨_, rfl, ty_tup rfl⟩
      | k + 5, h => omega
    obtain ⟨v, ev, ety⟩ := nt
    have tv := told_bk (f := f6) (by omega) hx (chk_not (ex := ex) ety) (w := .int 0) rep_non
    have av := ans_same (S := S7) (w := BLKS) (z := Str.ofString "None")
    unfold ans BLKS at tb ab tv av
    unfold wD at *
    simp -implicitDefEqProofs only [p30, t_ofS, bind_ok, ad1, t_tup2, t_tup1, t_g1, t_lstT, l10, adT, l6, ad16, t_iRes, sl1, e4, gx, t_lst1, ad2, t_addI, ea, sl2, ad3, e5, t_tupL, t_fn3, ev_law_told, tb, ez5, ab, t_asB, Bool.false_eq_true, if_false, t_nx, e6, e7, ev, tv, av]
    exact ⟨_, _, rfl, _, rfl, h7.mono (by omega)⟩
  · have t0 := told_sz (ex := ex) (bs := []) (d := .int 0) (S := S) (by simp) (by simp) (z := Str.ofString "0") rep_0
    have t1 := told_nm (ex := ex) (bs := []) (d := .int 0) (S := S) hx (by simp) (by simp) rfl (fun i e => by cases e; exact .inr (by simp [tot])) rep_0
    have q0 := ans_eq (S := S) (w := TOLD) (z := Str.ofString "0") (w' := TOLD) (z' := Str.ofString "0")
    have q1 := ans_eq (S := S) (w := NUMB) (z := Str.ofString "0") (w' := NUMB) (z' := Str.ofString "0")
    unfold ans TOLD at t0 q0
    unfold ans NUMB at t1 q1
    simp -implicitDefEqProofs only [List.map_nil] at t0 t1
    simp -implicitDefEqProofs only [t0, bind_ok, q0, t_ofS, decide_true, t_andT, t1, q1]
theorem mod_i {i j : Int} {S : Store} (h : 0 < j) : gMod (.int i) (.int j) S = some (.int (i % j)) := by
  simp [gMod, h]
end KK

set_option linter.all false
set_option maxRecDepth 100000
set_option maxHeartbeats 2000000
/-! GL: wells made; the law. -/
namespace KK
open PySem L2 KF TL
theorem thnF_ok' {σσ : Type} {s : σσ} {S' : Store} {k : σσ → Store → Res D} {r : Res (Step σσ Empty)} (h : r = .ok (.nx s) S') : KF.thnF r k = k s S' := by
  rw [h]
  rfl
theorem well_ok {ns : List Int} {k : Nat} (hk : k < 1000) (hn : ns.length ≤ 63) (S : Store) : ∃ a b : Int, P_law_well (.scr (ns.map .int)) (.int k) S = .ok (.cell S.length) (S ++ [.lst [.int a, .int b, .int 0]]) ∧ 0 ≤ a ∧ a < 2 ^ 31 := by
  unfold P_law_well
  have hc : ∃ c : Int, (if decide ((k : Int) < ns.length) then Res.of (gIx (.scr (ns.map D.int)) (.int k) S) S else Res.ok (.int 0) S) = .ok (.int c) S := by
    by_cases h : (k : Int) < ns.length
    · refine ⟨ns[k]'(by omega), ?_⟩
      rw [if_pos (by simpa using h), t_ixS, at_nat, List.getElem?_map, List.getElem?_eq_getElem (by omega)]
      rfl
    · exact ⟨0, by rw [if_neg (by simpa using h)]⟩
  obtain ⟨c, ec⟩ := hc
  have lk : (k : Int).natAbs.log2 < 40 := log_lt (k := 40) (by omega) (by omega) (by decide)
  have l1 : (7907 : Int).natAbs.log2 + (k : Int).natAbs.log2 < 1000000 := by
    have : (7907 : Int).natAbs.log2 < 100 := by decide +kernel
    omega
  have ca : gSl (.scr (ns.map D.int)) none (some 4) S = some (.lst ((ns.take 4).map .int)) := by
    show some (D.lst (cutX (ns.map D.int) none (some ((4 : Nat) : Int)))) = _
    rw [cut_take, List.map_take]
  simp -implicitDefEqProofs only [t_g1, t_lenS, List.length_map, t_ofS, bind_ok, gLt, t_g2I, t_asB, ec, mul_i l1, t_addI, ca, t_seqL]
  have lm : (48271 : Int).natAbs.log2 < 100 := by decide +kernel
  have lm2 : (69621 : Int).natAbs.log2 < 100 := by decide +kernel
  obtain ⟨r, S', e, s', rfl, ⟨a, rfl, a0, a1⟩, rfl⟩ := for_map (κ := Empty) (e := D.int) (S := S) (step := fun d8 (s7 : D) S => (Res.of (gMul s7 (D.int 48271) S) S).bind fun d10 S => (Res.of (gInt d8 S) S).bind fun d9 S => (Res.of (gMod d9 (D.int 2147483587) S) S).bind fun d11 S => (Res.of (gAdd d10 d11 S) S).bind fun d12 S => (Res.of (gAdd d12 (D.int 13) S) S).bind fun d13 S => (Res.of (gInt d13 S) S).bind fun d15 S => (Res.of (gMod d15 (D.int 2147483629) S) S).bind fun d16 S => Res.ok (Step.nx d16) S)
    (fun _ s S' => (∃ a : Int, s = .int a ∧ 0 ≤ a ∧ a < 2 ^ 40) ∧ S' = S) (ns.take 4) (s := .int (104729 + 7907 * k)) ⟨⟨_, rfl, by omega, by omega⟩, rfl⟩ fun i x s S1 hx ⟨⟨a, e, a0, a1⟩, e1⟩ => by
      subst e e1
      have la : a.natAbs.log2 < 62 := log_lt (k := 62) a0 (by omega) (by decide)
      have lam : a.natAbs.log2 + (48271 : Int).natAbs.log2 < 1000000 := by omega
      simp -implicitDefEqProofs only [mul_i lam, t_ofS, bind_ok, gInt, mod_i (j := 2147483587) (by decide), mod_i (j := 2147483629) (by decide), t_addI]
      have z1 := Int.emod_lt_of_pos (a * 48271 + x % 2147483587 + 13) (b := 2147483629) (by decide)
      exact ⟨_, _, rfl, _, rfl, ⟨_, rfl, Int.emod_nonneg _ (by decide), by omega⟩, rfl⟩
  have z1 := Int.emod_lt_of_pos (a * 69621 + c % 2147483579 + 5) (b := 2147483629) (by decide)
  have la : a.natAbs.log2 < 62 := log_lt (k := 62) a0 (by omega) (by decide)
  have lam : a.natAbs.log2 + (69621 : Int).natAbs.log2 < 1000000 := by omega
  refine ⟨(a * 69621 + c % 2147483579 + 5) % 2147483629, if decide ((if c < 0 then -c else c) ≥ (10 : Int) ^ 18) then (if c < 0 then -c else c) else 0, ?_, Int.emod_nonneg _ (by decide), by omega⟩
  simp -implicitDefEqProofs only [t_assoc, t_ofS, bind_ok, t_g1]
  refine (thnF_ok e).trans ?_
  have gp : (if (0 : Int) ≤ 18 ∧ (18 : Int) ≤ 1000000 ∧ Int.natAbs 10 < 2 ^ 64 then some (D.int (10 ^ Int.toNat 18)) else none) = some (.int (10 ^ 18)) := by
    rw [if_pos (by decide)]
    rfl
  rw [gp]
  simp -implicitDefEqProofs only [mul_i lam, t_ofS, bind_ok, gInt, mod_i (j := 2147483579) (by decide), mod_i (j := 2147483629) (by decide), t_addI, gAbs, gGe, t_g2I, t_asB, if_ok]
  generalize (decide ((if c < 0 then -c else c) ≥ (10 : Int) ^ 18)) = q
  cases q with
  | true => exact t_lstC (by simp)
  | false => exact t_lstC (by simp)
theorem pw_made {S : Store} {a b : Int} (a0 : 0 ≤ a) (a1 : a < 2 ^ 31) : PW (S ++ [.lst [.int a, .int b, .int 0]]) S.length 0 :=
  ⟨a, b, 0, by simp, a0, a1, by decide, by decide⟩
theorem law_true (C : Addr) (ex : Ex) (hx : ex.Ok) : LawTrue (M_law ex) 63 := fun ns hn => by
  show ∃ S, P_law ex (.scr (ns.map .int)) [] = .ok (.bl true) S
  unfold P_law
  have key : ∀ k : Int, 0 ≤ k → k ≤ 6 → ∃ S, ((rng1R (.int k) []).bind fun ds15 S => KF.thnF (forP (fun d7 (s6 : Unit) S => (((((P_law_well (.scr (ns.map .int)) d7 S).bind fun d9 S => Res.ok [d9] S).bind fun ds10 S => fnM 1 (M_law_right ex) ds10 [] S).bind fun d11 S => Res.of (asB d11) S).bind fun k8 S => Res.ok (!k8) S).bind fun k12 S => if k12 then (Res.ok (D.bl false) S).bind fun d13 S => Res.ok (Step.rt d13) S else Res.ok (Step.nx ()) S) ds15 () S) fun (s14 : Unit) S => Res.ok (D.bl true) S) = .ok (.bl true) S := fun k h0 h4 => by
    rw [rng_int h0 (by omega)]
    simp -implicitDefEqProofs only [bind_ok]
    obtain ⟨r, S', e, s', rfl, _⟩ := for_rng (κ := Empty) (S := ([] : Store)) (s := ()) (step := fun d7 (s6 : Unit) S => (((((P_law_well (.scr (ns.map .int)) d7 S).bind fun d9 S => Res.ok [d9] S).bind fun ds10 S => fnM 1 (M_law_right ex) ds10 [] S).bind fun d11 S => Res.of (asB d11) S).bind fun k8 S => Res.ok (!k8) S).bind fun k12 S => if k12 then (Res.ok (D.bl false) S).bind fun d13 S => Res.ok (Step.rt d13) S else Res.ok (Step.nx ()) S) (fun _ _ _ => True) k.toNat trivial fun i s S hi _ => by
      obtain ⟨a, b, e1, a0, a1⟩ := well_ok (ns := ns) (k := i) (by omega) hn S
      obtain ⟨S2, e2⟩ := right13 hx (pw_made (S := S) (b := b) a0 a1)
      have e3 : fnM 1 (M_law_right ex) [.cell S.length] [] (S ++ [.lst [.int a, .int b, .int 0]]) = .ok (.bl true) S2 := e2
      refine ⟨.nx (), S2, ?_, (), rfl, trivial⟩
      simp -implicitDefEqProofs only [e1, bind_ok, e3, t_asB, t_ofS, Bool.not_true, Bool.false_eq_true, if_false]
    exact ⟨S', (thnF_ok' e).trans rfl⟩
  simp -implicitDefEqProofs only [t_g1, t_lenS, List.length_map, t_ofS, bind_ok, t_g2, t_g2I]
  refine key _ ?_ ?_
  · split <;> split <;> omega
  · split <;> split <;> omega
end KK

set_option Elab.async false
set_option linter.all false
set_option maxRecDepth 100000
set_option maxHeartbeats 4000000
/-! the derivations of kindsfollow_k13_whole_places_of_rows's defs, and the head; printed by gen.py -/
namespace KK
open PySem PySem.Spec PyProof.Rows L2 KF
def top (i : Nat) : Stmt := PySem.Challenge.pw_kindsfollow_k13_whole_places_of_rows.main.body.getD i (.Pass ⟨0, 0, 0, 0⟩)
abbrev t_law_dip : Stmt := top 22
abbrev t_law_names : Stmt := top 23
abbrev t_law_row : Stmt := top 26
abbrev t_is_integer : Stmt := top 11
abbrev t_is_within : Stmt := top 12
abbrev t_is_name : Stmt := top 13
abbrev t_is_block : Stmt := top 15
abbrev t_check_blocks : Stmt := top 16
abbrev t_length_of : Stmt := top 17
abbrev t_size_of : Stmt := top 18
abbrev t_kind_at : Stmt := top 19
abbrev t_law_based : Stmt := top 24
abbrev t_law_told : Stmt := top 25
abbrev t_law_right_places : Stmt := top 27
abbrev t_law_right : Stmt := top 28
abbrev t_law_well : Stmt := top 21
abbrev t_law : Stmt := top 29
abbrev t_InvalidBlocks_ini : Stmt := inClass (top 3) 0
abbrev t_InvalidNumber_ini : Stmt := inClass (top 2) 0
structure Ad where
  f_law_dip : Addr
  d_law_dip : FuncData
  f_law_names : Addr
  d_law_names : FuncData
  f_law_row : Addr
  d_law_row : FuncData
  f_is_integer : Addr
  d_is_integer : FuncData
  f_is_within : Addr
  d_is_within : FuncData
  f_is_name : Addr
  d_is_name : FuncData
  f_is_block : Addr
  d_is_block : FuncData
  f_check_blocks : Addr
  d_check_blocks : FuncData
  f_length_of : Addr
  d_length_of : FuncData
  f_size_of : Addr
  d_size_of : FuncData
  f_kind_at : Addr
  d_kind_at : FuncData
  f_law_based : Addr
  d_law_based : FuncData
  f_law_told : Addr
  d_law_told : FuncData
  f_law_right_places : Addr
  d_law_right_places : FuncData
  f_law_right : Addr
  d_law_right : FuncData
  f_law_well : Addr
  d_law_well : FuncData
  f_law : Addr
  d_law : FuncData
  e_InvalidBlocks : Addr
  ed_InvalidBlocks : FuncData
  e_InvalidNumber : Addr
  ed_InvalidNumber : FuncData
structure Txt (K : PySem.W.Frag) (mg : Str → Option Value) (C : Addr) (ex : Ex) (a : Ad) : Prop where
  ex_InvalidBlocks : ExT K ex.InvalidBlocks a.e_InvalidBlocks a.ed_InvalidBlocks (Str.ofString "index")
  Fx_InvalidBlocks : FnIs K (Str.ofString "__init__") (Str.ofString "InvalidBlocks.__init__") t_InvalidBlocks_ini a.e_InvalidBlocks a.ed_InvalidBlocks
  gx_InvalidBlocks : mg (Str.ofString "InvalidBlocks") = some (.ref ex.InvalidBlocks)
  is_InvalidBlocks : IsT K ex.InvalidBlocks
  em_InvalidBlocks : PySem.W.exmOne K (.ref ex.InvalidBlocks) (.ref ex.InvalidBlocks) = some true
  ex_InvalidNumber : ExT K ex.InvalidNumber a.e_InvalidNumber a.ed_InvalidNumber (Str.ofString "given")
  Fx_InvalidNumber : FnIs K (Str.ofString "__init__") (Str.ofString "InvalidNumber.__init__") t_InvalidNumber_ini a.e_InvalidNumber a.ed_InvalidNumber
  gx_InvalidNumber : mg (Str.ofString "InvalidNumber") = some (.ref ex.InvalidNumber)
  is_InvalidNumber : IsT K ex.InvalidNumber
  em_InvalidNumber : PySem.W.exmOne K (.ref ex.InvalidNumber) (.ref ex.InvalidNumber) = some true
  en_InvalidNumber_InvalidBlocks : PySem.W.exmOne K (.ref ex.InvalidNumber) (.ref ex.InvalidBlocks) = some false
  ga_NoAnswer : ∃ A, mg (Str.ofString "NoAnswer") = some (.ref A) ∧ (PySem.W.kitOne K (.ref ex.InvalidBlocks) (.ref A) = some false ∧ PySem.W.kitOne K (.ref ex.InvalidNumber) (.ref A) = some false)
  ga_WrongName : ∃ A, mg (Str.ofString "WrongName") = some (.ref A) ∧ (PySem.W.kitOne K (.ref ex.InvalidBlocks) (.ref A) = some false ∧ PySem.W.kitOne K (.ref ex.InvalidNumber) (.ref A) = some false)
  ga_WrongValue : ∃ A, mg (Str.ofString "WrongValue") = some (.ref A) ∧ (PySem.W.kitOne K (.ref ex.InvalidBlocks) (.ref A) = some true ∧ PySem.W.kitOne K (.ref ex.InvalidNumber) (.ref A) = some true)
  kb_InvalidBlocks_ArithmeticError : PySem.W.kitOne K (.ref ex.InvalidBlocks) (.type "ArithmeticError") = some false
  kb_InvalidBlocks_LookupError : PySem.W.kitOne K (.ref ex.InvalidBlocks) (.type "LookupError") = some false
  kb_InvalidBlocks_ValueError : PySem.W.kitOne K (.ref ex.InvalidBlocks) (.type "ValueError") = some true
  kb_InvalidNumber_ArithmeticError : PySem.W.kitOne K (.ref ex.InvalidNumber) (.type "ArithmeticError") = some false
  kb_InvalidNumber_LookupError : PySem.W.kitOne K (.ref ex.InvalidNumber) (.type "LookupError") = some false
  kb_InvalidNumber_ValueError : PySem.W.kitOne K (.ref ex.InvalidNumber) (.type "ValueError") = some true
  kits : Kits K []
  n_ArithmeticError : mg (Str.ofString "ArithmeticError") = none
  n_LookupError : mg (Str.ofString "LookupError") = none
  n_ValueError : mg (Str.ofString "ValueError") = none
  n_abs : mg (Str.ofString "abs") = none
  n_all : mg (Str.ofString "all") = none
  n_bool : mg (Str.ofString "bool") = none
  n_divmod : mg (Str.ofString "divmod") = none
  n_enumerate : mg (Str.ofString "enumerate") = none
  n_int : mg (Str.ofString "int") = none
  n_isinstance : mg (Str.ofString "isinstance") = none
  n_len : mg (Str.ofString "len") = none
  n_list : mg (Str.ofString "list") = none
  n_max : mg (Str.ofString "max") = none
  n_min : mg (Str.ofString "min") = none
  n_range : mg (Str.ofString "range") = none
  n_repr : mg (Str.ofString "repr") = none
  n_str : mg (Str.ofString "str") = none
  n_sum : mg (Str.ofString "sum") = none
  n_tuple : mg (Str.ofString "tuple") = none
  v_DIGITS : ∃ t, mg (Str.ofString "DIGITS") = some (.str (Str.ofString "0123456789") t)
  v_LETTERS : ∃ t, mg (Str.ofString "LETTERS") = some (.str (Str.ofString "abcdefghijklmnopqrstuvwxyz") t)
  v_LONGEST_NAME : ∃ t, mg (Str.ofString "LONGEST_NAME") = some (.int 8 t)
  v_MOST_THINGS : ∃ t, mg (Str.ofString "MOST_THINGS") = some (.int 1000000000000000000000000000000 t)
  F_law_dip : FnIs K (Str.ofString "_law_dip") (Str.ofString "_law_dip") t_law_dip a.f_law_dip a.d_law_dip
  b_law_dip : Binds K a.d_law_dip [(Str.ofString "_law_well_here"), (Str.ofString "_law_many")] []
  k_law_dip : PySem.W.keepIn K (.ref a.f_law_dip) = true
  g_law_dip : mg (Str.ofString "_law_dip") = some (.ref a.f_law_dip)
  F_law_names : FnIs K (Str.ofString "_law_names") (Str.ofString "_law_names") t_law_names a.f_law_names a.d_law_names
  b_law_names : Binds K a.d_law_names [(Str.ofString "_law_well_here"), (Str.ofString "_law_many")] []
  k_law_names : PySem.W.keepIn K (.ref a.f_law_names) = true
  g_law_names : mg (Str.ofString "_law_names") = some (.ref a.f_law_names)
  F_law_row : FnIs K (Str.ofString "_law_row") (Str.ofString "_law_row") t_law_row a.f_law_row a.d_law_row
  b_law_row : Binds K a.d_law_row [(Str.ofString "_law_well_here")] []
  k_law_row : PySem.W.keepIn K (.ref a.f_law_row) = true
  g_law_row : mg (Str.ofString "_law_row") = some (.ref a.f_law_row)
  F_is_integer : FnIs K (Str.ofString "is_integer") (Str.ofString "is_integer") t_is_integer a.f_is_integer a.d_is_integer
  b_is_integer : Binds K a.d_is_integer [(Str.ofString "value")] []
  k_is_integer : PySem.W.keepIn K (.ref a.f_is_integer) = true
  g_is_integer : mg (Str.ofString "is_integer") = some (.ref a.f_is_integer)
  F_is_within : FnIs K (Str.ofString "is_within") (Str.ofString "is_within") t_is_within a.f_is_within a.d_is_within
  b_is_within : Binds K a.d_is_within [(Str.ofString "value"), (Str.ofString "least"), (Str.ofString "most")] []
  k_is_within : PySem.W.keepIn K (.ref a.f_is_within) = true
  g_is_within : mg (Str.ofString "is_within") = some (.ref a.f_is_within)
  F_is_name : FnIs K (Str.ofString "is_name") (Str.ofString "is_name") t_is_name a.f_is_name a.d_is_name
  b_is_name : Binds K a.d_is_name [(Str.ofString "value")] []
  k_is_name : PySem.W.keepIn K (.ref a.f_is_name) = true
  g_is_name : mg (Str.ofString "is_name") = some (.ref a.f_is_name)
  F_is_block : FnIs K (Str.ofString "is_block") (Str.ofString "is_block") t_is_block a.f_is_block a.d_is_block
  b_is_block : Binds K a.d_is_block [(Str.ofString "value")] []
  k_is_block : PySem.W.keepIn K (.ref a.f_is_block) = true
  g_is_block : mg (Str.ofString "is_block") = some (.ref a.f_is_block)
  F_check_blocks : FnIs K (Str.ofString "check_blocks") (Str.ofString "check_blocks") t_check_blocks a.f_check_blocks a.d_check_blocks
  b_check_blocks : Binds K a.d_check_blocks [(Str.ofString "blocks")] []
  k_check_blocks : PySem.W.keepIn K (.ref a.f_check_blocks) = true
  g_check_blocks : mg (Str.ofString "check_blocks") = some (.ref a.f_check_blocks)
  F_length_of : FnIs K (Str.ofString "length_of") (Str.ofString "length_of") t_length_of a.f_length_of a.d_length_of
  b_length_of : Binds K a.d_length_of [(Str.ofString "blocks")] []
  k_length_of : PySem.W.keepIn K (.ref a.f_length_of) = true
  g_length_of : mg (Str.ofString "length_of") = some (.ref a.f_length_of)
  F_size_of : FnIs K (Str.ofString "size_of") (Str.ofString "size_of") t_size_of a.f_size_of a.d_size_of
  b_size_of : Binds K a.d_size_of [(Str.ofString "blocks")] []
  k_size_of : PySem.W.keepIn K (.ref a.f_size_of) = true
  g_size_of : mg (Str.ofString "size_of") = some (.ref a.f_size_of)
  F_kind_at : FnIs K (Str.ofString "kind_at") (Str.ofString "kind_at") t_kind_at a.f_kind_at a.d_kind_at
  b_kind_at : Binds K a.d_kind_at [(Str.ofString "blocks"), (Str.ofString "place")] []
  k_kind_at : PySem.W.keepIn K (.ref a.f_kind_at) = true
  g_kind_at : mg (Str.ofString "kind_at") = some (.ref a.f_kind_at)
  F_law_based : FnIs K (Str.ofString "_law_based") (Str.ofString "_law_based") t_law_based a.f_law_based a.d_law_based
  b_law_based : Binds K a.d_law_based [(Str.ofString "_law_e")] []
  k_law_based : PySem.W.keepIn K (.ref a.f_law_based) = true
  g_law_based : mg (Str.ofString "_law_based") = some (.ref a.f_law_based)
  F_law_told : FnIs K (Str.ofString "_law_told") (Str.ofString "_law_told") t_law_told a.f_law_told a.d_law_told
  b_law_told : Binds K a.d_law_told [(Str.ofString "_law_form"), (Str.ofString "_law_row_here"), (Str.ofString "_law_where")] []
  k_law_told : PySem.W.keepIn K (.ref a.f_law_told) = true
  g_law_told : mg (Str.ofString "_law_told") = some (.ref a.f_law_told)
  F_law_right_places : FnIs K (Str.ofString "_law_right_places") (Str.ofString "_law_right_places") t_law_right_places a.f_law_right_places a.d_law_right_places
  b_law_right_places : Binds K a.d_law_right_places [(Str.ofString "_law_well_here"), (Str.ofString "_law_row_here")] []
  k_law_right_places : PySem.W.keepIn K (.ref a.f_law_right_places) = true
  g_law_right_places : mg (Str.ofString "_law_right_places") = some (.ref a.f_law_right_places)
  F_law_right : FnIs K (Str.ofString "_law_right") (Str.ofString "_law_right") t_law_right a.f_law_right a.d_law_right
  b_law_right : Binds K a.d_law_right [(Str.ofString "_law_well_here")] []
  k_law_right : PySem.W.keepIn K (.ref a.f_law_right) = true
  g_law_right : mg (Str.ofString "_law_right") = some (.ref a.f_law_right)
  F_law_well : FnIs K (Str.ofString "_law_well") (Str.ofString "_law_well") t_law_well a.f_law_well a.d_law_well
  b_law_well : Binds K a.d_law_well [(Str.ofString "_law_script"), (Str.ofString "_law_k")] []
  k_law_well : PySem.W.keepIn K (.ref a.f_law_well) = true
  g_law_well : mg (Str.ofString "_law_well") = some (.ref a.f_law_well)
  F_law : FnIs K (Str.ofString "law") (Str.ofString "law") t_law a.f_law a.d_law
  b_law : Binds K a.d_law [(Str.ofString "_law_script")] []
  k_law : PySem.W.keepIn K (.ref a.f_law) = true
  g_law : mg (Str.ofString "law") = some (.ref a.f_law)
  bd_kind_at_0_place_blocks : BD K a.d_kind_at [(Str.ofString "blocks"), (Str.ofString "place")] [(Str.ofString "place"), (Str.ofString "blocks")] 0 (fun ds es => pick [1, 0] ds es)
section
variable {P : Program} {w : World} {K : PySem.W.Frag} {mg : Str → Option Value} {base : Heap} {C : Addr} {ex : Ex} {a : Ad}
noncomputable def Txt.A_NoAnswer (T : Txt K mg C ex a) : Addr := Classical.choose T.ga_NoAnswer
theorem Txt.gk_NoAnswer (T : Txt K mg C ex a) : mg (Str.ofString "NoAnswer") = some (.ref T.A_NoAnswer) := (Classical.choose_spec T.ga_NoAnswer).1
theorem Txt.kb_InvalidBlocks_NoAnswer (T : Txt K mg C ex a) : PySem.W.kitOne K (.ref ex.InvalidBlocks) (.ref T.A_NoAnswer) = some false := (Classical.choose_spec T.ga_NoAnswer).2.1
theorem Txt.kb_InvalidNumber_NoAnswer (T : Txt K mg C ex a) : PySem.W.kitOne K (.ref ex.InvalidNumber) (.ref T.A_NoAnswer) = some false := (Classical.choose_spec T.ga_NoAnswer).2.2
noncomputable def Txt.A_WrongName (T : Txt K mg C ex a) : Addr := Classical.choose T.ga_WrongName
theorem Txt.gk_WrongName (T : Txt K mg C ex a) : mg (Str.ofString "WrongName") = some (.ref T.A_WrongName) := (Classical.choose_spec T.ga_WrongName).1
theorem Txt.kb_InvalidBlocks_WrongName (T : Txt K mg C ex a) : PySem.W.kitOne K (.ref ex.InvalidBlocks) (.ref T.A_WrongName) = some false := (Classical.choose_spec T.ga_WrongName).2.1
theorem Txt.kb_InvalidNumber_WrongName (T : Txt K mg C ex a) : PySem.W.kitOne K (.ref ex.InvalidNumber) (.ref T.A_WrongName) = some false := (Classical.choose_spec T.ga_WrongName).2.2
noncomputable def Txt.A_WrongValue (T : Txt K mg C ex a) : Addr := Classical.choose T.ga_WrongValue
theorem Txt.gk_WrongValue (T : Txt K mg C ex a) : mg (Str.ofString "WrongValue") = some (.ref T.A_WrongValue) := (Classical.choose_spec T.ga_WrongValue).1
theorem Txt.kb_InvalidBlocks_WrongValue (T : Txt K mg C ex a) : PySem.W.kitOne K (.ref ex.InvalidBlocks) (.ref T.A_WrongValue) = some true := (Classical.choose_spec T.ga_WrongValue).2.1
theorem Txt.kb_InvalidNumber_WrongValue (T : Txt K mg C ex a) : PySem.W.kitOne K (.ref ex.InvalidNumber) (.ref T.A_WrongValue) = some true := (Classical.choose_spec T.ga_WrongValue).2.2
theorem sc_InvalidBlocks_ini : FnScope [(Str.ofString "self"), (Str.ofString "index")] [(Str.ofString "self"), (Str.ofString "index")] (defScope t_InvalidBlocks_ini) := ⟨rfl, rfl, rfl, by decide +kernel, rfl, by decide +kernel, by decide +kernel⟩
theorem ini_InvalidBlocks (T : Txt K mg C ex a) : FnOk P w K mg base (L2.CX P w) 1 a.e_InvalidBlocks a.ed_InvalidBlocks [(Str.ofString "self"), (Str.ofString "index")] (spIni K (Str.ofString "index")) := ini_ok T.Fx_InvalidBlocks sc_InvalidBlocks_ini
theorem sc_InvalidNumber_ini : FnScope [(Str.ofString "self"), (Str.ofString "given")] [(Str.ofString "self"), (Str.ofString "given")] (defScope t_InvalidNumber_ini) := ⟨rfl, rfl, rfl, by decide +kernel, rfl, by decide +kernel, by decide +kernel⟩
theorem ini_InvalidNumber (T : Txt K mg C ex a) : FnOk P w K mg base (L2.CX P w) 1 a.e_InvalidNumber a.ed_InvalidNumber [(Str.ofString "self"), (Str.ofString "given")] (spIni K (Str.ofString "given")) := ini_ok T.Fx_InvalidNumber sc_InvalidNumber_ini
theorem sc_law_dip : FnScope [(Str.ofString "_law_well_here"), (Str.ofString "_law_many"), (Str.ofString "_law_digit")] [(Str.ofString "_law_well_here"), (Str.ofString "_law_many")] (defScope t_law_dip) := ⟨rfl, rfl, rfl, by decide +kernel, rfl, by decide +kernel, by decide +kernel⟩
theorem ok_law_dip (T : Txt K mg C ex a) : FnG P w K mg base 1 a.f_law_dip a.d_law_dip [(Str.ofString "_law_well_here"), (Str.ofString "_law_many")] (spD K (M_law_dip) 2) :=
  fnH T.F_law_dip sc_law_dip fun cdv A outer s H E c ds hl => have nd := sc_law_dip.nd
    match ds, hl with
    | [a0, a1], _ => dh_fin (st := [some (Sl.v a0), some (Sl.v a1), none]) (dh_ifr FM.nn (dt_cmp op_gtK (de_ix (dv 0) de_int) de_int (by rfl)) (dh_asg (de_callB call_divmodK (by rfl) T.n_divmod b_divmod (da_cons (de_ix (dv 0) de_int) (da_cons (dv 1) da_nil))) (gx_tup (n := 2) c.cm (gxs_cons (gx_sub (dv 0) de_int) (gxs_cons (gx_name 2 nd) gxs_nil))) (fun d6 _ => (goes_t2 (fun e7 e8 => goes_s (x := a0) (y := (D.int 1)) (fun _ => .to rfl (dh_retFd (dv 2))))))) (dh_asg (de_op op_addK (de_ix (dv 0) de_int) de_int) (gx_sub (dv 0) de_int) (fun d10 _ => goes_s1 (x := a0) (y := (D.int 2)) (dh_asg (de_op op_modK (de_callT call_intK (by rfl) T.n_int b_int (da_cons (de_op op_addK (de_op op_addK (de_op op_mulK (de_ix (dv 0) de_int) de_int) (de_op op_mulK (de_op op_mulK de_int (de_ix (dv 0) de_int)) (de_ix (dv 0) de_int))) de_int) da_nil)) de_int) (gx_sub (dv 0) de_int) (fun d21 _ => goes_s1 (x := a0) (y := (D.int 0)) (dh_retF (de_op op_modK (de_callT call_intK (by rfl) T.n_int b_int (da_cons (de_op op_divK (de_ix (dv 0) de_int) de_int) da_nil)) (dv 1))))))))
theorem sc_law_names : FnScope [(Str.ofString "_law_well_here"), (Str.ofString "_law_many"), (Str.ofString "_law_words"), (Str.ofString "_law_signs"), (Str.ofString "_law_found"), (Str.ofString "_law_k"), (Str.ofString "_law_size"), (Str.ofString "_law_word"), (Str.ofString "_law_fresh"), (Str.ofString "_law_j"), (Str.ofString "_law_each")] [(Str.ofString "_law_well_here"), (Str.ofString "_law_many")] (defScope t_law_names) := ⟨rfl, rfl, rfl, by decide +kernel, rfl, by decide +kernel, by decide +kernel⟩
theorem ok_law_names (T : Txt K mg C ex a) : FnG P w K mg base 2 a.f_law_names a.d_law_names [(Str.ofString "_law_well_here"), (Str.ofString "_law_many")] (spD K (M_law_names) 2) :=
  fnH T.F_law_names sc_law_names fun cdv A outer s H E c ds hl => have nd := sc_law_names.nd
    match ds, hl with
    | [a0, a1], _ => dh_fin (st := [some (Sl.v a0), some (Sl.v a1), none, none, none, none, none, none, none, none, none]) (dh_set (i := 2) nd (de_lst (da_cons de_str (da_cons de_str (da_cons de_str (da_cons de_str (da_cons de_str (da_cons de_str (da_cons de_str (da_cons de_str da_nil))))))))) (fun d1 => (dh_asg (de_tup (da_cons de_str (da_cons (de_lstC da_nil) da_nil))) (gx_tup (n := 2) c.cm (gxs_cons (gx_name 3 nd) (gxs_cons (gx_name 4 nd) gxs_nil))) (fun d4 _ => (goes_t2 (fun e5 e6 => .to rfl (dh_for (slj := (fun (s7 : D) => [some (Sl.v a0), some (Sl.v a1), some (Sl.v d1), some (Sl.v e5), some (Sl.v s7), none, none, none, none, none, none])) (s0 := e6) c.po c.cm (di_range1 (by rfl) T.n_range (dv 1)) (gx_name 5 nd) (fun d8 s7 S => (goes_n (dh_set (i := 6) nd (de_if (dt_cmp (op_eqK c.u) (de_fn (cal_fn (ok_law_dip T) (c.rj (by decide)) c.gd c.tk (bd_all rfl T.b_law_dip)) T.k_law_dip (by rfl) T.g_law_dip (da_cons (dv 0) (da_cons de_int da_nil))) de_int (by rfl)) (de_fn (cal_fn (ok_law_dip T) (c.rj (by decide)) c.gd c.tk (bd_all rfl T.b_law_dip)) T.k_law_dip (by rfl) T.g_law_dip (da_cons (dv 0) (da_cons de_int da_nil))) (de_fn (cal_fn (ok_law_dip T) (c.rj (by decide)) c.gd c.tk (bd_all rfl T.b_law_dip)) T.k_law_dip (by rfl) T.g_law_dip (da_cons (dv 0) (da_cons de_int da_nil)))) (fun d12 => (dh_set (i := 7) nd (de_op op_addK (de_ix (dv 3) (de_fn (cal_fn (ok_law_dip T) (c.rj (by decide)) c.gd c.tk (bd_all rfl T.b_law_dip)) T.k_law_dip (by rfl) T.g_law_dip (da_cons (dv 0) (da_cons de_int da_nil)))) (q_m PySem.F.plainAttrs_str PySem.F.slot_str_join PySem.F.type_str_join mt_joinK okS_ty de_str (da_cons (de_lc (own := [(Str.ofString "_law_j", 9)]) c.cm nd (DI.toL (di_range1 (by rfl) T.n_range (dv 6))) (blk_ok (by kernel_rfl)) (fun _ _ _ _ _ => (dx_name 9 nd)) (fun _ _ _ _ _ => dts_nil) (fun _ _ _ _ _ => (de_ix (dv 3) (de_fn (cal_fn (ok_law_dip T) (c.rj (by decide)) c.gd (c.blk _ _ _ _ _).tk (bd_all rfl T.b_law_dip)) T.k_law_dip (by rfl) T.g_law_dip (da_cons (dv 0) (da_cons de_int da_nil)))))) da_nil))) (fun d18 => (dh_if (slj := (fun (s24 : D) => [some (Sl.v a0), some (Sl.v a1), some (Sl.v d1), some (Sl.v e5), some (Sl.v s7), some (Sl.v d8), some (Sl.v d12), some (Sl.v s24), none, none, none])) (dt_cmp (op_eqK c.u) (de_fn (cal_fn (ok_law_dip T) (c.rj (by decide)) c.gd c.tk (bd_all rfl T.b_law_dip)) T.k_law_dip (by rfl) T.g_law_dip (da_cons (dv 0) (da_cons de_int da_nil))) de_int (by rfl)) (dh_set (i := 7) nd (de_ix (dv 2) (de_fn (cal_fn (ok_law_dip T) (c.rj (by decide)) c.gd c.tk (bd_all rfl T.b_law_dip)) T.k_law_dip (by rfl) T.g_law_dip (da_cons (dv 0) (da_cons de_int da_nil)))) (fun d23 => (dh_nil (r := Step.nx) (s := d23) rfl (Sub.keep (Sub.keep (Sub.keep (Sub.keep (Sub.keep (Sub.keep (Sub.keep (Sub.keep (Sub.drop (Sub.drop (Sub.drop Sub.nil)))))))))))))) (dh_nil (r := Step.nx) (s := d18) rfl (Sub.keep (Sub.keep (Sub.keep (Sub.keep (Sub.keep (Sub.keep (Sub.keep (Sub.keep (Sub.drop (Sub.drop (Sub.drop Sub.nil)))))))))))) (fun s24 => (dh_set (i := 8) nd (de_op op_addK (de_lst (da_cons (dv 7) da_nil)) (de_lc (own := [(Str.ofString "_law_j", 9)]) c.cm nd (DI.toL (di_range1 (by rfl) T.n_range (dv 1))) (blk_ok (by kernel_rfl)) (fun _ _ _ _ _ => (dx_name 9 nd)) (fun _ _ _ _ _ => dts_nil) (fun _ _ _ _ _ => (de_op op_addK de_str (de_callT call_strK (by rfl) T.n_str b_str (da_cons (dv 9) da_nil)))))) (fun d26 => (dh_expr (q_m PySem.F.plainAttrs_list PySem.F.slot_list_append PySem.F.type_list_append mt_appendK okL_ty (dv 4) (da_cons (de_ix (de_lc (own := [(Str.ofString "_law_each", 10)]) c.cm nd (DI.toL (di_val (dv 8))) (blk_ok (by kernel_rfl)) (fun _ _ _ _ _ => (dx_name 10 nd)) (fun _ _ _ _ _ => (dts_one (dt_cmp (op_notInK c.u70) (dv 10) (dv 4) (by rfl)))) (fun _ _ _ _ _ => (dv 10))) de_int) da_nil)) (fun _ => (dh_nil (r := Step.nx) (s := s7) rfl (Sub.keep (Sub.keep (Sub.keep (Sub.keep (Sub.keep (Sub.drop (Sub.drop (Sub.drop (Sub.drop (Sub.drop (Sub.drop Sub.nil)))))))))))))))))))))))) (fun s31 => (dh_retF (dv 4))) (Sub.keep (Sub.keep (Sub.keep (Sub.keep (Sub.keep (Sub.drop (Sub.drop (Sub.drop (Sub.drop (Sub.drop (Sub.drop Sub.nil))))))))))))))))))
theorem sc_law_row : FnScope [(Str.ofString "_law_well_here"), (Str.ofString "_law_names_here"), (Str.ofString "_law_found"), (Str.ofString "_law_turn"), (Str.ofString "_law_word"), (Str.ofString "_law_times"), (Str.ofString "_law_k")] [(Str.ofString "_law_well_here")] (defScope t_law_row) := ⟨rfl, rfl, rfl, by decide +kernel, rfl, by decide +kernel, by decide +kernel⟩
theorem ok_law_row (T : Txt K mg C ex a) : FnG P w K mg base 3 a.f_law_row a.d_law_row [(Str.ofString "_law_well_here")] (spD K (M_law_row) 1) :=
  fnH T.F_law_row sc_law_row fun cdv A outer s H E c ds hl => have nd := sc_law_row.nd
    match ds, hl with
    | [a0], _ => dh_fin (st := [some (Sl.v a0), none, none, none, none, none, none]) (dh_asg (de_tup (da_cons (de_fn (cal_fn (ok_law_names T) (c.rj (by decide)) c.gd c.tk (bd_all rfl T.b_law_names)) T.k_law_names (by rfl) T.g_law_names (da_cons (dv 0) (da_cons de_int da_nil))) (da_cons (de_lstC da_nil) da_nil))) (gx_tup (n := 2) c.cm (gxs_cons (gx_name 1 nd) (gxs_cons (gx_name 2 nd) gxs_nil))) (fun d4 _ => (goes_t2 (fun e5 e6 => .to rfl (dh_for (slj := (fun (s8 : D) => [some (Sl.v a0), some (Sl.v e5), some (Sl.v s8), none, none, none, none])) (s0 := e6) c.po c.cm (di_range1 (by rfl) T.n_range (de_op op_addK de_int (de_fn (cal_fn (ok_law_dip T) (c.rj (by decide)) c.gd c.tk (bd_all rfl T.b_law_dip)) T.k_law_dip (by rfl) T.g_law_dip (da_cons (dv 0) (da_cons de_int da_nil))))) (gx_name 3 nd) (fun d9 s8 S => (goes_n (dh_set (i := 4) nd (de_callT call_tupleK (by rfl) T.n_tuple b_tuple (da_cons (de_lc (own := [(Str.ofString "_law_k", 6)]) c.cm nd (DI.toL (di_range1 (by rfl) T.n_range (de_op op_addK de_int (de_fn (cal_fn (ok_law_dip T) (c.rj (by decide)) c.gd c.tk (bd_all rfl T.b_law_dip)) T.k_law_dip (by rfl) T.g_law_dip (da_cons (dv 0) (da_cons de_int da_nil)))))) (blk_ok (by kernel_rfl)) (fun _ _ _ _ _ => (dx_name 6 nd)) (fun _ _ _ _ _ => dts_nil) (fun _ _ _ _ _ => (de_ix (dv 1) (de_fn (cal_fn (ok_law_dip T) (c.rj (by decide)) c.gd (c.blk _ _ _ _ _).tk (bd_all rfl T.b_law_dip)) T.k_law_dip (by rfl) T.g_law_dip (da_cons (dv 0) (da_cons de_int da_nil)))))) da_nil)) (fun d12 => (dh_set (i := 5) nd (de_ix (de_lst (da_cons de_int (da_cons (de_op op_addK de_int (de_fn (cal_fn (ok_law_dip T) (c.rj (by decide)) c.gd c.tk (bd_all rfl T.b_law_dip)) T.k_law_dip (by rfl) T.g_law_dip (da_cons (dv 0) (da_cons de_int da_nil)))) (da_cons (de_op op_subK (de_op op_powK de_int de_int) (de_fn (cal_fn (ok_law_dip T) (c.rj (by decide)) c.gd c.tk (bd_all rfl T.b_law_dip)) T.k_law_dip (by rfl) T.g_law_dip (da_cons (dv 0) (da_cons de_int da_nil)))) (da_cons (de_op op_addK de_int (de_fn (cal_fn (ok_law_dip T) (c.rj (by decide)) c.gd c.tk (bd_all rfl T.b_law_dip)) T.k_law_dip (by rfl) T.g_law_dip (da_cons (dv 0) (da_cons (de_op op_powK de_int de_int) da_nil)))) da_nil))))) (de_fn (cal_fn (ok_law_dip T) (c.rj (by decide)) c.gd c.tk (bd_all rfl T.b_law_dip)) T.k_law_dip (by rfl) T.g_law_dip (da_cons (dv 0) (da_cons de_int da_nil)))) (fun d28 => (dh_expr (q_m PySem.F.plainAttrs_list PySem.F.slot_list_append PySem.F.type_list_append mt_appendK okL_ty (dv 2) (da_cons (de_tup (da_cons (dv 4) (da_cons (dv 5) da_nil))) da_nil)) (fun _ => (dh_nil (r := Step.nx) (s := s8) rfl (Sub.keep (Sub.keep (Sub.keep (Sub.drop (Sub.drop (Sub.drop (Sub.drop Sub.nil)))))))))))))))) (fun s30 => (dh_retF (dv 2))) (Sub.keep (Sub.keep (Sub.keep (Sub.drop (Sub.drop (Sub.drop (Sub.drop Sub.nil))))))))))))
theorem sc_is_integer : FnScope [(Str.ofString "value")] [(Str.ofString "value")] (defScope t_is_integer) := ⟨rfl, rfl, rfl, by decide +kernel, rfl, by decide +kernel, by decide +kernel⟩
theorem ok_is_integer (T : Txt K mg C ex a) : FnG P w K mg base 1 a.f_is_integer a.d_is_integer [(Str.ofString "value")] (spD K (M_is_integer) 1) :=
  fnH T.F_is_integer sc_is_integer fun cdv A outer s H E c ds hl => have nd := sc_is_integer.nd
    match ds, hl with
    | [a0], _ => dh_fin (st := [some (Sl.v a0)]) (dh_retF (de_and (de_callB (call_isiK T.kits) (by rfl) T.n_isinstance b_isinstance (da_cons (dv 0) (da_cons (de_bty (by rfl) T.n_int b_int) da_nil))) (de_one (de_not (de_callB (call_isiK T.kits) (by rfl) T.n_isinstance b_isinstance (da_cons (dv 0) (da_cons (de_bty (by rfl) T.n_bool b_bool) da_nil)))))))
theorem sc_is_within : FnScope [(Str.ofString "value"), (Str.ofString "least"), (Str.ofString "most")] [(Str.ofString "value"), (Str.ofString "least"), (Str.ofString "most")] (defScope t_is_within) := ⟨rfl, rfl, rfl, by decide +kernel, rfl, by decide +kernel, by decide +kernel⟩
theorem ok_is_within (T : Txt K mg C ex a) : FnG P w K mg base 2 a.f_is_within a.d_is_within [(Str.ofString "value"), (Str.ofString "least"), (Str.ofString "most")] (spD K (M_is_within) 3) :=
  fnH T.F_is_within sc_is_within fun cdv A outer s H E c ds hl => have nd := sc_is_within.nd
    match ds, hl with
    | [a0, a1, a2], _ => dh_fin (st := [some (Sl.v a0), some (Sl.v a1), some (Sl.v a2)]) (dh_retF (de_and (de_fn (cal_fn (ok_is_integer T) (c.rj (by decide)) c.gd c.tk (bd_all rfl T.b_is_integer)) T.k_is_integer (by rfl) T.g_is_integer (da_cons (dv 0) da_nil)) (de_one (de_chain op_leK op_leK (dv 1) (dv 0) (dv 2)))))
theorem sc_is_name : FnScope [(Str.ofString "value"), (Str.ofString "sign")] [(Str.ofString "value")] (defScope t_is_name) := ⟨rfl, rfl, rfl, by decide +kernel, rfl, by decide +kernel, by decide +kernel⟩
theorem ok_is_name (T : Txt K mg C ex a) : FnG P w K mg base 1 a.f_is_name a.d_is_name [(Str.ofString "value")] (spD K (M_is_name) 1) :=
  fnH T.F_is_name sc_is_name fun cdv A outer s H E c ds hl => have nd := sc_is_name.nd
    match ds, hl with
    | [a0], _ => dh_fin (st := [some (Sl.v a0), none]) (dh_ifr FM.nn (dw_pt (dw_or (dt_not (dt_b (de_callB (call_isiK T.kits) (by rfl) T.n_isinstance b_isinstance (da_cons (dv 0) (da_cons (de_bty (by rfl) T.n_str b_str) da_nil))))) (dw_or1 (dt_not (dt_chain op_leK op_leK de_int (de_callB call_lenK (by rfl) T.n_len b_len (da_cons (dv 0) da_nil)) (de_gI (by rfl) T.v_LONGEST_NAME)))))) (dh_retFd de_bl) (dh_retF (de_and (de_cmp (op_inK c.u70) (de_ix (dv 0) de_int) (de_gS (by rfl) T.v_LETTERS) (by rfl)) (de_one (de_callB (call_allK c.cm) (by rfl) T.n_all b_all (da_cons (de_lc (own := [(Str.ofString "sign", 1)]) c.cm nd (DI.toL (di_val (dv 0))) (blk_ok (by kernel_rfl)) (fun _ _ _ _ _ => (dx_name 1 nd)) (fun _ _ _ _ _ => dts_nil) (fun _ _ _ _ _ => (de_or (de_cmp (op_inK c.u70) (dv 1) (de_gS (by rfl) T.v_LETTERS) (by rfl)) (de_one (de_cmp (op_inK c.u70) (dv 1) (de_gS (by rfl) T.v_DIGITS) (by rfl)))))) da_nil))))))
theorem sc_is_block : FnScope [(Str.ofString "value"), (Str.ofString "kind")] [(Str.ofString "value")] (defScope t_is_block) := ⟨rfl, rfl, rfl, by decide +kernel, rfl, by decide +kernel, by decide +kernel⟩
theorem ok_is_block (T : Txt K mg C ex a) : FnG P w K mg base 3 a.f_is_block a.d_is_block [(Str.ofString "value")] (spD K (M_is_block) 1) :=
  fnH T.F_is_block sc_is_block fun cdv A outer s H E c ds hl => have nd := sc_is_block.nd
    match ds, hl with
    | [a0], _ => dh_fin (st := [some (Sl.v a0), none]) (dh_ifr FM.nn (dw_pt (dw_or (dt_not (dt_b (de_callB (call_isiK T.kits) (by rfl) T.n_isinstance b_isinstance (da_cons (dv 0) (da_cons (de_bty (by rfl) T.n_tuple b_tuple) da_nil))))) (dw_or (dt_cmp (op_neK c.u) (de_callB call_lenK (by rfl) T.n_len b_len (da_cons (dv 0) da_nil)) de_int (by rfl)) (dw_or (dt_not (dt_b (de_callB (call_isiK T.kits) (by rfl) T.n_isinstance b_isinstance (da_cons (de_ix (dv 0) de_int) (da_cons (de_bty (by rfl) T.n_tuple b_tuple) da_nil))))) (dw_or1 (dt_cmp (op_eqK c.u) (de_callB call_lenK (by rfl) T.n_len b_len (da_cons (de_ix (dv 0) de_int) da_nil)) de_int (by rfl))))))) (dh_retFd de_bl) (dh_retF (de_and (de_callB (call_allK c.cm) (by rfl) T.n_all b_all (da_cons (de_lc (own := [(Str.ofString "kind", 1)]) c.cm nd (DI.toL (di_val (de_ix (dv 0) de_int))) (blk_ok (by kernel_rfl)) (fun _ _ _ _ _ => (dx_name 1 nd)) (fun _ _ _ _ _ => dts_nil) (fun _ _ _ _ _ => (de_fn (cal_fn (ok_is_name T) (c.rj (by decide)) c.gd (c.blk _ _ _ _ _).tk (bd_all rfl T.b_is_name)) T.k_is_name (by rfl) T.g_is_name (da_cons (dv 1) da_nil)))) da_nil)) (de_one (de_fn (cal_fn (ok_is_within T) (c.rj (by decide)) c.gd c.tk (bd_all rfl T.b_is_within)) T.k_is_within (by rfl) T.g_is_within (da_cons (de_ix (dv 0) de_int) (da_cons de_int (da_cons (de_gI (by rfl) T.v_MOST_THINGS) da_nil))))))))
theorem sc_check_blocks : FnScope [(Str.ofString "blocks"), (Str.ofString "at"), (Str.ofString "block")] [(Str.ofString "blocks")] (defScope t_check_blocks) := ⟨rfl, rfl, rfl, by decide +kernel, rfl, by decide +kernel, by decide +kernel⟩
theorem ok_check_blocks (T : Txt K mg C ex a) : FnG P w K mg base 4 a.f_check_blocks a.d_check_blocks [(Str.ofString "blocks")] (spD K (M_check_blocks ex) 1) :=
  fnH T.F_check_blocks sc_check_blocks fun cdv A outer s H E c ds hl => have nd := sc_check_blocks.nd
    match ds, hl with
    | [a0], _ => dh_fin (st := [some (Sl.v a0), none, none]) (dh_ifr FM.nn (dt_not (dt_b (de_callB (call_isiK T.kits) (by rfl) T.n_isinstance b_isinstance (da_cons (dv 0) (da_cons (de_bty (by rfl) T.n_tuple b_tuple) da_nil))))) (dh_raise T.ex_InvalidBlocks (ini_InvalidBlocks T) c (by decide) (by rfl) T.gx_InvalidBlocks de_non) (dh_for (slj := (fun (s4 : Unit) => [some (Sl.v a0), none, none])) (s0 := ()) c.po c.cm (di_enum (by rfl) T.n_enumerate (dv 0)) (gx_tup (n := 2) c.cm (gxs_cons (gx_name 1 nd) (gxs_cons (gx_name 2 nd) gxs_nil))) (fun d5 s4 S => (goes_t2 (fun e6 e7 => .to rfl (dh_ifT (dt_not (dt_b (de_fn (cal_fn (ok_is_block T) (c.rj (by decide)) c.gd c.tk (bd_all rfl T.b_is_block)) T.k_is_block (by rfl) T.g_is_block (da_cons (dv 2) da_nil)))) (dh_raise T.ex_InvalidBlocks (ini_InvalidBlocks T) c (by decide) (by rfl) T.gx_InvalidBlocks (dv 1)) (dh_nil (r := Step.nx) (s := ()) rfl (Sub.keep (Sub.drop (Sub.drop Sub.nil)))))))) (fun s11 => dh_nilF) (Sub.keep (Sub.drop (Sub.drop Sub.nil)))))
theorem sc_length_of : FnScope [(Str.ofString "blocks"), (Str.ofString "word"), (Str.ofString "times")] [(Str.ofString "blocks")] (defScope t_length_of) := ⟨rfl, rfl, rfl, by decide +kernel, rfl, by decide +kernel, by decide +kernel⟩
theorem ok_length_of (T : Txt K mg C ex a) : FnG P w K mg base 1 a.f_length_of a.d_length_of [(Str.ofString "blocks")] (spD K (M_length_of) 1) :=
  fnH T.F_length_of sc_length_of fun cdv A outer s H E c ds hl => have nd := sc_length_of.nd
    match ds, hl with
    | [a0], _ => dh_fin (st := [some (Sl.v a0), none, none]) (dh_retF (de_callB (call_sumK c.cm) (by rfl) T.n_sum b_sum (da_cons (de_lc (own := [(Str.ofString "word", 1), (Str.ofString "times", 2)]) c.cm nd (DI.toL (di_val (dv 0))) (blk_ok (by kernel_rfl)) (fun _ _ _ _ _ => (dx_tup (n := 2) c.cm (dxs_cons (dx_name 1 nd) (dxs_cons (dx_name 2 nd) dxs_nil)))) (fun _ _ _ _ _ => dts_nil) (fun _ _ _ _ _ => (de_op op_mulK (de_callB call_lenK (by rfl) T.n_len b_len (da_cons (dv 1) da_nil)) (dv 2)))) da_nil)))
theorem sc_size_of : FnScope [(Str.ofString "blocks")] [(Str.ofString "blocks")] (defScope t_size_of) := ⟨rfl, rfl, rfl, by decide +kernel, rfl, by decide +kernel, by decide +kernel⟩
theorem ok_size_of (T : Txt K mg C ex a) : FnG P w K mg base 5 a.f_size_of a.d_size_of [(Str.ofString "blocks")] (spD K (M_size_of ex) 1) :=
  fnH T.F_size_of sc_size_of fun cdv A outer s H E c ds hl => have nd := sc_size_of.nd
    match ds, hl with
    | [a0], _ => dh_fin (st := [some (Sl.v a0)]) (dh_expr (de_fn (cal_fn (ok_check_blocks T) (c.rj (by decide)) c.gd c.tk (bd_all rfl T.b_check_blocks)) T.k_check_blocks (by rfl) T.g_check_blocks (da_cons (dv 0) da_nil)) (fun _ => (dh_retF (de_fn (cal_fn (ok_length_of T) (c.rj (by decide)) c.gd c.tk (bd_all rfl T.b_length_of)) T.k_length_of (by rfl) T.g_length_of (da_cons (dv 0) da_nil)))))
theorem sc_kind_at : FnScope [(Str.ofString "blocks"), (Str.ofString "place"), (Str.ofString "word"), (Str.ofString "times")] [(Str.ofString "blocks"), (Str.ofString "place")] (defScope t_kind_at) := ⟨rfl, rfl, rfl, by decide +kernel, rfl, by decide +kernel, by decide +kernel⟩
theorem ok_kind_at (T : Txt K mg C ex a) : FnG P w K mg base 5 a.f_kind_at a.d_kind_at [(Str.ofString "blocks"), (Str.ofString "place")] (spD K (M_kind_at ex) 2) :=
  fnH T.F_kind_at sc_kind_at fun cdv A outer s H E c ds hl => have nd := sc_kind_at.nd
    match ds, hl with
    | [a0, a1], _ => dh_fin (st := [some (Sl.v a0), some (Sl.v a1), none, none]) (dh_expr (de_fn (cal_fn (ok_check_blocks T) (c.rj (by decide)) c.gd c.tk (bd_all rfl T.b_check_blocks)) T.k_check_blocks (by rfl) T.g_check_blocks (da_cons (dv 0) da_nil)) (fun _ => (dh_ifr FM.nn (dw_pt (dw_or (dt_not (dt_b (de_fn (cal_fn (ok_is_integer T) (c.rj (by decide)) c.gd c.tk (bd_all rfl T.b_is_integer)) T.k_is_integer (by rfl) T.g_is_integer (da_cons (dv 1) da_nil)))) (dw_or1 (dt_not (dt_chain op_leK op_ltK de_int (dv 1) (de_fn (cal_fn (ok_length_of T) (c.rj (by decide)) c.gd c.tk (bd_all rfl T.b_length_of)) T.k_length_of (by rfl) T.g_length_of (da_cons (dv 0) da_nil))))))) (dh_raise T.ex_InvalidNumber (ini_InvalidNumber T) c (by decide) (by rfl) T.gx_InvalidNumber (dv 1)) (dh_for (slj := (fun (s10 : D) => [some (Sl.v a0), some (Sl.v s10), none, none])) (s0 := a1) c.po c.cm (di_val (dv 0)) (gx_tup (n := 2) c.cm (gxs_cons (gx_name 2 nd) (gxs_cons (gx_name 3 nd) gxs_nil))) (fun d11 s10 S => (goes_t2 (fun e12 e13 => .to rfl (dh_if (slj := (fun (s21 : Unit) => [some (Sl.v a0), some (Sl.v s10), some (Sl.v e12), some (Sl.v e13)])) (dt_cmp op_ltK (dv 1) (de_op op_mulK (de_callB call_lenK (by rfl) T.n_len b_len (da_cons (dv 2) da_nil)) (dv 3)) (by rfl)) (dh_ret (r := Step.rt) (fun _ => rfl) (de_ix (dv 2) (de_op op_modK (dv 1) (de_callB call_lenK (by rfl) T.n_len b_len (da_cons (dv 2) da_nil))))) (dh_nil (r := Step.nx) (s := ()) rfl (Sub.keep (Sub.keep (Sub.keep (Sub.keep Sub.nil))))) (fun s21 => (dh_aug 1 nd ip_sub (de_op op_mulK (de_callB call_lenK (by rfl) T.n_len b_len (da_cons (dv 2) da_nil)) (dv 3)) (fun d25 => (dh_nil (r := Step.nx) (s := d25) rfl (Sub.keep (Sub.keep (Sub.drop (Sub.drop Sub.nil)))))))))))) (fun s26 => (dh_retF de_non)) (Sub.keep (Sub.keep (Sub.drop (Sub.drop Sub.nil))))))))
theorem sc_law_based : FnScope [(Str.ofString "_law_e"), (Str.ofString "_law_own"), (Str.ofString "_law_plain")] [(Str.ofString "_law_e")] (defScope t_law_based) := ⟨rfl, rfl, rfl, by decide +kernel, rfl, by decide +kernel, by decide +kernel⟩
theorem ok_law_based (T : Txt K mg C ex a) : FnQ P w K mg base 1 a.f_law_based a.d_law_based [(Str.ofString "_law_e")] (M_law_based ex) :=
  fnQ T.F_law_based sc_law_based fun cdv A outer s H E p cc ea edx hH c ks xs ds hl => have nd := sc_law_based.nd
    match ds, hl with
    | [], _ => dh_fin (st := [some (Sl.v (D.exn cc ea edx ks xs)), none, none]) (dh_ite (c := cc) (v := Value.ref ex.InvalidBlocks) (fun e => by
      subst e
      exact (have h0 := fun (g : List Str → List D → Store → Res D) (S : Store) (y1 : Option Sl) (y2 : Option Sl) => hotE_at (i := 0) (c := (Value.ref ex.InvalidBlocks)) (a := ea) (dx := edx) (g := g) (st := [some (Sl.v (D.exn (Value.ref ex.InvalidBlocks) ea edx ks xs)), y1, y2]) (S := S) (ks := ks) (xs := xs) rfl; (id (dh_eq (p := fun S => (((hotE 0 (Value.ref ex.InvalidBlocks) ea edx (fun _ _ S => Res.ok (D.bl true) S) [some (Sl.v (D.exn (Value.ref ex.InvalidBlocks) ea edx ks xs)), none, none] S).bind fun d4 S => ((hotE 0 (Value.ref ex.InvalidBlocks) ea edx (fun _ _ S => Res.ok (D.bl false) S) [some (Sl.v (D.exn (Value.ref ex.InvalidBlocks) ea edx ks xs)), none, none] S).bind fun d2 S => ((hotE 0 (Value.ref ex.InvalidBlocks) ea edx (fun _ _ S => Res.ok (D.bl false) S) [some (Sl.v (D.exn (Value.ref ex.InvalidBlocks) ea edx ks xs)), none, none] S).bind fun d1 S => Res.ok [d1] S).bind fun ds3 S => Res.ok (d2 :: ds3) S).bind fun ds5 S => Res.ok (d4 :: ds5) S).bind lstR).bind fun d6 S => (((hotE 0 (Value.ref ex.InvalidBlocks) ea edx (fun _ _ S => Res.ok (D.bl true) S) [some (Sl.v (D.exn (Value.ref ex.InvalidBlocks) ea edx ks xs)), some (Sl.v d6), none] S).bind fun d10 S => ((hotE 0 (Value.ref ex.InvalidBlocks) ea edx (fun _ _ S => Res.ok (D.bl false) S) [some (Sl.v (D.exn (Value.ref ex.InvalidBlocks) ea edx ks xs)), some (Sl.v d6), none] S).bind fun d8 S => ((hotE 0 (Value.ref ex.InvalidBlocks) ea edx (fun _ _ S => Res.ok (D.bl false) S) [some (Sl.v (D.exn (Value.ref ex.InvalidBlocks) ea edx ks xs)), some (Sl.v d6), none] S).bind fun d7 S => Res.ok [d7] S).bind fun ds9 S => Res.ok (d8 :: ds9) S).bind fun ds11 S => Res.ok (d10 :: ds11) S).bind lstR).bind fun d12 S => (Res.of (gEq d6 d12 S) S).bind fun k13 S => chR k13 S fun S => Res.of (gEq d12 (D.lst [(D.bl true), (D.bl false), (D.bl false)]) S) S) (p' := fun S => (((Res.ok (D.bl true) S).bind fun d4 S => ((Res.ok (D.bl false) S).bind fun d2 S => ((Res.ok (D.bl false) S).bind fun d1 S => Res.ok [d1] S).bind fun ds3 S => Res.ok (d2 :: ds3) S).bind fun ds5 S => Res.ok (d4 :: ds5) S).bind lstR).bind fun d6 S => (((Res.ok (D.bl true) S).bind fun d10 S => ((Res.ok (D.bl false) S).bind fun d8 S => ((Res.ok (D.bl false) S).bind fun d7 S => Res.ok [d7] S).bind fun ds9 S => Res.ok (d8 :: ds9) S).bind fun ds11 S => Res.ok (d10 :: ds11) S).bind lstR).bind fun d12 S => (Res.of (gEq d6 d12 S) S).bind fun k13 S => chR k13 S fun S => Res.of (gEq d12 (D.lst [(D.bl true), (D.bl false), (D.bl false)]) S) S) (funext fun S => by simp only [h0]) (dh_fin (dh_set (i := 1) nd (de_lst (da_cons (de_isH 0 hH T.is_InvalidBlocks T.kb_InvalidBlocks_WrongValue (pe_glob (v := .ref T.A_WrongValue) (by rfl) T.gk_WrongValue rfl) (fun _ r => r) (by rfl) T.n_isinstance) (da_cons (de_isH 0 hH T.is_InvalidBlocks T.kb_InvalidBlocks_WrongName (pe_glob (v := .ref T.A_WrongName) (by rfl) T.gk_WrongName rfl) (fun _ r => r) (by rfl) T.n_isinstance) (da_cons (de_isH 0 hH T.is_InvalidBlocks T.kb_InvalidBlocks_NoAnswer (pe_glob (v := .ref T.A_NoAnswer) (by rfl) T.gk_NoAnswer rfl) (fun _ r => r) (by rfl) T.n_isinstance) da_nil)))) (fun d6 => (dh_set (i := 2) nd (de_lst (da_cons (de_isH 0 hH T.is_InvalidBlocks T.kb_InvalidBlocks_ValueError (pe_bty (by rfl) T.n_ValueError b_ValueError) (fun _ r => r) (by rfl) T.n_isinstance) (da_cons (de_isH 0 hH T.is_InvalidBlocks T.kb_InvalidBlocks_LookupError (pe_bty (by rfl) T.n_LookupError b_LookupError) (fun _ r => r) (by rfl) T.n_isinstance) (da_cons (de_isH 0 hH T.is_InvalidBlocks T.kb_InvalidBlocks_ArithmeticError (pe_bty (by rfl) T.n_ArithmeticError b_ArithmeticError) (fun _ r => r) (by rfl) T.n_isinstance) da_nil)))) (fun d12 => (dh_retF (de_chain (op_eqK c.u) (op_eqK c.u) (dv 1) (dv 2) (de_lst (da_cons de_bl (da_cons de_bl (da_cons de_bl da_nil))))))))))))))) (fun _ => (dh_ite (c := cc) (v := Value.ref ex.InvalidNumber) (fun e => by
      subst e
      exact (have h0 := fun (g : List Str → List D → Store → Res D) (S : Store) (y1 : Option Sl) (y2 : Option Sl) => hotE_at (i := 0) (c := (Value.ref ex.InvalidNumber)) (a := ea) (dx := edx) (g := g) (st := [some (Sl.v (D.exn (Value.ref ex.InvalidNumber) ea edx ks xs)), y1, y2]) (S := S) (ks := ks) (xs := xs) rfl; (id (dh_eq (p := fun S => (((hotE 0 (Value.ref ex.InvalidNumber) ea edx (fun _ _ S => Res.ok (D.bl true) S) [some (Sl.v (D.exn (Value.ref ex.InvalidNumber) ea edx ks xs)), none, none] S).bind fun d4 S => ((hotE 0 (Value.ref ex.InvalidNumber) ea edx (fun _ _ S => Res.ok (D.bl false) S) [some (Sl.v (D.exn (Value.ref ex.InvalidNumber) ea edx ks xs)), none, none] S).bind fun d2 S => ((hotE 0 (Value.ref ex.InvalidNumber) ea edx (fun _ _ S => Res.ok (D.bl false) S) [some (Sl.v (D.exn (Value.ref ex.InvalidNumber) ea edx ks xs)), none, none] S).bind fun d1 S => Res.ok [d1] S).bind fun ds3 S => Res.ok (d2 :: ds3) S).bind fun ds5 S => Res.ok (d4 :: ds5) S).bind lstR).bind fun d6 S => (((hotE 0 (Value.ref ex.InvalidNumber) ea edx (fun _ _ S => Res.ok (D.bl true) S) [some (Sl.v (D.exn (Value.ref ex.InvalidNumber) ea edx ks xs)), some (Sl.v d6), none] S).bind fun d10 S => ((hotE 0 (Value.ref ex.InvalidNumber) ea edx (fun _ _ S => Res.ok (D.bl false) S) [some (Sl.v (D.exn (Value.ref ex.InvalidNumber) ea edx ks xs)), some (Sl.v d6), none] S).bind fun d8 S => ((hotE 0 (Value.ref ex.InvalidNumber) ea edx (fun _ _ S => Res.ok (D.bl false) S) [some (Sl.v (D.exn (Value.ref ex.InvalidNumber) ea edx ks xs)), some (Sl.v d6), none] S).bind fun d7 S => Res.ok [d7] S).bind fun ds9 S => Res.ok (d8 :: ds9) S).bind fun ds11 S => Res.ok (d10 :: ds11) S).bind lstR).bind fun d12 S => (Res.of (gEq d6 d12 S) S).bind fun k13 S => chR k13 S fun S => Res.of (gEq d12 (D.lst [(D.bl true), (D.bl false), (D.bl false)]) S) S) (p' := fun S => (((Res.ok (D.bl true) S).bind fun d4 S => ((Res.ok (D.bl false) S).bind fun d2 S => ((Res.ok (D.bl false) S).bind fun d1 S => Res.ok [d1] S).bind fun ds3 S => Res.ok (d2 :: ds3) S).bind fun ds5 S => Res.ok (d4 :: ds5) S).bind lstR).bind fun d6 S => (((Res.ok (D.bl true) S).bind fun d10 S => ((Res.ok (D.bl false) S).bind fun d8 S => ((Res.ok (D.bl false) S).bind fun d7 S => Res.ok [d7] S).bind fun ds9 S => Res.ok (d8 :: ds9) S).bind fun ds11 S => Res.ok (d10 :: ds11) S).bind lstR).bind fun d12 S => (Res.of (gEq d6 d12 S) S).bind fun k13 S => chR k13 S fun S => Res.of (gEq d12 (D.lst [(D.bl true), (D.bl false), (D.bl false)]) S) S) (funext fun S => by simp only [h0]) (dh_fin (dh_set (i := 1) nd (de_lst (da_cons (de_isH 0 hH T.is_InvalidNumber T.kb_InvalidNumber_WrongValue (pe_glob (v := .ref T.A_WrongValue) (by rfl) T.gk_WrongValue rfl) (fun _ r => r) (by rfl) T.n_isinstance) (da_cons (de_isH 0 hH T.is_InvalidNumber T.kb_InvalidNumber_WrongName (pe_glob (v := .ref T.A_WrongName) (by rfl) T.gk_WrongName rfl) (fun _ r => r) (by rfl) T.n_isinstance) (da_cons (de_isH 0 hH T.is_InvalidNumber T.kb_InvalidNumber_NoAnswer (pe_glob (v := .ref T.A_NoAnswer) (by rfl) T.gk_NoAnswer rfl) (fun _ r => r) (by rfl) T.n_isinstance) da_nil)))) (fun d6 => (dh_set (i := 2) nd (de_lst (da_cons (de_isH 0 hH T.is_InvalidNumber T.kb_InvalidNumber_ValueError (pe_bty (by rfl) T.n_ValueError b_ValueError) (fun _ r => r) (by rfl) T.n_isinstance) (da_cons (de_isH 0 hH T.is_InvalidNumber T.kb_InvalidNumber_LookupError (pe_bty (by rfl) T.n_LookupError b_LookupError) (fun _ r => r) (by rfl) T.n_isinstance) (da_cons (de_isH 0 hH T.is_InvalidNumber T.kb_InvalidNumber_ArithmeticError (pe_bty (by rfl) T.n_ArithmeticError b_ArithmeticError) (fun _ r => r) (by rfl) T.n_isinstance) da_nil)))) (fun d12 => (dh_retF (de_chain (op_eqK c.u) (op_eqK c.u) (dv 1) (dv 2) (de_lst (da_cons de_bl (da_cons de_bl (da_cons de_bl da_nil))))))))))))))) (fun _ => dh_never))))
theorem sc_law_told : FnScope [(Str.ofString "_law_form"), (Str.ofString "_law_row_here"), (Str.ofString "_law_where"), (Str.ofString "_law_found"), (Str.ofString "_law_e")] [(Str.ofString "_law_form"), (Str.ofString "_law_row_here"), (Str.ofString "_law_where")] (defScope t_law_told) := ⟨rfl, rfl, rfl, by decide +kernel, rfl, by decide +kernel, by decide +kernel⟩
theorem ok_law_told (T : Txt K mg C ex a) : FnG P w K mg base 6 a.f_law_told a.d_law_told [(Str.ofString "_law_form"), (Str.ofString "_law_row_here"), (Str.ofString "_law_where")] (spD K (M_law_told ex) 3) :=
  fnH T.F_law_told sc_law_told fun cdv A outer s H E c ds hl => have nd := sc_law_told.nd
    match ds, hl with
    | [a0, a1, a2], _ => dh_fin (st := [some (Sl.v a0), some (Sl.v a1), some (Sl.v a2), none, none]) (dh_try (i := 4) (se := [some (Sl.v a0), some (Sl.v a1), some (Sl.v a2), none, none]) (slj := (fun (s34 : D) => [some (Sl.v a0), some (Sl.v a1), some (Sl.v a2), some (Sl.v s34), none])) c rfl rfl nd (fun W pn xe c => (dh_ifT (dt_cmp (op_eqK c.u) (dv 0) de_int (by rfl)) (dh_set (i := 3) nd (de_tup (da_cons de_str (da_cons (de_callB (call_reprE c.gd c.u) (by rfl) T.n_repr b_repr (da_cons (de_fn (cal_fn (ok_size_of T) (c.rj (by decide)) c.gd c.tk (bd_all rfl T.b_size_of)) T.k_size_of (by rfl) T.g_size_of (da_cons (dv 1) da_nil)) da_nil)) da_nil))) (fun d7 => (dh_nil (r := Step.nx) (s := d7) rfl (Sub.keep (Sub.keep (Sub.keep (Sub.keep (Sub.drop Sub.nil))))))) (hse := .inr (Sub.keep (Sub.keep (Sub.keep (Sub.drop (Sub.drop Sub.nil))))))) (dh_ifT (dt_cmp (op_eqK c.u) (dv 0) de_int (by rfl)) (dh_set (i := 3) nd (de_tup (da_cons de_str (da_cons (de_callB (call_reprE c.gd c.u) (by rfl) T.n_repr b_repr (da_cons (de_fn (cal_fn (ok_kind_at T) (c.rj (by decide)) c.gd c.tk (bd_all rfl T.b_kind_at)) T.k_kind_at (by rfl) T.g_kind_at (da_cons (dv 1) (da_cons (dv 2) da_nil))) da_nil)) da_nil))) (fun d14 => (dh_nil (r := Step.nx) (s := d14) rfl (Sub.keep (Sub.keep (Sub.keep (Sub.keep (Sub.drop Sub.nil))))))) (hse := .inr (Sub.keep (Sub.keep (Sub.keep (Sub.drop (Sub.drop Sub.nil))))))) (dh_set (i := 3) nd (de_tup (da_cons de_str (da_cons (de_callB (call_reprE c.gd c.u) (by rfl) T.n_repr b_repr (da_cons (de_fnK0 (cal_fn (ok_kind_at T) (c.rj (by decide)) c.gd c.tk T.bd_kind_at_0_place_blocks) T.k_kind_at (by rfl) T.g_kind_at (dk_cons (dv 2) (dk_cons (dv 1) dk_nil))) da_nil)) da_nil))) (fun d19 => (dh_nil (r := Step.nx) (s := d19) rfl (Sub.keep (Sub.keep (Sub.keep (Sub.keep (Sub.drop Sub.nil))))))) (hse := .inr (Sub.keep (Sub.keep (Sub.keep (Sub.drop (Sub.drop Sub.nil))))))) (hse := .inr (Sub.keep (Sub.keep (Sub.keep (Sub.drop (Sub.drop Sub.nil))))))) (hse := .inr (Sub.keep (Sub.keep (Sub.keep (Sub.drop (Sub.drop Sub.nil)))))))) (cat_cons ⟨by rfl, by decide, .inl T.gx_InvalidBlocks⟩ T.em_InvalidBlocks (List.forall_mem_cons.mpr ⟨fun _ => T.en_InvalidNumber_InvalidBlocks, (fun _ z => absurd z List.not_mem_nil)⟩) (fun ea edx oe pn ks xs hH => (have h0 := fun (g : List Str → List D → Store → Res D) (S : Store) (y0 : Option Sl) (y1 : Option Sl) (y2 : Option Sl) (y3 : Option Sl) => hotE_at (i := 4) (c := (Value.ref ex.InvalidBlocks)) (a := ea) (dx := edx) (g := g) (st := [y0, y1, y2, y3, some (Sl.v (D.exn (Value.ref ex.InvalidBlocks) ea edx ks xs))]) (S := S) (ks := ks) (xs := xs) rfl; (dh_noErr (dh_eq (p := fun S => (((hotE 4 (Value.ref ex.InvalidBlocks) ea edx (fun ks xs S => M_law_based ex [D.exn (Value.ref ex.InvalidBlocks) ea edx ks xs] S) [some (Sl.v a0), some (Sl.v a1), some (Sl.v a2), none, some (Sl.v (D.exn (Value.ref ex.InvalidBlocks) ea edx ks xs))] S).bind fun d27 S => Res.of (asB d27) S).bind fun k28 S => if k28 then (((((hotE 4 (Value.ref ex.InvalidBlocks) ea edx (xfR (Str.ofString "index")) [some (Sl.v a0), some (Sl.v a1), some (Sl.v a2), none, some (Sl.v (D.exn (Value.ref ex.InvalidBlocks) ea edx ks xs))] S).bind fun d29 S => Res.ok [d29] S).bind fun ds30 S => Res.of2 ((g1 gReprE) ds30 S)).bind fun d31 S => Res.ok [d31] S).bind fun ds32 S => Res.ok ((D.str (Str.ofString "blocks")) :: ds32) S).bind tupR else Res.ok (D.tup [(D.str (Str.ofString "odd")), (D.str (Str.ofString ""))]) S).bind fun d33 S => Res.ok (Step.nx d33) S) (p' := fun S => (((P_law_based ex (Value.ref ex.InvalidBlocks) ks xs S).bind fun d27 S => Res.of (asB d27) S).bind fun k28 S => if k28 then (((((xfR (Str.ofString "index") ks xs S).bind fun d29 S => Res.ok [d29] S).bind fun ds30 S => Res.of2 ((g1 gReprE) ds30 S)).bind fun d31 S => Res.ok [d31] S).bind fun ds32 S => Res.ok ((D.str (Str.ofString "blocks")) :: ds32) S).bind tupR else Res.ok (D.tup [(D.str (Str.ofString "odd")), (D.str (Str.ofString ""))]) S).bind fun d33 S => Res.ok (Step.nx d33) S) (funext fun S => by simp only [h0, ev_law_based]) (dh_fin (dh_set (i := 3) nd (de_if (dt_b (de_fnQ 4 hH (ok_law_based T) ⟨(c.hot ea _).rj (by decide), c.gd⟩ takes_none5 T.b_law_based T.k_law_based (by rfl) T.g_law_based)) (de_tup (da_cons de_str (da_cons (de_callB (call_reprE c.gd c.u) (by rfl) T.n_repr b_repr (da_cons (de_xf 4 hH T.ex_InvalidBlocks.x T.ex_InvalidBlocks.no) da_nil)) da_nil))) (de_tup (da_cons de_str (da_cons de_str da_nil)))) (fun d33 => (dh_nil (r := Step.nx) (s := d33) rfl (Sub.keep (Sub.keep (Sub.keep (Sub.keep (Sub.drop Sub.nil))))))))))))) (fun _ => rfl) (fun s => by first | rfl | cases s) (cat_cons ⟨by rfl, by decide, .inl T.gx_InvalidNumber⟩ T.em_InvalidNumber (fun _ z => absurd z List.not_mem_nil) (fun ea edx oe pn ks xs hH => (have h0 := fun (g : List Str → List D → Store → Res D) (S : Store) (y0 : Option Sl) (y1 : Option Sl) (y2 : Option Sl) (y3 : Option Sl) => hotE_at (i := 4) (c := (Value.ref ex.InvalidNumber)) (a := ea) (dx := edx) (g := g) (st := [y0, y1, y2, y3, some (Sl.v (D.exn (Value.ref ex.InvalidNumber) ea edx ks xs))]) (S := S) (ks := ks) (xs := xs) rfl; (dh_noErr (dh_eq (p := fun S => (((hotE 4 (Value.ref ex.InvalidNumber) ea edx (fun ks xs S => M_law_based ex [D.exn (Value.ref ex.InvalidNumber) ea edx ks xs] S) [some (Sl.v a0), some (Sl.v a1), some (Sl.v a2), none, some (Sl.v (D.exn (Value.ref ex.InvalidNumber) ea edx ks xs))] S).bind fun d20 S => Res.of (asB d20) S).bind fun k21 S => if k21 then (((((hotE 4 (Value.ref ex.InvalidNumber) ea edx (xfR (Str.ofString "given")) [some (Sl.v a0), some (Sl.v a1), some (Sl.v a2), none, some (Sl.v (D.exn (Value.ref ex.InvalidNumber) ea edx ks xs))] S).bind fun d22 S => Res.ok [d22] S).bind fun ds23 S => Res.of2 ((g1 gReprE) ds23 S)).bind fun d24 S => Res.ok [d24] S).bind fun ds25 S => Res.ok ((D.str (Str.ofString "number")) :: ds25) S).bind tupR else Res.ok (D.tup [(D.str (Str.ofString "odd")), (D.str (Str.ofString ""))]) S).bind fun d26 S => Res.ok (Step.nx d26) S) (p' := fun S => (((P_law_based ex (Value.ref ex.InvalidNumber) ks xs S).bind fun d20 S => Res.of (asB d20) S).bind fun k21 S => if k21 then (((((xfR (Str.ofString "given") ks xs S).bind fun d22 S => Res.ok [d22] S).bind fun ds23 S => Res.of2 ((g1 gReprE) ds23 S)).bind fun d24 S => Res.ok [d24] S).bind fun ds25 S => Res.ok ((D.str (Str.ofString "number")) :: ds25) S).bind tupR else Res.ok (D.tup [(D.str (Str.ofString "odd")), (D.str (Str.ofString ""))]) S).bind fun d26 S => Res.ok (Step.nx d26) S) (funext fun S => by simp only [h0, ev_law_based]) (dh_fin (dh_set (i := 3) nd (de_if (dt_b (de_fnQ 4 hH (ok_law_based T) ⟨(c.hot ea _).rj (by decide), c.gd⟩ takes_none5 T.b_law_based T.k_law_based (by rfl) T.g_law_based)) (de_tup (da_cons de_str (da_cons (de_callB (call_reprE c.gd c.u) (by rfl) T.n_repr b_repr (da_cons (de_xf 4 hH T.ex_InvalidNumber.x T.ex_InvalidNumber.no) da_nil)) da_nil))) (de_tup (da_cons de_str (da_cons de_str da_nil)))) (fun d26 => (dh_nil (r := Step.nx) (s := d26) rfl (Sub.keep (Sub.keep (Sub.keep (Sub.keep (Sub.drop Sub.nil))))))))))))) (fun _ => rfl) (fun s => by first | rfl | cases s) (cat_nil (.inl rfl)))) (fun s34 => (dh_retF (dv 3))))
theorem sc_law_right_places : FnScope [(Str.ofString "_law_well_here"), (Str.ofString "_law_row_here"), (Str.ofString "_law_start"), (Str.ofString "_law_word"), (Str.ofString "_law_times"), (Str.ofString "_law_most"), (Str.ofString "_law_spots"), (Str.ofString "_law_spot"), (Str.ofString "_law_due")] [(Str.ofString "_law_well_here"), (Str.ofString "_law_row_here")] (defScope t_law_right_places) := ⟨rfl, rfl, rfl, by decide +kernel, rfl, by decide +kernel, by decide +kernel⟩
theorem ok_law_right_places (T : Txt K mg C ex a) : FnG P w K mg base 7 a.f_law_right_places a.d_law_right_places [(Str.ofString "_law_well_here"), (Str.ofString "_law_row_here")] (spD K (M_law_right_places ex) 2) :=
  fnH T.F_law_right_places sc_law_right_places fun cdv A outer s H E c ds hl => have nd := sc_law_right_places.nd
    match ds, hl with
    | [a0, a1], _ => dh_fin (st := [some (Sl.v a0), some (Sl.v a1), none, none, none, none, none, none, none]) (dh_set (i := 2) nd de_int (fun d1 => (dh_for (slj := (fun (s2 : D) => [some (Sl.v a0), some (Sl.v a1), some (Sl.v s2), none, none, none, none, none, none])) (s0 := d1) c.po c.cm (di_val (dv 1)) (gx_tup (n := 2) c.cm (gxs_cons (gx_name 3 nd) (gxs_cons (gx_name 4 nd) gxs_nil))) (fun d3 s2 S => (goes_t2 (fun e4 e5 => .to rfl (dh_set (i := 5) nd (de_op op_mulK (de_callB call_lenK (by rfl) T.n_len b_len (da_cons (dv 3) da_nil)) (dv 4)) (fun d7 => (dh_set (i := 6) nd (de_lst (da_cons de_int (da_cons (de_op op_subK (de_callB call_lenK (by rfl) T.n_len b_len (da_cons (dv 3) da_nil)) de_int) (da_cons (de_op op_subK (dv 5) de_int) (da_cons (de_callB (call_minK c.cm) (by rfl) T.n_min b_min (da_cons (de_op op_subK (dv 5) de_int) (da_cons (de_callB call_lenK (by rfl) T.n_len b_len (da_cons (dv 3) da_nil)) da_nil))) (da_cons (de_op op_divK (de_op op_mulK (dv 5) (de_fn (cal_fn (ok_law_dip T) (c.rj (by decide)) c.gd c.tk (bd_all rfl T.b_law_dip)) T.k_law_dip (by rfl) T.g_law_dip (da_cons (dv 0) (da_cons de_int da_nil)))) de_int) da_nil)))))) (fun d23 => (dh_for (slj := (fun (s24 : Unit) => [some (Sl.v a0), some (Sl.v a1), some (Sl.v s2), some (Sl.v e4), some (Sl.v e5), some (Sl.v d7), some (Sl.v d23), none, none])) (s0 := ()) c.po c.cm (di_val (dv 6)) (gx_name 7 nd) (fun d25 s24 S => (goes_n (dh_set (i := 8) nd (de_tup (da_cons de_str (da_cons (de_callB (call_reprE c.gd c.u) (by rfl) T.n_repr b_repr (da_cons (de_ix (dv 3) (de_op op_modK (de_callT call_intK (by rfl) T.n_int b_int (da_cons (dv 7) da_nil)) (de_callB call_lenK (by rfl) T.n_len b_len (da_cons (dv 3) da_nil)))) da_nil)) da_nil))) (fun d33 => (dh_ifT (dt_cmp (op_neK c.u) (de_fn (cal_fn (ok_law_told T) (c.rj (by decide)) c.gd c.tk (bd_all rfl T.b_law_told)) T.k_law_told (by rfl) T.g_law_told (da_cons (de_op op_addK de_int (de_fn (cal_fn (ok_law_dip T) (c.rj (by decide)) c.gd c.tk (bd_all rfl T.b_law_dip)) T.k_law_dip (by rfl) T.g_law_dip (da_cons (dv 0) (da_cons de_int da_nil)))) (da_cons (de_callT call_tupleK (by rfl) T.n_tuple b_tuple (da_cons (dv 1) da_nil)) (da_cons (de_op op_addK (dv 2) (dv 7)) da_nil)))) (dv 8) (by rfl)) (dh_ret (r := Step.rt) (fun _ => rfl) de_bl) (dh_nil (r := Step.nx) (s := ()) rfl (Sub.keep (Sub.keep (Sub.keep (Sub.keep (Sub.keep (Sub.keep (Sub.keep (Sub.drop (Sub.drop Sub.nil))))))))))))))) (fun s45 => (dh_set (i := 2) nd (de_op op_addK (dv 2) (dv 5)) (fun d46 => (dh_nil (r := Step.nx) (s := d46) rfl (Sub.keep (Sub.keep (Sub.keep (Sub.drop (Sub.drop (Sub.drop (Sub.drop (Sub.drop (Sub.drop Sub.nil))))))))))))) (Sub.keep (Sub.keep (Sub.keep (Sub.keep (Sub.keep (Sub.keep (Sub.keep (Sub.drop (Sub.drop Sub.nil))))))))))))))))) (fun s48 => (dh_retF (dv 2))) (Sub.keep (Sub.keep (Sub.keep (Sub.drop (Sub.drop (Sub.drop (Sub.drop (Sub.drop (Sub.drop Sub.nil))))))))))))
theorem sc_law_right : FnScope [(Str.ofString "_law_well_here"), (Str.ofString "_law_turn"), (Str.ofString "_law_row_here"), (Str.ofString "_law_whole"), (Str.ofString "_law_where"), (Str.ofString "_law_at"), (Str.ofString "_law_word"), (Str.ofString "_law_times"), (Str.ofString "_law_odd"), (Str.ofString "_law_bent")] [(Str.ofString "_law_well_here")] (defScope t_law_right) := ⟨rfl, rfl, rfl, by decide +kernel, rfl, by decide +kernel, by decide +kernel⟩
theorem ok_law_right (T : Txt K mg C ex a) : FnG P w K mg base 8 a.f_law_right a.d_law_right [(Str.ofString "_law_well_here")] (spD K (M_law_right ex) 1) :=
  fnH T.F_law_right sc_law_right fun cdv A outer s H E c ds hl => have nd := sc_law_right.nd
    match ds, hl with
    | [a0], _ => dh_fin (st := [some (Sl.v a0), none, none, none, none, none, none, none, none, none]) (dh_for (slj := (fun (s1 : Unit) => [some (Sl.v a0), none, none, none, none, none, none, none, none, none])) (s0 := ()) c.po c.cm (di_range1 (by rfl) T.n_range de_int) (gx_name 1 nd) (fun d2 s1 S => (goes_n (dh_set (i := 2) nd (de_fn (cal_fn (ok_law_row T) (c.rj (by decide)) c.gd c.tk (bd_all rfl T.b_law_row)) T.k_law_row (by rfl) T.g_law_row (da_cons (dv 0) da_nil)) (fun d3 => (dh_set (i := 3) nd (de_fn (cal_fn (ok_law_right_places T) (c.rj (by decide)) c.gd c.tk (bd_all rfl T.b_law_right_places)) T.k_law_right_places (by rfl) T.g_law_right_places (da_cons (dv 0) (da_cons (dv 2) da_nil))) (fun d4 => (dh_if (slj := (fun (s17 : Unit) => [some (Sl.v a0), some (Sl.v d2), some (Sl.v d3), some (Sl.v d4), none, none, none, none, none, none])) (dw_pt (dw_or (dt_cmp op_isBK (dv 3) de_bl (by rfl)) (dw_or1 (dt_cmp (op_neK c.u) (de_fn (cal_fn (ok_law_told T) (c.rj (by decide)) c.gd c.tk (bd_all rfl T.b_law_told)) T.k_law_told (by rfl) T.g_law_told (da_cons de_int (da_cons (de_callT call_tupleK (by rfl) T.n_tuple b_tuple (da_cons (dv 2) da_nil)) (da_cons de_int da_nil)))) (de_tup (da_cons de_str (da_cons (de_callB (call_reprE c.gd c.u) (by rfl) T.n_repr b_repr (da_cons (dv 3) da_nil)) da_nil))) (by rfl))))) (dh_ret (r := Step.rt) (fun _ => rfl) de_bl) (dh_nil (r := Step.nx) (s := ()) rfl (Sub.keep (Sub.keep (Sub.keep (Sub.keep (Sub.drop (Sub.drop (Sub.drop (Sub.drop (Sub.drop (Sub.drop Sub.nil))))))))))) (fun s17 => (dh_for (slj := (fun (s21 : Unit) => [some (Sl.v a0), some (Sl.v d2), some (Sl.v d3), some (Sl.v d4), none, none, none, none, none, none])) (s0 := ()) c.po c.cm (di_val (de_lst (da_cons (de_neg de_int) (da_cons (dv 3) (da_cons (de_op op_addK (dv 3) de_int) (da_cons de_non (da_cons de_bl (da_cons de_str (da_cons (de_tup (da_cons de_int da_nil)) (da_cons (de_lst da_nil) (da_cons de_dct0 da_nil))))))))))) (gx_name 4 nd) (fun d22 s21 S => (goes_n (dh_ifT (dt_cmp (op_neK c.u) (de_fn (cal_fn (ok_law_told T) (c.rj (by decide)) c.gd c.tk (bd_all rfl T.b_law_told)) T.k_law_told (by rfl) T.g_law_told (da_cons de_int (da_cons (de_callT call_tupleK (by rfl) T.n_tuple b_tuple (da_cons (dv 2) da_nil)) (da_cons (dv 4) da_nil)))) (de_tup (da_cons de_str (da_cons (de_callB (call_reprE c.gd c.u) (by rfl) T.n_repr b_repr (da_cons (dv 4) da_nil)) da_nil))) (by rfl)) (dh_ret (r := Step.rt) (fun _ => rfl) de_bl) (dh_nil (r := Step.nx) (s := ()) rfl (Sub.keep (Sub.keep (Sub.keep (Sub.keep (Sub.drop (Sub.drop (Sub.drop (Sub.drop (Sub.drop (Sub.drop Sub.nil)))))))))))))) (fun s33 => (dh_asg (de_tup (da_cons (de_fn (cal_fn (ok_law_dip T) (c.rj (by decide)) c.gd c.tk (bd_all rfl T.b_law_dip)) T.k_law_dip (by rfl) T.g_law_dip (da_cons (dv 0) (da_cons (de_callB call_lenK (by rfl) T.n_len b_len (da_cons (dv 2) da_nil)) da_nil))) (da_cons (de_ix (dv 2) de_int) da_nil))) (gx_tup (n := 2) c.cm (gxs_cons (gx_name 5 nd) (gxs_cons (gx_tup (n := 2) c.cm (gxs_cons (gx_name 6 nd) (gxs_cons (gx_name 7 nd) gxs_nil))) gxs_nil))) (fun d40 _ => (goes_t2 (fun e41 e42 => goes_b2 (fun e43 e44 => .to rfl (dh_set (i := 8) nd (de_lst (da_cons de_non (da_cons de_int (da_cons (de_tup da_nil) (da_cons (dv 6) (da_cons (de_tup (da_cons (dv 6) da_nil)) (da_cons (de_tup (da_cons (dv 6) (da_cons de_int da_nil))) (da_cons (de_tup (da_cons (dv 6) (da_cons de_bl da_nil))) (da_cons (de_tup (da_cons (dv 6) (da_cons (de_op op_addK (de_op op_powK de_int de_int) de_int) da_nil))) (da_cons (de_tup (da_cons (de_callT call_listK (by rfl) T.n_list b_list (da_cons (dv 6) da_nil)) (da_cons de_int da_nil))) (da_cons (de_tup (da_cons (de_tup da_nil) (da_cons de_int da_nil))) da_nil))))))))))) (fun d59 => (dh_set (i := 8) nd (de_op op_addK (dv 8) (de_lst (da_cons (de_tup (da_cons (dv 6) (da_cons (dv 7) (da_cons de_int da_nil)))) (da_cons (de_lst (da_cons (dv 6) (da_cons (dv 7) da_nil))) (da_cons (de_tup (da_cons (de_tup (da_cons de_str da_nil)) (da_cons de_int da_nil))) (da_cons (de_tup (da_cons (de_tup (da_cons (dv 6) da_nil)) (da_cons de_int da_nil))) (da_cons (de_tup (da_cons de_str (da_cons de_int da_nil))) (da_cons (de_tup (da_cons (de_op op_addK (dv 6) (de_tup (da_cons de_non da_nil))) (da_cons de_int da_nil))) da_nil)))))))) (fun d68 => (dh_set (i := 9) nd (de_op op_addK (de_op op_addK (de_sl (dv 2) .none (.some (dv 5))) (de_lst (da_cons (de_ix (dv 8) (de_fn (cal_fn (ok_law_dip T) (c.rj (by decide)) c.gd c.tk (bd_all rfl T.b_law_dip)) T.k_law_dip (by rfl) T.g_law_dip (da_cons (dv 0) (da_cons de_int da_nil)))) da_nil))) (de_sl (dv 2) (.some (de_op op_addK (dv 5) de_int)) .none)) (fun d77 => (dh_if (slj := (fun (s89 : Unit) => [some (Sl.v a0), some (Sl.v d2), some (Sl.v d3), some (Sl.v d4), none, some (Sl.v e41), some (Sl.v e43), some (Sl.v e44), some (Sl.v d68), some (Sl.v d77)])) (dt_cmp (op_neK c.u) (de_fn (cal_fn (ok_law_told T) (c.rj (by decide)) c.gd c.tk (bd_all rfl T.b_law_told)) T.k_law_told (by rfl) T.g_law_told (da_cons (de_fn (cal_fn (ok_law_dip T) (c.rj (by decide)) c.gd c.tk (bd_all rfl T.b_law_dip)) T.k_law_dip (by rfl) T.g_law_dip (da_cons (dv 0) (da_cons de_int da_nil))) (da_cons (de_callT call_tupleK (by rfl) T.n_tuple b_tuple (da_cons (dv 9) da_nil)) (da_cons de_int da_nil)))) (de_tup (da_cons de_str (da_cons (de_callB (call_reprE c.gd c.u) (by rfl) T.n_repr b_repr (da_cons (dv 5) da_nil)) da_nil))) (by rfl)) (dh_ret (r := Step.rt) (fun _ => rfl) de_bl) (dh_nil (r := Step.nx) (s := ()) rfl (Sub.keep (Sub.keep (Sub.keep (Sub.keep (Sub.drop (Sub.keep (Sub.keep (Sub.keep (Sub.keep (Sub.keep Sub.nil))))))))))) (fun s89 => (dh_ifT (dt_cmp (op_neK c.u) (de_fn (cal_fn (ok_law_told T) (c.rj (by decide)) c.gd c.tk (bd_all rfl T.b_law_told)) T.k_law_told (by rfl) T.g_law_told (da_cons (de_fn (cal_fn (ok_law_dip T) (c.rj (by decide)) c.gd c.tk (bd_all rfl T.b_law_dip)) T.k_law_dip (by rfl) T.g_law_dip (da_cons (dv 0) (da_cons de_int da_nil))) (da_cons (de_ix (de_lst (da_cons (dv 2) (da_cons de_non (da_cons de_int (da_cons de_str (da_cons de_dct0 da_nil)))))) (de_fn (cal_fn (ok_law_dip T) (c.rj (by decide)) c.gd c.tk (bd_all rfl T.b_law_dip)) T.k_law_dip (by rfl) T.g_law_dip (da_cons (dv 0) (da_cons de_int da_nil)))) (da_cons de_int da_nil)))) (de_tup (da_cons de_str (da_cons de_str da_nil))) (by rfl)) (dh_ret (r := Step.rt) (fun _ => rfl) de_bl) (dh_nil (r := Step.nx) (s := ()) rfl (Sub.keep (Sub.drop (Sub.drop (Sub.drop (Sub.drop (Sub.drop (Sub.drop (Sub.drop (Sub.drop (Sub.drop Sub.nil)))))))))))))))))))))))))) (Sub.keep (Sub.keep (Sub.keep (Sub.keep (Sub.drop (Sub.drop (Sub.drop (Sub.drop (Sub.drop (Sub.drop Sub.nil))))))))))))))))))) (fun s100 => (dh_retF (de_and (de_cmp (op_eqK c.u) (de_fn (cal_fn (ok_law_told T) (c.rj (by decide)) c.gd c.tk (bd_all rfl T.b_law_told)) T.k_law_told (by rfl) T.g_law_told (da_cons de_int (da_cons (de_tup da_nil) (da_cons de_int da_nil)))) (de_tup (da_cons de_str (da_cons de_str da_nil))) (by rfl)) (de_one (de_cmp (op_eqK c.u) (de_fn (cal_fn (ok_law_told T) (c.rj (by decide)) c.gd c.tk (bd_all rfl T.b_law_told)) T.k_law_told (by rfl) T.g_law_told (da_cons de_int (da_cons (de_tup da_nil) (da_cons de_int da_nil)))) (de_tup (da_cons de_str (da_cons de_str da_nil))) (by rfl)))))) (Sub.keep (Sub.drop (Sub.drop (Sub.drop (Sub.drop (Sub.drop (Sub.drop (Sub.drop (Sub.drop (Sub.drop Sub.nil)))))))))))
theorem sc_law_well : FnScope [(Str.ofString "_law_script"), (Str.ofString "_law_k"), (Str.ofString "_law_cell"), (Str.ofString "_law_mixed"), (Str.ofString "_law_each")] [(Str.ofString "_law_script"), (Str.ofString "_law_k")] (defScope t_law_well) := ⟨rfl, rfl, rfl, by decide +kernel, rfl, by decide +kernel, by decide +kernel⟩
theorem ok_law_well (T : Txt K mg C ex a) : FnG P w K mg base 1 a.f_law_well a.d_law_well [(Str.ofString "_law_script"), (Str.ofString "_law_k")] (spD K (M_law_well) 2) :=
  fnH T.F_law_well sc_law_well fun cdv A outer s H E c ds hl => have nd := sc_law_well.nd
    match ds, hl with
    | [a0, a1], _ => dh_fin (st := [some (Sl.v a0), some (Sl.v a1), none, none, none]) (dh_set (i := 2) nd (de_if (dt_cmp op_ltK (dv 1) (de_callB call_lenK (by rfl) T.n_len b_len (da_cons (dv 0) da_nil)) (by rfl)) (de_ix (dv 0) (dv 1)) de_int) (fun d4 => (dh_set (i := 3) nd (de_op op_addK de_int (de_op op_mulK de_int (dv 1))) (fun d6 => (dh_for (slj := (fun (s7 : D) => [some (Sl.v a0), some (Sl.v a1), some (Sl.v d4), some (Sl.v s7), none])) (s0 := d6) c.po c.cm (di_val (de_sl (dv 0) .none (.some de_int))) (gx_name 4 nd) (fun d8 s7 S => (goes_n (dh_set (i := 3) nd (de_op op_modK (de_callT call_intK (by rfl) T.n_int b_int (da_cons (de_op op_addK (de_op op_addK (de_op op_mulK (dv 3) de_int) (de_op op_modK (de_callT call_intK (by rfl) T.n_int b_int (da_cons (dv 4) da_nil)) de_int)) de_int) da_nil)) de_int) (fun d16 => (dh_nil (r := Step.nx) (s := d16) rfl (Sub.keep (Sub.keep (Sub.keep (Sub.keep (Sub.drop Sub.nil)))))))))) (fun s17 => (dh_set (i := 3) nd (de_op op_modK (de_callT call_intK (by rfl) T.n_int b_int (da_cons (de_op op_addK (de_op op_addK (de_op op_mulK (dv 3) de_int) (de_op op_modK (de_callT call_intK (by rfl) T.n_int b_int (da_cons (dv 2) da_nil)) de_int)) de_int) da_nil)) de_int) (fun d25 => (dh_retF (de_lstC (da_cons (dv 3) (da_cons (de_if (dt_cmp op_geK (de_callB call_absK (by rfl) T.n_abs b_abs (da_cons (dv 2) da_nil)) (de_op op_powK de_int de_int) (by rfl)) (de_callB call_absK (by rfl) T.n_abs b_abs (da_cons (dv 2) da_nil)) de_int) (da_cons de_int da_nil)))))))) (Sub.keep (Sub.keep (Sub.keep (Sub.keep (Sub.drop Sub.nil))))))))))
theorem sc_law : FnScope [(Str.ofString "_law_script"), (Str.ofString "_law_k")] [(Str.ofString "_law_script")] (defScope t_law) := ⟨rfl, rfl, rfl, by decide +kernel, rfl, by decide +kernel, by decide +kernel⟩
theorem ok_law (T : Txt K mg C ex a) : FnG P w K mg base 9 a.f_law a.d_law [(Str.ofString "_law_script")] (spD K (M_law ex) 1) :=
  fnH T.F_law sc_law fun cdv A outer s H E c ds hl => have nd := sc_law.nd
    match ds, hl with
    | [a0], _ => dh_fin (st := [some (Sl.v a0), none]) (dh_for (slj := (fun (s6 : Unit) => [some (Sl.v a0), none])) (s0 := ()) c.po c.cm (di_range1 (by rfl) T.n_range (de_callB (call_maxK c.cm) (by rfl) T.n_max b_max (da_cons de_int (da_cons (de_callB (call_minK c.cm) (by rfl) T.n_min b_min (da_cons (de_callB call_lenK (by rfl) T.n_len b_len (da_cons (dv 0) da_nil)) (da_cons de_int da_nil))) da_nil)))) (gx_name 1 nd) (fun d7 s6 S => (goes_n (dh_ifT (dt_not (dt_b (de_fn (cal_fn (ok_law_right T) (c.rj (by decide)) c.gd c.tk (bd_all rfl T.b_law_right)) T.k_law_right (by rfl) T.g_law_right (da_cons (de_fn (cal_fn (ok_law_well T) (c.rj (by decide)) c.gd c.tk (bd_all rfl T.b_law_well)) T.k_law_well (by rfl) T.g_law_well (da_cons (dv 0) (da_cons (dv 1) da_nil))) da_nil)))) (dh_ret (r := Step.rt) (fun _ => rfl) de_bl) (dh_nil (r := Step.nx) (s := ()) rfl (Sub.keep (Sub.drop Sub.nil)))))) (fun s14 => (dh_retF de_bl)) (Sub.keep (Sub.drop Sub.nil)))
end
theorem all_mk {l : PySem.W.OpenLaw} {w : World} {K : PySem.W.Frag} {h : Heap} {mg : Str → Option Value} {fa : Addr} (X : K.In h) (G : h.Ns mainGlobals mg) (hfa : mg (Str.ofString "law") = some (.ref fa)) (L : ∀ (C : Addr) (ex : Ex), ex.Ok → LawTrue (M_law ex) 63)
    {f0 : Addr} {od0 an0 : Option Addr} {sl0 : Array (Option Value)} {oc0 kV0 dc0 pm0 cd0 ct0 : Value}
    {f1 : Addr} {od1 an1 : Option Addr} {sl1 : Array (Option Value)} {oc1 kV1 dc1 pm1 cd1 ct1 : Value}
    {f2 : Addr} {od2 an2 : Option Addr} {sl2 : Array (Option Value)} {oc2 kV2 dc2 pm2 cd2 ct2 : Value}
    {f3 : Addr} {od3 an3 : Option Addr} {sl3 : Array (Option Value)} {oc3 kV3 dc3 pm3 cd3 ct3 : Value}
    {f4 : Addr} {od4 an4 : Option Addr} {sl4 : Array (Option Value)} {oc4 kV4 dc4 pm4 cd4 ct4 : Value}
    {f5 : Addr} {od5 an5 : Option Addr} {sl5 : Array (Option Value)} {oc5 kV5 dc5 pm5 cd5 ct5 : Value}
    {f6 : Addr} {od6 an6 : Option Addr} {sl6 : Array (Option Value)} {oc6 kV6 dc6 pm6 cd6 ct6 : Value}
    {f7 : Addr} {od7 an7 : Option Addr} {sl7 : Array (Option Value)} {oc7 kV7 dc7 pm7 cd7 ct7 : Value}
    {f8 : Addr} {od8 an8 : Option Addr} {sl8 : Array (Option Value)} {oc8 kV8 dc8 pm8 cd8 ct8 : Value}
    {f9 : Addr} {od9 an9 : Option Addr} {sl9 : Array (Option Value)} {oc9 kV9 dc9 pm9 cd9 ct9 : Value}
    {f10 : Addr} {od10 an10 : Option Addr} {sl10 : Array (Option Value)} {oc10 kV10 dc10 pm10 cd10 ct10 : Value}
    {f11 : Addr} {od11 an11 : Option Addr} {sl11 : Array (Option Value)} {oc11 kV11 dc11 pm11 cd11 ct11 : Value}
    {f12 : Addr} {od12 an12 : Option Addr} {sl12 : Array (Option Value)} {oc12 kV12 dc12 pm12 cd12 ct12 : Value}
    {f13 : Addr} {od13 an13 : Option Addr} {sl13 : Array (Option Value)} {oc13 kV13 dc13 pm13 cd13 ct13 : Value}
    {f14 : Addr} {od14 an14 : Option Addr} {sl14 : Array (Option Value)} {oc14 kV14 dc14 pm14 cd14 ct14 : Value}
    {f15 : Addr} {od15 an15 : Option Addr} {sl15 : Array (Option Value)} {oc15 kV15 dc15 pm15 cd15 ct15 : Value}
    {f16 : Addr} {od16 an16 : Option Addr} {sl16 : Array (Option Value)} {oc16 kV16 dc16 pm16 cd16 ct16 : Value}
    {t_DIGITS : Tok}
    {t_LETTERS : Tok}
    {t_LONGEST_NAME : Tok}
    {t_MOST_THINGS : Tok}
    {Y_NoAnswer : Addr}
    {Y_WrongName : Addr}
    {Y_WrongValue : Addr}
    {X_InvalidBlocks I_InvalidBlocks N_InvalidBlocks : Addr} {nm_InvalidBlocks q_InvalidBlocks : Str} {bs_InvalidBlocks su_InvalidBlocks : List Value} {sn_InvalidBlocks : List Str} {ab_InvalidBlocks : Bool} {col_InvalidBlocks : Option Bool} {dd_InvalidBlocks oo_InvalidBlocks an_InvalidBlocks : Option Addr} {m0_InvalidBlocks m1_InvalidBlocks m2_InvalidBlocks m3_InvalidBlocks m5_InvalidBlocks : Option Value} {sl_InvalidBlocks : Array (Option Value)} {oc_InvalidBlocks kV_InvalidBlocks dc_InvalidBlocks pm_InvalidBlocks cd_InvalidBlocks ct_InvalidBlocks : Value}
    {X_InvalidNumber I_InvalidNumber N_InvalidNumber : Addr} {nm_InvalidNumber q_InvalidNumber : Str} {bs_InvalidNumber su_InvalidNumber : List Value} {sn_InvalidNumber : List Str} {ab_InvalidNumber : Bool} {col_InvalidNumber : Option Bool} {dd_InvalidNumber oo_InvalidNumber an_InvalidNumber : Option Addr} {m0_InvalidNumber m1_InvalidNumber m2_InvalidNumber m3_InvalidNumber m5_InvalidNumber : Option Value} {sl_InvalidNumber : Array (Option Value)} {oc_InvalidNumber kV_InvalidNumber dc_InvalidNumber pm_InvalidNumber cd_InvalidNumber ct_InvalidNumber : Value}
    (a0 : PySem.W.nsIn K mainGlobals (Str.ofString "_law_dip") = some (some (.ref f0)))
    (l0 : K.lookup f0 = some ⟨oc0, od0, .func (PySem.W.fnOf (Str.ofString "_law_dip") (Str.ofString "_law_dip") (defArgs t_law_dip) (defBody t_law_dip) (defScope t_law_dip) .none kV0 dc0 pm0 an0 cd0 ct0), sl0⟩)
    (c0 : PySem.W.codeIn K cd0 (Str.ofString "_law_dip") = true)
    (k0 : PySem.W.keepIn K (.ref f0) = true)
    (a1 : PySem.W.nsIn K mainGlobals (Str.ofString "_law_names") = some (some (.ref f1)))
    (l1 : K.lookup f1 = some ⟨oc1, od1, .func (PySem.W.fnOf (Str.ofString "_law_names") (Str.ofString "_law_names") (defArgs t_law_names) (defBody t_law_names) (defScope t_law_names) .none kV1 dc1 pm1 an1 cd1 ct1), sl1⟩)
    (c1 : PySem.W.codeIn K cd1 (Str.ofString "_law_names") = true)
    (k1 : PySem.W.keepIn K (.ref f1) = true)
    (a2 : PySem.W.nsIn K mainGlobals (Str.ofString "_law_row") = some (some (.ref f2)))
    (l2 : K.lookup f2 = some ⟨oc2, od2, .func (PySem.W.fnOf (Str.ofString "_law_row") (Str.ofString "_law_row") (defArgs t_law_row) (defBody t_law_row) (defScope t_law_row) .none kV2 dc2 pm2 an2 cd2 ct2), sl2⟩)
    (c2 : PySem.W.codeIn K cd2 (Str.ofString "_law_row") = true)
    (k2 : PySem.W.keepIn K (.ref f2) = true)
    (a3 : PySem.W.nsIn K mainGlobals (Str.ofString "is_integer") = some (some (.ref f3)))
    (l3 : K.lookup f3 = some ⟨oc3, od3, .func (PySem.W.fnOf (Str.ofString "is_integer") (Str.ofString "is_integer") (defArgs t_is_integer) (defBody t_is_integer) (defScope t_is_integer) .none kV3 dc3 pm3 an3 cd3 ct3), sl3⟩)
    (c3 : PySem.W.codeIn K cd3 (Str.ofString "is_integer") = true)
    (k3 : PySem.W.keepIn K (.ref f3) = true)
    (a4 : PySem.W.nsIn K mainGlobals (Str.ofString "is_within") = some (some (.ref f4)))
    (l4 : K.lookup f4 = some ⟨oc4, od4, .func (PySem.W.fnOf (Str.ofString "is_within") (Str.ofString "is_within") (defArgs t_is_within) (defBody t_is_within) (defScope t_is_within) .none kV4 dc4 pm4 an4 cd4 ct4), sl4⟩)
    (c4 : PySem.W.codeIn K cd4 (Str.ofString "is_within") = true)
    (k4 : PySem.W.keepIn K (.ref f4) = true)
    (a5 : PySem.W.nsIn K mainGlobals (Str.ofString "is_name") = some (some (.ref f5)))
    (l5 : K.lookup f5 = some ⟨oc5, od5, .func (PySem.W.fnOf (Str.ofString "is_name") (Str.ofString "is_name") (defArgs t_is_name) (defBody t_is_name) (defScope t_is_name) .none kV5 dc5 pm5 an5 cd5 ct5), sl5⟩)
    (c5 : PySem.W.codeIn K cd5 (Str.ofString "is_name") = true)
    (k5 : PySem.W.keepIn K (.ref f5) = true)
    (a6 : PySem.W.nsIn K mainGlobals (Str.ofString "is_block") = some (some (.ref f6)))
    (l6 : K.lookup f6 = some ⟨oc6, od6, .func (PySem.W.fnOf (Str.ofString "is_block") (Str.ofString "is_block") (defArgs t_is_block) (defBody t_is_block) (defScope t_is_block) .none kV6 dc6 pm6 an6 cd6 ct6), sl6⟩)
    (c6 : PySem.W.codeIn K cd6 (Str.ofString "is_block") = true)
    (k6 : PySem.W.keepIn K (.ref f6) = true)
    (a7 : PySem.W.nsIn K mainGlobals (Str.ofString "check_blocks") = some (some (.ref f7)))
    (l7 : K.lookup f7 = some ⟨oc7, od7, .func (PySem.W.fnOf (Str.ofString "check_blocks") (Str.ofString "check_blocks") (defArgs t_check_blocks) (defBody t_check_blocks) (defScope t_check_blocks) .none kV7 dc7 pm7 an7 cd7 ct7), sl7⟩)
    (c7 : PySem.W.codeIn K cd7 (Str.ofString "check_blocks") = true)
    (k7 : PySem.W.keepIn K (.ref f7) = true)
    (a8 : PySem.W.nsIn K mainGlobals (Str.ofString "length_of") = some (some (.ref f8)))
    (l8 : K.lookup f8 = some ⟨oc8, od8, .func (PySem.W.fnOf (Str.ofString "length_of") (Str.ofString "length_of") (defArgs t_length_of) (defBody t_length_of) (defScope t_length_of) .none kV8 dc8 pm8 an8 cd8 ct8), sl8⟩)
    (c8 : PySem.W.codeIn K cd8 (Str.ofString "length_of") = true)
    (k8 : PySem.W.keepIn K (.ref f8) = true)
    (a9 : PySem.W.nsIn K mainGlobals (Str.ofString "size_of") = some (some (.ref f9)))
    (l9 : K.lookup f9 = some ⟨oc9, od9, .func (PySem.W.fnOf (Str.ofString "size_of") (Str.ofString "size_of") (defArgs t_size_of) (defBody t_size_of) (defScope t_size_of) .none kV9 dc9 pm9 an9 cd9 ct9), sl9⟩)
    (c9 : PySem.W.codeIn K cd9 (Str.ofString "size_of") = true)
    (k9 : PySem.W.keepIn K (.ref f9) = true)
    (a10 : PySem.W.nsIn K mainGlobals (Str.ofString "kind_at") = some (some (.ref f10)))
    (l10 : K.lookup f10 = some ⟨oc10, od10, .func (PySem.W.fnOf (Str.ofString "kind_at") (Str.ofString "kind_at") (defArgs t_kind_at) (defBody t_kind_at) (defScope t_kind_at) .none kV10 dc10 pm10 an10 cd10 ct10), sl10⟩)
    (c10 : PySem.W.codeIn K cd10 (Str.ofString "kind_at") = true)
    (k10 : PySem.W.keepIn K (.ref f10) = true)
    (a11 : PySem.W.nsIn K mainGlobals (Str.ofString "_law_based") = some (some (.ref f11)))
    (l11 : K.lookup f11 = some ⟨oc11, od11, .func (PySem.W.fnOf (Str.ofString "_law_based") (Str.ofString "_law_based") (defArgs t_law_based) (defBody t_law_based) (defScope t_law_based) .none kV11 dc11 pm11 an11 cd11 ct11), sl11⟩)
    (c11 : PySem.W.codeIn K cd11 (Str.ofString "_law_based") = true)
    (k11 : PySem.W.keepIn K (.ref f11) = true)
    (a12 : PySem.W.nsIn K mainGlobals (Str.ofString "_law_told") = some (some (.ref f12)))
    (l12 : K.lookup f12 = some ⟨oc12, od12, .func (PySem.W.fnOf (Str.ofString "_law_told") (Str.ofString "_law_told") (defArgs t_law_told) (defBody t_law_told) (defScope t_law_told) .none kV12 dc12 pm12 an12 cd12 ct12), sl12⟩)
    (c12 : PySem.W.codeIn K cd12 (Str.ofString "_law_told") = true)
    (k12 : PySem.W.keepIn K (.ref f12) = true)
    (a13 : PySem.W.nsIn K mainGlobals (Str.ofString "_law_right_places") = some (some (.ref f13)))
    (l13 : K.lookup f13 = some ⟨oc13, od13, .func (PySem.W.fnOf (Str.ofString "_law_right_places") (Str.ofString "_law_right_places") (defArgs t_law_right_places) (defBody t_law_right_places) (defScope t_law_right_places) .none kV13 dc13 pm13 an13 cd13 ct13), sl13⟩)
    (c13 : PySem.W.codeIn K cd13 (Str.ofString "_law_right_places") = true)
    (k13 : PySem.W.keepIn K (.ref f13) = true)
    (a14 : PySem.W.nsIn K mainGlobals (Str.ofString "_law_right") = some (some (.ref f14)))
    (l14 : K.lookup f14 = some ⟨oc14, od14, .func (PySem.W.fnOf (Str.ofString "_law_right") (Str.ofString "_law_right") (defArgs t_law_right) (defBody t_law_right) (defScope t_law_right) .none kV14 dc14 pm14 an14 cd14 ct14), sl14⟩)
    (c14 : PySem.W.codeIn K cd14 (Str.ofString "_law_right") = true)
    (k14 : PySem.W.keepIn K (.ref f14) = true)
    (a15 : PySem.W.nsIn K mainGlobals (Str.ofString "_law_well") = some (some (.ref f15)))
    (l15 : K.lookup f15 = some ⟨oc15, od15, .func (PySem.W.fnOf (Str.ofString "_law_well") (Str.ofString "_law_well") (defArgs t_law_well) (defBody t_law_well) (defScope t_law_well) .none kV15 dc15 pm15 an15 cd15 ct15), sl15⟩)
    (c15 : PySem.W.codeIn K cd15 (Str.ofString "_law_well") = true)
    (k15 : PySem.W.keepIn K (.ref f15) = true)
    (a16 : PySem.W.nsIn K mainGlobals (Str.ofString "law") = some (some (.ref f16)))
    (l16 : K.lookup f16 = some ⟨oc16, od16, .func (PySem.W.fnOf (Str.ofString "law") (Str.ofString "law") (defArgs t_law) (defBody t_law) (defScope t_law) .none kV16 dc16 pm16 an16 cd16 ct16), sl16⟩)
    (c16 : PySem.W.codeIn K cd16 (Str.ofString "law") = true)
    (k16 : PySem.W.keepIn K (.ref f16) = true)
    (z_ArithmeticError : PySem.W.nsIn K mainGlobals (Str.ofString "ArithmeticError") = some none)
    (z_LookupError : PySem.W.nsIn K mainGlobals (Str.ofString "LookupError") = some none)
    (z_ValueError : PySem.W.nsIn K mainGlobals (Str.ofString "ValueError") = some none)
    (z_abs : PySem.W.nsIn K mainGlobals (Str.ofString "abs") = some none)
    (z_all : PySem.W.nsIn K mainGlobals (Str.ofString "all") = some none)
    (z_bool : PySem.W.nsIn K mainGlobals (Str.ofString "bool") = some none)
    (z_divmod : PySem.W.nsIn K mainGlobals (Str.ofString "divmod") = some none)
    (z_enumerate : PySem.W.nsIn K mainGlobals (Str.ofString "enumerate") = some none)
    (z_int : PySem.W.nsIn K mainGlobals (Str.ofString "int") = some none)
    (z_isinstance : PySem.W.nsIn K mainGlobals (Str.ofString "isinstance") = some none)
    (z_len : PySem.W.nsIn K mainGlobals (Str.ofString "len") = some none)
    (z_list : PySem.W.nsIn K mainGlobals (Str.ofString "list") = some none)
    (z_max : PySem.W.nsIn K mainGlobals (Str.ofString "max") = some none)
    (z_min : PySem.W.nsIn K mainGlobals (Str.ofString "min") = some none)
    (z_range : PySem.W.nsIn K mainGlobals (Str.ofString "range") = some none)
    (z_repr : PySem.W.nsIn K mainGlobals (Str.ofString "repr") = some none)
    (z_str : PySem.W.nsIn K mainGlobals (Str.ofString "str") = some none)
    (z_sum : PySem.W.nsIn K mainGlobals (Str.ofString "sum") = some none)
    (z_tuple : PySem.W.nsIn K mainGlobals (Str.ofString "tuple") = some none)
    (v_DIGITS : PySem.W.nsIn K mainGlobals (Str.ofString "DIGITS") = some (some (.str (Str.ofString "0123456789") t_DIGITS)))
    (v_LETTERS : PySem.W.nsIn K mainGlobals (Str.ofString "LETTERS") = some (some (.str (Str.ofString "abcdefghijklmnopqrstuvwxyz") t_LETTERS)))
    (v_LONGEST_NAME : PySem.W.nsIn K mainGlobals (Str.ofString "LONGEST_NAME") = some (some (.int 8 t_LONGEST_NAME)))
    (v_MOST_THINGS : PySem.W.nsIn K mainGlobals (Str.ofString "MOST_THINGS") = some (some (.int 1000000000000000000000000000000 t_MOST_THINGS)))
    (yc_NoAnswer : PySem.W.nsIn K mainGlobals (Str.ofString "NoAnswer") = some (some (.ref Y_NoAnswer)))
    (yc_WrongName : PySem.W.nsIn K mainGlobals (Str.ofString "WrongName") = some (some (.ref Y_WrongName)))
    (yc_WrongValue : PySem.W.nsIn K mainGlobals (Str.ofString "WrongValue") = some (some (.ref Y_WrongValue)))
    (xa_InvalidBlocks : PySem.W.nsIn K mainGlobals (Str.ofString "InvalidBlocks") = some (some (.ref X_InvalidBlocks)))
    (xl_InvalidBlocks : K.lookup X_InvalidBlocks = some (excClassObj nm_InvalidBlocks q_InvalidBlocks X_InvalidBlocks N_InvalidBlocks bs_InvalidBlocks [.ref Y_WrongValue, .type "ValueError", .type "Exception", .type "BaseException", .type "object"] true sn_InvalidBlocks su_InvalidBlocks ab_InvalidBlocks col_InvalidBlocks dd_InvalidBlocks m0_InvalidBlocks m1_InvalidBlocks m2_InvalidBlocks m3_InvalidBlocks m5_InvalidBlocks "ValueError.__new__"))
    (xs_InvalidBlocks : PySem.W.findIn K (.ref X_InvalidBlocks) (Str.ofString "__setattr__") = some (some (.builtin "object.__setattr__")))
    (xg_InvalidBlocks : PySem.W.findIn K (.ref X_InvalidBlocks) (Str.ofString "__getattribute__") = some (some (.builtin "BaseException.__getattribute__")))
    (xh_InvalidBlocks : PySem.W.findIn K (.ref X_InvalidBlocks) (Str.ofString "__getattr__") = some none)
    (xf_InvalidBlocks : PySem.W.findIn K (.ref X_InvalidBlocks) (Str.ofString "index") = some none)
    (xi_InvalidBlocks : PySem.W.findIn K (.ref X_InvalidBlocks) (Str.ofString "__init__") = some (some (.ref I_InvalidBlocks)))
    (xt_InvalidBlocks : PySem.W.typeIn K (.ref I_InvalidBlocks) = some (.type "function"))
    (xk_InvalidBlocks : K.lookup I_InvalidBlocks = some ⟨oc_InvalidBlocks, oo_InvalidBlocks, .func (PySem.W.fnOf (Str.ofString "__init__") (Str.ofString "InvalidBlocks.__init__") (defArgs t_InvalidBlocks_ini) (defBody t_InvalidBlocks_ini) (defScope t_InvalidBlocks_ini) .none kV_InvalidBlocks dc_InvalidBlocks pm_InvalidBlocks an_InvalidBlocks cd_InvalidBlocks ct_InvalidBlocks), sl_InvalidBlocks⟩)
    (xc_InvalidBlocks : PySem.W.codeIn K cd_InvalidBlocks (Str.ofString "InvalidBlocks.__init__") = true)
    (xp_InvalidBlocks : PySem.W.keepIn K (.ref X_InvalidBlocks) = true)
    (eb_InvalidBlocks : PySem.W.subIn K (.ref X_InvalidBlocks) (.type "BaseException") = some true)
    (et_InvalidBlocks : PySem.W.typeIn K (.ref X_InvalidBlocks) = some (.type "type"))
    (xd_InvalidBlocks : PySem.W.hasDictIn K X_InvalidBlocks = true)
    (ei_InvalidBlocks : PySem.W.isClsIn K X_InvalidBlocks = true)
    (xq_InvalidBlocks : PySem.W.findIn K (.ref X_InvalidBlocks) (Str.ofString "__class__") = some (some (.builtin "object.__class__")))
    (xo_InvalidBlocks : PySem.W.mroIn K X_InvalidBlocks (.type "object") = some true)
    (ess_InvalidBlocks : PySem.W.subIn K (.ref X_InvalidBlocks) (.ref X_InvalidBlocks) = some true)
    (xa_InvalidNumber : PySem.W.nsIn K mainGlobals (Str.ofString "InvalidNumber") = some (some (.ref X_InvalidNumber)))
    (xl_InvalidNumber : K.lookup X_InvalidNumber = some (excClassObj nm_InvalidNumber q_InvalidNumber X_InvalidNumber N_InvalidNumber bs_InvalidNumber [.ref Y_WrongValue, .type "ValueError", .type "Exception", .type "BaseException", .type "object"] true sn_InvalidNumber su_InvalidNumber ab_InvalidNumber col_InvalidNumber dd_InvalidNumber m0_InvalidNumber m1_InvalidNumber m2_InvalidNumber m3_InvalidNumber m5_InvalidNumber "ValueError.__new__"))
    (xs_InvalidNumber : PySem.W.findIn K (.ref X_InvalidNumber) (Str.ofString "__setattr__") = some (some (.builtin "object.__setattr__")))
    (xg_InvalidNumber : PySem.W.findIn K (.ref X_InvalidNumber) (Str.ofString "__getattribute__") = some (some (.builtin "BaseException.__getattribute__")))
    (xh_InvalidNumber : PySem.W.findIn K (.ref X_InvalidNumber) (Str.ofString "__getattr__") = some none)
    (xf_InvalidNumber : PySem.W.findIn K (.ref X_InvalidNumber) (Str.ofString "given") = some none)
    (xi_InvalidNumber : PySem.W.findIn K (.ref X_InvalidNumber) (Str.ofString "__init__") = some (some (.ref I_InvalidNumber)))
    (xt_InvalidNumber : PySem.W.typeIn K (.ref I_InvalidNumber) = some (.type "function"))
    (xk_InvalidNumber : K.lookup I_InvalidNumber = some ⟨oc_InvalidNumber, oo_InvalidNumber, .func (PySem.W.fnOf (Str.ofString "__init__") (Str.ofString "InvalidNumber.__init__") (defArgs t_InvalidNumber_ini) (defBody t_InvalidNumber_ini) (defScope t_InvalidNumber_ini) .none kV_InvalidNumber dc_InvalidNumber pm_InvalidNumber an_InvalidNumber cd_InvalidNumber ct_InvalidNumber), sl_InvalidNumber⟩)
    (xc_InvalidNumber : PySem.W.codeIn K cd_InvalidNumber (Str.ofString "InvalidNumber.__init__") = true)
    (xp_InvalidNumber : PySem.W.keepIn K (.ref X_InvalidNumber) = true)
    (eb_InvalidNumber : PySem.W.subIn K (.ref X_InvalidNumber) (.type "BaseException") = some true)
    (et_InvalidNumber : PySem.W.typeIn K (.ref X_InvalidNumber) = some (.type "type"))
    (xd_InvalidNumber : PySem.W.hasDictIn K X_InvalidNumber = true)
    (ei_InvalidNumber : PySem.W.isClsIn K X_InvalidNumber = true)
    (xq_InvalidNumber : PySem.W.findIn K (.ref X_InvalidNumber) (Str.ofString "__class__") = some (some (.builtin "object.__class__")))
    (xo_InvalidNumber : PySem.W.mroIn K X_InvalidNumber (.type "object") = some true)
    (ess_InvalidNumber : PySem.W.subIn K (.ref X_InvalidNumber) (.ref X_InvalidNumber) = some true)
    (es_InvalidBlocks_InvalidNumber : PySem.W.subIn K (.ref X_InvalidBlocks) (.ref X_InvalidNumber) = some false)
    (es_InvalidNumber_InvalidBlocks : PySem.W.subIn K (.ref X_InvalidNumber) (.ref X_InvalidBlocks) = some false)
    (kx900 : PySem.W.kitOne K (.ref X_InvalidBlocks) (.type "ArithmeticError") = some false)
    (kx901 : PySem.W.kitOne K (.ref X_InvalidBlocks) (.type "LookupError") = some false)
    (kx902 : PySem.W.kitOne K (.ref X_InvalidBlocks) (.ref Y_NoAnswer) = some false)
    (kx903 : PySem.W.kitOne K (.ref X_InvalidBlocks) (.type "ValueError") = some true)
    (kx904 : PySem.W.kitOne K (.ref X_InvalidBlocks) (.ref Y_WrongName) = some false)
    (kx905 : PySem.W.kitOne K (.ref X_InvalidBlocks) (.ref Y_WrongValue) = some true)
    (kx906 : PySem.W.kitOne K (.ref X_InvalidNumber) (.type "ArithmeticError") = some false)
    (kx907 : PySem.W.kitOne K (.ref X_InvalidNumber) (.type "LookupError") = some false)
    (kx908 : PySem.W.kitOne K (.ref X_InvalidNumber) (.ref Y_NoAnswer) = some false)
    (kx909 : PySem.W.kitOne K (.ref X_InvalidNumber) (.type "ValueError") = some true)
    (kx910 : PySem.W.kitOne K (.ref X_InvalidNumber) (.ref Y_WrongName) = some false)
    (kx911 : PySem.W.kitOne K (.ref X_InvalidNumber) (.ref Y_WrongValue) = some true)
    (ke : PySem.W.specialIn K (.builtin "object.__class__") (Str.ofString "__get__") = some (some (.builtin "getset_descriptor.__get__")))
    (kf : PySem.W.takesIn K (.builtin "object.__class__") = some true)
    : ∃ (fd : FuncData) (m : List D → Store → Res D), LawTrue m 63 ∧ (∀ (s : Shared) (v : Value), BindsTo s fd ⟨[v], []⟩ [((Str.ofString "_law_script"), v)]) ∧ ∀ base : Heap, K.In base → base.Ns mainGlobals mg → FnG l.prog w K mg base 9 fa fd [(Str.ofString "_law_script")] (spD K m 1) := by
  have e := hfa.symm.trans (PySem.W.mg_of X G a16)
  cases e
  have T : Txt K mg 0 ⟨X_InvalidBlocks, X_InvalidNumber⟩ ⟨f0,
    (PySem.W.fnOf (Str.ofString "_law_dip") (Str.ofString "_law_dip") (defArgs t_law_dip) (defBody t_law_dip) (defScope t_law_dip) .none kV0 dc0 pm0 an0 cd0 ct0),
    f1,
    (PySem.W.fnOf (Str.ofString "_law_names") (Str.ofString "_law_names") (defArgs t_law_names) (defBody t_law_names) (defScope t_law_names) .none kV1 dc1 pm1 an1 cd1 ct1),
    f2,
    (PySem.W.fnOf (Str.ofString "_law_row") (Str.ofString "_law_row") (defArgs t_law_row) (defBody t_law_row) (defScope t_law_row) .none kV2 dc2 pm2 an2 cd2 ct2),
    f3,
    (PySem.W.fnOf (Str.ofString "is_integer") (Str.ofString "is_integer") (defArgs t_is_integer) (defBody t_is_integer) (defScope t_is_integer) .none kV3 dc3 pm3 an3 cd3 ct3),
    f4,
    (PySem.W.fnOf (Str.ofString "is_within") (Str.ofString "is_within") (defArgs t_is_within) (defBody t_is_within) (defScope t_is_within) .none kV4 dc4 pm4 an4 cd4 ct4),
    f5,
    (PySem.W.fnOf (Str.ofString "is_name") (Str.ofString "is_name") (defArgs t_is_name) (defBody t_is_name) (defScope t_is_name) .none kV5 dc5 pm5 an5 cd5 ct5),
    f6,
    (PySem.W.fnOf (Str.ofString "is_block") (Str.ofString "is_block") (defArgs t_is_block) (defBody t_is_block) (defScope t_is_block) .none kV6 dc6 pm6 an6 cd6 ct6),
    f7,
    (PySem.W.fnOf (Str.ofString "check_blocks") (Str.ofString "check_blocks") (defArgs t_check_blocks) (defBody t_check_blocks) (defScope t_check_blocks) .none kV7 dc7 pm7 an7 cd7 ct7),
    f8,
    (PySem.W.fnOf (Str.ofString "length_of") (Str.ofString "length_of") (defArgs t_length_of) (defBody t_length_of) (defScope t_length_of) .none kV8 dc8 pm8 an8 cd8 ct8),
    f9,
    (PySem.W.fnOf (Str.ofString "size_of") (Str.ofString "size_of") (defArgs t_size_of) (defBody t_size_of) (defScope t_size_of) .none kV9 dc9 pm9 an9 cd9 ct9),
    f10,
    (PySem.W.fnOf (Str.ofString "kind_at") (Str.ofString "kind_at") (defArgs t_kind_at) (defBody t_kind_at) (defScope t_kind_at) .none kV10 dc10 pm10 an10 cd10 ct10),
    f11,
    (PySem.W.fnOf (Str.ofString "_law_based") (Str.ofString "_law_based") (defArgs t_law_based) (defBody t_law_based) (defScope t_law_based) .none kV11 dc11 pm11 an11 cd11 ct11),
    f12,
    (PySem.W.fnOf (Str.ofString "_law_told") (Str.ofString "_law_told") (defArgs t_law_told) (defBody t_law_told) (defScope t_law_told) .none kV12 dc12 pm12 an12 cd12 ct12),
    f13,
    (PySem.W.fnOf (Str.ofString "_law_right_places") (Str.ofString "_law_right_places") (defArgs t_law_right_places) (defBody t_law_right_places) (defScope t_law_right_places) .none kV13 dc13 pm13 an13 cd13 ct13),
    f14,
    (PySem.W.fnOf (Str.ofString "_law_right") (Str.ofString "_law_right") (defArgs t_law_right) (defBody t_law_right) (defScope t_law_right) .none kV14 dc14 pm14 an14 cd14 ct14),
    f15,
    (PySem.W.fnOf (Str.ofString "_law_well") (Str.ofString "_law_well") (defArgs t_law_well) (defBody t_law_well) (defScope t_law_well) .none kV15 dc15 pm15 an15 cd15 ct15),
    fa,
    (PySem.W.fnOf (Str.ofString "law") (Str.ofString "law") (defArgs t_law) (defBody t_law) (defScope t_law) .none kV16 dc16 pm16 an16 cd16 ct16),
    I_InvalidBlocks,
    (PySem.W.fnOf (Str.ofString "__init__") (Str.ofString "InvalidBlocks.__init__") (defArgs t_InvalidBlocks_ini) (defBody t_InvalidBlocks_ini) (defScope t_InvalidBlocks_ini) .none kV_InvalidBlocks dc_InvalidBlocks pm_InvalidBlocks an_InvalidBlocks cd_InvalidBlocks ct_InvalidBlocks),
    I_InvalidNumber,
    (PySem.W.fnOf (Str.ofString "__init__") (Str.ofString "InvalidNumber.__init__") (defArgs t_InvalidNumber_ini) (defBody t_InvalidNumber_ini) (defScope t_InvalidNumber_ini) .none kV_InvalidNumber dc_InvalidNumber pm_InvalidNumber an_InvalidNumber cd_InvalidNumber ct_InvalidNumber)⟩ := {
    kits := ⟨by simp, by simp, by simp, by simp, by simp, ke, kf, by simp⟩,
    n_ArithmeticError := PySem.W.mg_none_of X G z_ArithmeticError,
    n_LookupError := PySem.W.mg_none_of X G z_LookupError,
    n_ValueError := PySem.W.mg_none_of X G z_ValueError,
    n_abs := PySem.W.mg_none_of X G z_abs,
    n_all := PySem.W.mg_none_of X G z_all,
    n_bool := PySem.W.mg_none_of X G z_bool,
    n_divmod := PySem.W.mg_none_of X G z_divmod,
    n_enumerate := PySem.W.mg_none_of X G z_enumerate,
    n_int := PySem.W.mg_none_of X G z_int,
    n_isinstance := PySem.W.mg_none_of X G z_isinstance,
    n_len := PySem.W.mg_none_of X G z_len,
    n_list := PySem.W.mg_none_of X G z_list,
    n_max := PySem.W.mg_none_of X G z_max,
    n_min := PySem.W.mg_none_of X G z_min,
    n_range := PySem.W.mg_none_of X G z_range,
    n_repr := PySem.W.mg_none_of X G z_repr,
    n_str := PySem.W.mg_none_of X G z_str,
    n_sum := PySem.W.mg_none_of X G z_sum,
    n_tuple := PySem.W.mg_none_of X G z_tuple,
    v_DIGITS := ⟨_, PySem.W.mg_of X G v_DIGITS⟩,
    v_LETTERS := ⟨_, PySem.W.mg_of X G v_LETTERS⟩,
    v_LONGEST_NAME := ⟨_, PySem.W.mg_of X G v_LONGEST_NAME⟩,
    v_MOST_THINGS := ⟨_, PySem.W.mg_of X G v_MOST_THINGS⟩,
    F_law_dip := fnIs_mk l0 c0,
    b_law_dip := .all fun us hl => match us, hl with | [_, _], _ => rfl,
    k_law_dip := k0,
    g_law_dip := PySem.W.mg_of X G a0,
    F_law_names := fnIs_mk l1 c1,
    b_law_names := .all fun us hl => match us, hl with | [_, _], _ => rfl,
    k_law_names := k1,
    g_law_names := PySem.W.mg_of X G a1,
    F_law_row := fnIs_mk l2 c2,
    b_law_row := .all fun us hl => match us, hl with | [_], _ => rfl,
    k_law_row := k2,
    g_law_row := PySem.W.mg_of X G a2,
    F_is_integer := fnIs_mk l3 c3,
    b_is_integer := .all fun us hl => match us, hl with | [_], _ => rfl,
    k_is_integer := k3,
    g_is_integer := PySem.W.mg_of X G a3,
    F_is_within := fnIs_mk l4 c4,
    b_is_within := .all fun us hl => match us, hl with | [_, _, _], _ => rfl,
    k_is_within := k4,
    g_is_within := PySem.W.mg_of X G a4,
    F_is_name := fnIs_mk l5 c5,
    b_is_name := .all fun us hl => match us, hl with | [_], _ => rfl,
    k_is_name := k5,
    g_is_name := PySem.W.mg_of X G a5,
    F_is_block := fnIs_mk l6 c6,
    b_is_block := .all fun us hl => match us, hl with | [_], _ => rfl,
    k_is_block := k6,
    g_is_block := PySem.W.mg_of X G a6,
    F_check_blocks := fnIs_mk l7 c7,
    b_check_blocks := .all fun us hl => match us, hl with | [_], _ => rfl,
    k_check_blocks := k7,
    g_check_blocks := PySem.W.mg_of X G a7,
    F_length_of := fnIs_mk l8 c8,
    b_length_of := .all fun us hl => match us, hl with | [_], _ => rfl,
    k_length_of := k8,
    g_length_of := PySem.W.mg_of X G a8,
    F_size_of := fnIs_mk l9 c9,
    b_size_of := .all fun us hl => match us, hl with | [_], _ => rfl,
    k_size_of := k9,
    g_size_of := PySem.W.mg_of X G a9,
    F_kind_at := fnIs_mk l10 c10,
    b_kind_at := .all fun us hl => match us, hl with | [_, _], _ => rfl,
    k_kind_at := k10,
    g_kind_at := PySem.W.mg_of X G a10,
    F_law_based := fnIs_mk l11 c11,
    b_law_based := .all fun us hl => match us, hl with | [_], _ => rfl,
    k_law_based := k11,
    g_law_based := PySem.W.mg_of X G a11,
    F_law_told := fnIs_mk l12 c12,
    b_law_told := .all fun us hl => match us, hl with | [_, _, _], _ => rfl,
    k_law_told := k12,
    g_law_told := PySem.W.mg_of X G a12,
    F_law_right_places := fnIs_mk l13 c13,
    b_law_right_places := .all fun us hl => match us, hl with | [_, _], _ => rfl,
    k_law_right_places := k13,
    g_law_right_places := PySem.W.mg_of X G a13,
    F_law_right := fnIs_mk l14 c14,
    b_law_right := .all fun us hl => match us, hl with | [_], _ => rfl,
    k_law_right := k14,
    g_law_right := PySem.W.mg_of X G a14,
    F_law_well := fnIs_mk l15 c15,
    b_law_well := .all fun us hl => match us, hl with | [_, _], _ => rfl,
    k_law_well := k15,
    g_law_well := PySem.W.mg_of X G a15,
    F_law := fnIs_mk l16 c16,
    b_law := .all fun us hl => match us, hl with | [_], _ => rfl,
    k_law := k16,
    g_law := PySem.W.mg_of X G a16,
    bd_kind_at_0_place_blocks := bd_pick [1, 0] (fun us ws h1 h2 => match us, ws, h1, h2 with | [], [_, _], _, _ => rfl) (fun us ws h1 h2 => match us, ws, h1, h2 with | [], [_, _], _, _ => rfl),
    ex_InvalidBlocks := ⟨⟨⟨_, _, _, _, _, _, _, _, _, _, _, _, _, _, _, xl_InvalidBlocks, refs_tail [_]⟩, xs_InvalidBlocks, eb_InvalidBlocks, et_InvalidBlocks, xp_InvalidBlocks⟩, ⟨xg_InvalidBlocks, xh_InvalidBlocks, eb_InvalidBlocks, xd_InvalidBlocks⟩, xf_InvalidBlocks, xi_InvalidBlocks, xt_InvalidBlocks, .all fun us hl => match us, hl with | [_, _], _ => rfl⟩,
    Fx_InvalidBlocks := fnIs_mk xk_InvalidBlocks xc_InvalidBlocks,
    gx_InvalidBlocks := PySem.W.mg_of X G xa_InvalidBlocks,
    is_InvalidBlocks := ⟨ei_InvalidBlocks, xg_InvalidBlocks, xh_InvalidBlocks, eb_InvalidBlocks, xq_InvalidBlocks, ke, kf, xo_InvalidBlocks⟩,
    em_InvalidBlocks := exm_of eb_InvalidBlocks ei_InvalidBlocks et_InvalidBlocks ess_InvalidBlocks,
    ex_InvalidNumber := ⟨⟨⟨_, _, _, _, _, _, _, _, _, _, _, _, _, _, _, xl_InvalidNumber, refs_tail [_]⟩, xs_InvalidNumber, eb_InvalidNumber, et_InvalidNumber, xp_InvalidNumber⟩, ⟨xg_InvalidNumber, xh_InvalidNumber, eb_InvalidNumber, xd_InvalidNumber⟩, xf_InvalidNumber, xi_InvalidNumber, xt_InvalidNumber, .all fun us hl => match us, hl with | [_, _], _ => rfl⟩,
    Fx_InvalidNumber := fnIs_mk xk_InvalidNumber xc_InvalidNumber,
    gx_InvalidNumber := PySem.W.mg_of X G xa_InvalidNumber,
    is_InvalidNumber := ⟨ei_InvalidNumber, xg_InvalidNumber, xh_InvalidNumber, eb_InvalidNumber, xq_InvalidNumber, ke, kf, xo_InvalidNumber⟩,
    em_InvalidNumber := exm_of eb_InvalidNumber ei_InvalidNumber et_InvalidNumber ess_InvalidNumber,
    en_InvalidNumber_InvalidBlocks := exm_of eb_InvalidBlocks ei_InvalidBlocks et_InvalidBlocks es_InvalidNumber_InvalidBlocks,
    ga_NoAnswer := ⟨_, PySem.W.mg_of X G yc_NoAnswer, kx902, kx908⟩,
    ga_WrongName := ⟨_, PySem.W.mg_of X G yc_WrongName, kx904, kx910⟩,
    ga_WrongValue := ⟨_, PySem.W.mg_of X G yc_WrongValue, kx905, kx911⟩,
    kb_InvalidBlocks_ArithmeticError := kx900,
    kb_InvalidBlocks_LookupError := kx901,
    kb_InvalidBlocks_ValueError := kx903,
    kb_InvalidNumber_ArithmeticError := kx906,
    kb_InvalidNumber_LookupError := kx907,
    kb_InvalidNumber_ValueError := kx909 }
  exact ⟨_, M_law ⟨X_InvalidBlocks, X_InvalidNumber⟩, L 0 ⟨X_InvalidBlocks, X_InvalidNumber⟩ ⟨exm_ne (exm_of eb_InvalidNumber ei_InvalidNumber et_InvalidNumber ess_InvalidNumber) (exm_of eb_InvalidNumber ei_InvalidNumber et_InvalidNumber es_InvalidBlocks_InvalidNumber)⟩, fun s v => .of_eq rfl, fun base _ _ => ok_law T⟩
theorem walk {l : PySem.W.OpenLaw} {q : Program} {loose : List Str} {XP : (Str → Option Value) → Heap → Prop} {YP : World → Heap → Prop} {d : DefRec} {K : Params → PySem.W.Frag} (hn : l.most = some 63) (hdf : d.params.defaults = [])
    (hY : ∀ (w : World) (h : Heap), YP w h → (K w.params).In h)
    (F : ∀ (w : World) (mg : Str → Option Value) (fa : Addr) (h : Heap), (K w.params).In h → h.Ns mainGlobals mg → mg d.name = some (.ref fa) →
      ∃ (fd : FuncData) (m : List D → Store → Res D), LawTrue m 63 ∧ (∀ (s : Shared) (u : Value), BindsTo s fd ⟨[u], []⟩ [((Str.ofString "_law_script"), u)]) ∧ ∀ base : Heap, (K w.params).In base → base.Ns mainGlobals mg → FnG l.prog w (K w.params) mg base 9 fa fd [(Str.ofString "_law_script")] (spD (K w.params) m 1)) :
    PySem.W.WalkO q loose XP YP l.row.toRowW d [] (fun f vs => PySem.call f vs) :=
  walkG hn (by decide) hdf ⟨rfl, by decide, by decide⟩ hY F
end KK

set_option Elab.async false
open PySem PySem.W PyProof.Rows in
set_option maxRecDepth 100000 in
set_option maxHeartbeats 0 in
theorem PySem.Challenge.cw_kindsfollow_k13_whole_places_of_rows_holds : PySem.Challenge.rw_kindsfollow_k13_whole_places_of_rows.Holds := by
  w_on; o_law; k_head; (case hw => w_witness2)
  k_fill
  refine KK.walk (l := PySem.Challenge.rw_kindsfollow_k13_whole_places_of_rows) rfl rfl (fun w h Y => PySem.W.kIn_of Y) ?F
  case F =>
    intro w mg fa h KX G hmg
    refine' KK.all_mk KX G hmg KK.law_true ?a0 ?l0 ?c0 ?k0 ?a1 ?l1 ?c1 ?k1 ?a2 ?l2 ?c2 ?k2 ?a3 ?l3 ?c3 ?k3 ?a4 ?l4 ?c4 ?k4 ?a5 ?l5 ?c5 ?k5 ?a6 ?l6 ?c6 ?k6 ?a7 ?l7 ?c7 ?k7 ?a8 ?l8 ?c8 ?k8 ?a9 ?l9 ?c9 ?k9 ?a10 ?l10 ?c10 ?k10 ?a11 ?l11 ?c11 ?k11 ?a12 ?l12 ?c12 ?k12 ?a13 ?l13 ?c13 ?k13 ?a14 ?l14 ?c14 ?k14 ?a15 ?l15 ?c15 ?k15 ?a16 ?l16 ?c16 ?k16 ?z_ArithmeticError ?z_LookupError ?z_ValueError ?z_abs ?z_all ?z_bool ?z_divmod ?z_enumerate ?z_int ?z_isinstance ?z_len ?z_list ?z_max ?z_min ?z_range ?z_repr ?z_str ?z_sum ?z_tuple ?v_DIGITS ?v_LETTERS ?v_LONGEST_NAME ?v_MOST_THINGS ?yc_NoAnswer ?yc_WrongName ?yc_WrongValue ?xa_InvalidBlocks ?xl_InvalidBlocks ?xs_InvalidBlocks ?xg_InvalidBlocks ?xh_InvalidBlocks ?xf_InvalidBlocks ?xi_InvalidBlocks ?xt_InvalidBlocks ?xk_InvalidBlocks ?xc_InvalidBlocks ?xp_InvalidBlocks ?eb_InvalidBlocks ?et_InvalidBlocks ?xd_InvalidBlocks ?ei_InvalidBlocks ?xq_InvalidBlocks ?xo_InvalidBlocks ?ess_InvalidBlocks ?xa_InvalidNumber ?xl_InvalidNumber ?xs_InvalidNumber ?xg_InvalidNumber ?xh_InvalidNumber ?xf_InvalidNumber ?xi_InvalidNumber ?xt_InvalidNumber ?xk_InvalidNumber ?xc_InvalidNumber ?xp_InvalidNumber ?eb_InvalidNumber ?et_InvalidNumber ?xd_InvalidNumber ?ei_InvalidNumber ?xq_InvalidNumber ?xo_InvalidNumber ?ess_InvalidNumber ?es_InvalidBlocks_InvalidNumber ?es_InvalidNumber_InvalidBlocks ?kx900 ?kx901 ?kx902 ?kx903 ?kx904 ?kx905 ?kx906 ?kx907 ?kx908 ?kx909 ?kx910 ?kx911 ?ke ?kf
    (case a0 => k_is)
    (case l0 => k_is)
    (case c0 => k_is)
    (case k0 => k_is)
    (case a1 => k_is)
    (case l1 => k_is)
    (case c1 => k_is)
    (case k1 => k_is)
    (case a2 => k_is)
    (case l2 => k_is)
    (case c2 => k_is)
    (case k2 => k_is)
    (case a3 => k_is)
    (case l3 => k_is)
    (case c3 => k_is)
    (case k3 => k_is)
    (case a4 => k_is)
    (case l4 => k_is)
    (case c4 => k_is)
    (case k4 => k_is)
    (case a5 => k_is)
    (case l5 => k_is)
    (case c5 => k_is)
    (case k5 => k_is)
    (case a6 => k_is)
    (case l6 => k_is)
    (case c6 => k_is)
    (case k6 => k_is)
    (case a7 => k_is)
    (case l7 => k_is)
    (case c7 => k_is)
    (case k7 => k_is)
    (case a8 => k_is)
    (case l8 => k_is)
    (case c8 => k_is)
    (case k8 => k_is)
    (case a9 => k_is)
    (case l9 => k_is)
    (case c9 => k_is)
    (case k9 => k_is)
    (case a10 => k_is)
    (case l10 => k_is)
    (case c10 => k_is)
    (case k10 => k_is)
    (case a11 => k_is)
    (case l11 => k_is)
    (case c11 => k_is)
    (case k11 => k_is)
    (case a12 => k_is)
    (case l12 => k_is)
    (case c12 => k_is)
    (case k12 => k_is)
    (case a13 => k_is)
    (case l13 => k_is)
    (case c13 => k_is)
    (case k13 => k_is)
    (case a14 => k_is)
    (case l14 => k_is)
    (case c14 => k_is)
    (case k14 => k_is)
    (case a15 => k_is)
    (case l15 => k_is)
    (case c15 => k_is)
    (case k15 => k_is)
    (case a16 => k_is)
    (case l16 => k_is)
    (case c16 => k_is)
    (case k16 => k_is)
    (case z_ArithmeticError => k_is)
    (case z_LookupError => k_is)
    (case z_ValueError => k_is)
    (case z_abs => k_is)
    (case z_all => k_is)
    (case z_bool => k_is)
    (case z_divmod => k_is)
    (case z_enumerate => k_is)
    (case z_int => k_is)
    (case z_isinstance => k_is)
    (case z_len => k_is)
    (case z_list => k_is)
    (case z_max => k_is)
    (case z_min => k_is)
    (case z_range => k_is)
    (case z_repr => k_is)
    (case z_str => k_is)
    (case z_sum => k_is)
    (case z_tuple => k_is)
    (case v_DIGITS => k_is)
    (case v_LETTERS => k_is)
    (case v_LONGEST_NAME => k_is)
    (case v_MOST_THINGS => k_is)
    (case yc_NoAnswer => k_is)
    (case yc_WrongName => k_is)
    (case yc_WrongValue => k_is)
    (case xa_InvalidBlocks => k_is)
    (case xl_InvalidBlocks => k_is)
    (case xs_InvalidBlocks => k_is)
    (case xg_InvalidBlocks => k_is)
    (case xh_InvalidBlocks => k_is)
    (case xf_InvalidBlocks => k_is)
    (case xi_InvalidBlocks => k_is)
    (case xt_InvalidBlocks => k_is)
    (case xk_InvalidBlocks => k_is)
    (case xc_InvalidBlocks => k_is)
    (case xp_InvalidBlocks => k_is)
    (case eb_InvalidBlocks => k_is)
    (case et_InvalidBlocks => k_is)
    (case xd_InvalidBlocks => k_is)
    (case ei_InvalidBlocks => k_is)
    (case xq_InvalidBlocks => k_is)
    (case xo_InvalidBlocks => k_is)
    (case ess_InvalidBlocks => k_is)
    (case xa_InvalidNumber => k_is)
    (case xl_InvalidNumber => k_is)
    (case xs_InvalidNumber => k_is)
    (case xg_InvalidNumber => k_is)
    (case xh_InvalidNumber => k_is)
    (case xf_InvalidNumber => k_is)
    (case xi_InvalidNumber => k_is)
    (case xt_InvalidNumber => k_is)
    (case xk_InvalidNumber => k_is)
    (case xc_InvalidNumber => k_is)
    (case xp_InvalidNumber => k_is)
    (case eb_InvalidNumber => k_is)
    (case et_InvalidNumber => k_is)
    (case xd_InvalidNumber => k_is)
    (case ei_InvalidNumber => k_is)
    (case xq_InvalidNumber => k_is)
    (case xo_InvalidNumber => k_is)
    (case ess_InvalidNumber => k_is)
    (case es_InvalidBlocks_InvalidNumber => k_is)
    (case es_InvalidNumber_InvalidBlocks => k_is)
    (case kx900 => kit_is)
    (case kx901 => kit_is)
    (case kx902 => kit_is)
    (case kx903 => kit_is)
    (case kx904 => kit_is)
    (case kx905 => kit_is)
    (case kx906 => kit_is)
    (case kx907 => kit_is)
    (case kx908 => kit_is)
    (case kx909 => kit_is)
    (case kx910 => kit_is)
    (case kx911 => kit_is)
    (case ke => k_is)
    (case kf => k_is)
