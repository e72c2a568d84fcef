import PyProof.Rows.All
import Wide.All
import OpenK.AllK
import Wide.FinOn
import HandS.ForMost
import HandS.Exc
import HandS.CallSlots
import HandS.WordsExc
import HandS.Walk
import HandS.TupAny
import HandS.TupLe
import HandS.Wide
import HandS.WideBits
import HandS.Deep
import HandS.IsInst
import HandS.Strs
import HandS.More
import HandS.Zip
import HandS.Style
import HandS.Property
import HandS.Defaults
import PyProof.ReprReads
import HandS.Spec
import HandS.Ends
import HandS.Iter
import KE.GoesEnum
import PySem.Challenge.RW_kindsfollow_k07_pairs_in_rules
set_option Elab.async false
set_option linter.all false
set_option maxRecDepth 100000
set_option maxHeartbeats 4000000
/-! KFA: data, stores, worlds; what a value is; the judgements. -/
namespace KF
open PySem PySem.Spec PyProof.Rows L2

abbrev St := L2.St
/-- what a Python value is, without addresses -/
inductive D where
  | non | bl (b : Bool) | int (i : Int) | str (x : Str)
  | tup (xs : List D) | lst (xs : List D) | scr (xs : List D)
  | dct (ks : List Key) (xs : List D)
  | ty (n : String) | obj (a : Addr)
  | ins (C : Addr) (ks : List Str) (xs : List D)
  | cell (n : Nat)
  deriving Inhabited
/-- what stands in a cell of the store -/
inductive Cell where
  | lst (xs : List D) | fro (xs : List D)
  | ins (C : Addr) (ks : List Str) (xs : List D) | fins (C : Addr) (ks : List Str) (xs : List D)
  | dT (ks : List (List Key)) (xs : List D) | dK (ks : List Key) (xs : List D)
  deriving Inhabited
abbrev Store := List Cell
abbrev DSt := List (Option D)
structure Exn where
  c : Value
  fs : Option (List Str × List D)
inductive Res (α : Type) where
  | ok (a : α) (S : Store) | err (e : Exn) (S : Store) | bad
inductive SRes where
  | nx (st : DSt) (S : Store) | rt (d : D) (S : Store) | bk (st : DSt) (S : Store) | ct (st : DSt) (S : Store) | err (e : Exn) (st : DSt) (S : Store) | bad
def Res.bind {α β : Type} (r : Res α) (f : α → Store → Res β) : Res β := match r with
  | .ok a S => f a S
  | .err e S => .err e S
  | .bad => .bad
abbrev EM (α : Type) := DSt → Store → Res α
abbrev SM := DSt → Store → SRes

/-- N: the cells' addresses; M: what may be changed (nobody else looks at it); L: of these what stays as it is for now -/
structure Wd where
  N : List Addr
  M : Addr → Prop
  L : Addr → Prop
  H : Hp
structure Wd.ev (W W' : Wd) : Prop where
  n : ∀ (i : Nat) (a : Addr), W.N[i]? = some a → W'.N[i]? = some a
  h : ∀ b o, W.H b = some o → ¬ W.M b → W'.H b = some o ∧ ¬ W'.M b
structure Wd.le (W W' : Wd) : Prop extends W.ev W' where
  l : ∀ b o, W.L b → W.H b = some o → W'.L b ∧ W'.H b = some o
theorem Wd.le.refl (W : Wd) : W.le W := ⟨⟨fun _ _ h => h, fun _ _ h m => ⟨h, m⟩⟩, fun _ _ l h => ⟨l, h⟩⟩
theorem Wd.ev.trans {A B C : Wd} (x : A.ev B) (y : B.ev C) : A.ev C :=
  ⟨fun i a h => y.n i a (x.n i a h), fun b o h m => let ⟨h1, m1⟩ := x.h b o h m; y.h b o h1 m1⟩
theorem Wd.le.trans {A B C : Wd} (x : A.le B) (y : B.le C) : A.le C :=
  ⟨x.toev.trans y.toev, fun b o l h => let ⟨l1, h1⟩ := x.l b o l h; y.l b o l1 h1⟩

def Wrt (K : PySem.W.Frag) (n : String) (a : Addr) (xs : List V) : Prop := ∃ (o : Obj) (its : Array Value) (n' : Nat), K.lookup a = some o ∧ o.cls = .type n ∧ (n = "list" → o.dict = none) ∧ o.data = .seq its n' ∧ its.size ≤ sizeLine ∧ Vals xs its.toList
def Wd.tupAt (K : PySem.W.Frag) (W : Wd) (a : Addr) (vs : List V) : Prop := (Rd W.H a (.tup vs) ∧ ¬ W.M a) ∨ Wrt K "tuple" a vs
def Wd.lstAt (K : PySem.W.Frag) (W : Wd) (a : Addr) (vs : List V) : Prop := (Rd W.H a (.lst vs) ∧ ¬ W.M a) ∨ Wrt K "list" a vs
theorem Wd.tupAt.sq {K : PySem.W.Frag} {W : Wd} {a : Addr} {vs : List V} (h : W.tupAt K a vs) : SqT K W.H a vs := by
  rcases h with ⟨h, _⟩ | ⟨o, its, n, h1, h2, _, h3, h4, h5⟩
  · exact .inl h
  · exact .inr ⟨o, its, n, h1, h2, h3, h4, h5⟩
theorem Wd.lstAt.sq {K : PySem.W.Frag} {W : Wd} {a : Addr} {vs : List V} (h : W.lstAt K a vs) : SqL K W.H a vs := by
  rcases h with ⟨h, _⟩ | ⟨o, its, n, h1, h2, h2', h3, h4, h5⟩
  · exact .inl h
  · exact .inr ⟨o, its, n, h1, h2, h2' rfl, h3, h4, h5⟩
theorem rd_mono {W W' : Wd} (l : W.ev W') {a : Addr} {u : HO} (h : Rd W.H a u) (m : ¬ W.M a) : Rd W'.H a u ∧ ¬ W'.M a := by
  rcases h with h | ⟨o, h⟩
  · exact ⟨.inl (l.h _ _ h m).1, (l.h _ _ h m).2⟩
  · exact ⟨.inr ⟨o, (l.h _ _ h m).1⟩, (l.h _ _ h m).2⟩
theorem Wd.tupAt.monoE {K : PySem.W.Frag} {W W' : Wd} {a : Addr} {vs : List V} (l : W.ev W') (h : W.tupAt K a vs) : W'.tupAt K a vs := by
  rcases h with ⟨h, m⟩ | h
  · exact .inl (rd_mono l h m)
  · exact .inr h
theorem Wd.lstAt.monoE {K : PySem.W.Frag} {W W' : Wd} {a : Addr} {vs : List V} (l : W.ev W') (h : W.lstAt K a vs) : W'.lstAt K a vs := by
  rcases h with ⟨h, m⟩ | h
  · exact .inl (rd_mono l h m)
  · exact .inr h

theorem Wd.tupAt.mono {K : PySem.W.Frag} {W W' : Wd} {a : Addr} {vs : List V} (l : W.le W') (h : W.tupAt K a vs) : W'.tupAt K a vs := h.monoE l.toev
theorem Wd.lstAt.mono {K : PySem.W.Frag} {W W' : Wd} {a : Addr} {vs : List V} (l : W.le W') (h : W.lstAt K a vs) : W'.lstAt K a vs := h.monoE l.toev
mutual
/-- the value v is the data d -/
def Rep (K : PySem.W.Frag) (W : Wd) : D → V → Prop
  | .non, v => v = .non
  | .bl b, v => v = .bl b
  | .int i, v => v = .int i
  | .str x, v => v = .str x
  | .ty n, v => v = .ty n
  | .obj a, v => v = .ref a
  | .tup xs, v => ∃ a vs, v = .ref a ∧ W.tupAt K a vs ∧ RepL K W xs vs
  | .lst xs, v => ∃ a vs, v = .ref a ∧ W.H a = some (.lst vs) ∧ ¬ W.M a ∧ RepL K W xs vs
  | .scr xs, v => ∃ a vs, v = .ref a ∧ W.lstAt K a vs ∧ RepL K W xs vs
  | .dct ks xs, v => ∃ a vs, v = .ref a ∧ Rd W.H a (.dK (ks.zip vs)) ∧ ¬ W.M a ∧ ks.length = vs.length ∧ RepL K W xs vs
  | .ins C ks xs, v => ∃ a dx vs, v = .ref a ∧ W.H a = some (.ins C dx (ks.zip vs)) ∧ ¬ W.M a ∧ ks.length = vs.length ∧ RepL K W xs vs
  | .cell n, v => ∃ a, v = .ref a ∧ W.N[n]? = some a
def RepL (K : PySem.W.Frag) (W : Wd) : List D → List V → Prop
  | [], vs => vs = []
  | d :: ds, vs => ∃ v r, vs = v :: r ∧ Rep K W d v ∧ RepL K W ds r
end
mutual
theorem Rep.monoE {K : PySem.W.Frag} {W W' : Wd} (l : W.ev W') : ∀ (d : D) (v : V), Rep K W d v → Rep K W' d v
  | .non, v, h | .bl b, v, h | .int i, v, h | .str x, v, h | .ty n, v, h | .obj a, v, h => by simpa only [Rep] using h
  | .tup xs, v, h => by
    simp only [Rep] at h ⊢
    obtain ⟨a, vs, e, t, r⟩ := h
    exact ⟨a, vs, e, t.monoE l, RepL.monoE l xs vs r⟩
  | .lst xs, v, h => by
    simp only [Rep] at h ⊢
    obtain ⟨a, vs, e, t, m, r⟩ := h
    obtain ⟨t', m'⟩ := l.h _ _ t m
    exact ⟨a, vs, e, t', m', RepL.monoE l xs vs r⟩
  | .scr xs, v, h => by
    simp only [Rep] at h ⊢
    obtain ⟨a, vs, e, t, r⟩ := h
    exact ⟨a, vs, e, t.monoE l, RepL.monoE l xs vs r⟩
  | .dct ks xs, v, h => by
    simp only [Rep] at h ⊢
    obtain ⟨a, vs, e, t, m, z, r⟩ := h
    obtain ⟨t', m'⟩ := rd_mono l t m
    exact ⟨a, vs, e, t', m', z, RepL.monoE l xs vs r⟩
  | .ins C ks xs, v, h => by
    simp only [Rep] at h ⊢
    obtain ⟨a, dx, vs, e, t, m, z, r⟩ := h
    obtain ⟨t', m'⟩ := l.h _ _ t m
    exact ⟨a, dx, vs, e, t', m', z, RepL.monoE l xs vs r⟩
  | .cell n, v, h => by
    simp only [Rep] at h ⊢
    obtain ⟨a, e, q⟩ := h
    exact ⟨a, e, l.n _ _ q⟩
theorem RepL.monoE {K : PySem.W.Frag} {W W' : Wd} (l : W.ev W') : ∀ (ds : List D) (vs : List V), RepL K W ds vs → RepL K W' ds vs
  | [], vs, h => by simpa only [RepL] using h
  | d :: ds, vs, h => by
    simp only [RepL] at h ⊢
    obtain ⟨v, r, e, h1, h2⟩ := h
    exact ⟨v, r, e, Rep.monoE l d v h1, RepL.monoE l ds r h2⟩
end
theorem Rep.mono {K : PySem.W.Frag} {W W' : Wd} (l : W.le W') (d : D) (v : V) (h : Rep K W d v) : Rep K W' d v := Rep.monoE l.toev d v h
theorem RepL.mono {K : PySem.W.Frag} {W W' : Wd} (l : W.le W') (ds : List D) (vs : List V) (h : RepL K W ds vs) : RepL K W' ds vs := RepL.monoE l.toev ds vs h
section
variable {K : PySem.W.Frag} {W W' : Wd}
theorem RepL.length : ∀ {ds : List D} {vs : List V}, RepL K W ds vs → ds.length = vs.length
  | [], vs, h => by simp only [RepL] at h; subst h; rfl
  | d :: ds, vs, h => by
    simp only [RepL] at h
    obtain ⟨v, r, rfl, _, h2⟩ := h
    simp [RepL.length h2]
theorem repL_nil : RepL K W [] [] := by simp only [RepL]
theorem repL_cons {d : D} {ds : List D} {v : V} {vs : List V} (h : Rep K W d v) (t : RepL K W ds vs) : RepL K W (d :: ds) (v :: vs) := by
  simp only [RepL]
  exact ⟨v, vs, rfl, h, t⟩
theorem repL_append : ∀ {ds es : List D} {vs us : List V}, RepL K W ds vs → RepL K W es us → RepL K W (ds ++ es) (vs ++ us)
  | [], es, vs, us, h, t => by simp only [RepL] at h; subst h; exact t
  | d :: ds, es, vs, us, h, t => by
    simp only [RepL] at h
    obtain ⟨v, r, rfl, h1, h2⟩ := h
    exact repL_cons h1 (repL_append h2 t)
theorem RepL.get : ∀ {ds : List D} {vs : List V} {i : Nat} {d : D}, RepL K W ds vs → ds[i]? = some d → ∃ v, vs[i]? = some v ∧ Rep K W d v
  | [], _, _, _, _, e => by simp at e
  | d :: ds, vs, 0, x, h, e => by
    simp only [RepL] at h
    obtain ⟨v, r, rfl, h1, h2⟩ := h
    simp at e
    subst e
    exact ⟨v, rfl, h1⟩
  | d :: ds, vs, i + 1, x, h, e => by
    simp only [RepL] at h
    obtain ⟨v, r, rfl, h1, h2⟩ := h
    obtain ⟨u, q1, q2⟩ := RepL.get (i := i) h2 (by simpa using e)
    exact ⟨u, by simpa using q1, q2⟩
theorem RepL.getV : ∀ {ds : List D} {vs : List V} {i : Nat} {v : V}, RepL K W ds vs → vs[i]? = some v → ∃ d, ds[i]? = some d ∧ Rep K W d v := fun {ds vs i v} h e => by
  have hl := h.length
  have hi : i < ds.length := by
    have := (List.getElem?_eq_some_iff.mp e).1
    omega
  obtain ⟨u, q1, q2⟩ := h.get (List.getElem?_eq_getElem hi)
  rw [e] at q1
  cases q1
  exact ⟨_, List.getElem?_eq_getElem hi, q2⟩
theorem RepL.take : ∀ {ds : List D} {vs : List V} (n : Nat), RepL K W ds vs → RepL K W (ds.take n) (vs.take n)
  | [], vs, n, h => by simp only [RepL] at h; subst h; simp [RepL]
  | d :: ds, vs, 0, h => by simp [RepL]
  | d :: ds, vs, n + 1, h => by
    simp only [RepL] at h
    obtain ⟨v, r, rfl, h1, h2⟩ := h
    exact repL_cons h1 (RepL.take n h2)
theorem RepL.drop : ∀ {ds : List D} {vs : List V} (n : Nat), RepL K W ds vs → RepL K W (ds.drop n) (vs.drop n)
  | [], vs, n, h => by simp only [RepL] at h; subst h; simp [RepL]
  | d :: ds, vs, 0, h => h
  | d :: ds, vs, n + 1, h => by
    simp only [RepL] at h
    obtain ⟨v, r, rfl, h1, h2⟩ := h
    exact RepL.drop n h2
theorem RepL.set {d : D} {v : V} (hd : Rep K W d v) : ∀ {ds : List D} {vs : List V} (n : Nat), RepL K W ds vs → RepL K W (ds.set n d) (vs.set n v)
  | [], vs, n, h => by simp only [RepL] at h; subst h; simp [RepL]
  | e :: ds, vs, 0, h => by
    simp only [RepL] at h
    obtain ⟨u, r, rfl, h1, h2⟩ := h
    exact repL_cons hd h2
  | e :: ds, vs, n + 1, h => by
    simp only [RepL] at h
    obtain ⟨u, r, rfl, h1, h2⟩ := h
    exact repL_cons h1 (RepL.set hd n h2)
end

/-- the slots -/
def RepE (K : PySem.W.Frag) (W : Wd) (st : DSt) (σ : St) : Prop := st.length = σ.length ∧ ∀ (i : Nat) (d : D), st[i]? = some (some d) → ∃ v, σ[i]? = some (some v) ∧ Rep K W d v
theorem RepE.monoE {K : PySem.W.Frag} {W W' : Wd} (l : W.ev W') {st : DSt} {σ : St} (h : RepE K W st σ) : RepE K W' st σ :=
  ⟨h.1, fun i d e => let ⟨v, h1, h2⟩ := h.2 i d e; ⟨v, h1, h2.monoE l _ _⟩⟩
theorem RepE.mono {K : PySem.W.Frag} {W W' : Wd} (l : W.le W') {st : DSt} {σ : St} (h : RepE K W st σ) : RepE K W' st σ := h.monoE l.toev
theorem RepE.set {K : PySem.W.Frag} {W : Wd} {st : DSt} {σ : St} (h : RepE K W st σ) {d : D} {v : V} (i : Nat) (r : Rep K W d v) : RepE K W (st.set i (some d)) (σ.set i (some v)) := by
  refine ⟨by simp [h.1], fun j x e => ?_⟩
  by_cases hj : i = j
  · subst hj
    by_cases hi : i < st.length
    · rw [List.getElem?_set_self hi] at e
      cases e
      exact ⟨v, by rw [List.getElem?_set_self (by rw [← h.1]; exact hi)], r⟩
    · rw [List.getElem?_eq_none (by simpa using hi)] at e
      cases e
  · rw [List.getElem?_set_ne hj] at e
    obtain ⟨u, q1, q2⟩ := h.2 j x e
    exact ⟨u, by rw [List.getElem?_set_ne hj]; exact q1, q2⟩
theorem RepE.unset {K : PySem.W.Frag} {W : Wd} {st : DSt} {σ : St} (h : RepE K W st σ) (i : Nat) : RepE K W (st.set i none) (σ.set i none) := by
  refine ⟨by simp [h.1], fun j x e => ?_⟩
  by_cases hj : i = j
  · subst hj
    by_cases hi : i < st.length
    · rw [List.getElem?_set_self hi] at e
      cases e
    · rw [List.getElem?_eq_none (by simpa using hi)] at e
      cases e
  · rw [List.getElem?_set_ne hj] at e
    obtain ⟨u, q1, q2⟩ := h.2 j x e
    exact ⟨u, by rw [List.getElem?_set_ne hj]; exact q1, q2⟩

/-- what stands in the cell at a -/
def CRep (K : PySem.W.Frag) (W : Wd) (a : Addr) : Cell → Prop
  | .lst xs => ∃ vs, W.H a = some (.lst vs) ∧ W.M a ∧ RepL K W xs vs
  | .fro xs => ∃ vs, W.H a = some (.lst vs) ∧ ¬ W.M a ∧ RepL K W xs vs
  | .ins C ks xs => ∃ dx vs, W.H a = some (.ins C dx (ks.zip vs)) ∧ W.M a ∧ ks.length = vs.length ∧ RepL K W xs vs
  | .fins C ks xs => ∃ dx vs, W.H a = some (.ins C dx (ks.zip vs)) ∧ ¬ W.M a ∧ ks.length = vs.length ∧ RepL K W xs vs
  | .dT ks xs => ∃ vs, W.H a = some (.dT (ks.zip vs)) ∧ W.M a ∧ ks.length = vs.length ∧ RepL K W xs vs
  | .dK ks xs => ∃ vs, W.H a = some (.dK (ks.zip vs)) ∧ W.M a ∧ ks.length = vs.length ∧ RepL K W xs vs
structure SRep (K : PySem.W.Frag) (W : Wd) (S : Store) : Prop where
  len : W.N.length = S.length
  nd : W.N.Nodup
  tr : ∀ a ∈ W.N, W.H a ≠ none
  mn : ∀ a, W.M a → W.H a ≠ none
  lk : ∀ a, W.L a → W.M a ∧ a ∉ W.N
  at_ : ∀ (n : Nat) (a : Addr) (c : Cell), W.N[n]? = some a → S[n]? = some c → CRep K W a c
/-- a cell that is not touched, in a later world -/
theorem CRep.mono {K : PySem.W.Frag} {W W' : Wd} (l : W.ev W') {a : Addr} {c : Cell} (hh : W'.H a = W.H a) (hm : W'.M a ↔ W.M a) (h : CRep K W a c) : CRep K W' a c := by
  cases c <;> simp only [CRep, hh, hm] at h ⊢
  · obtain ⟨vs, h1, h2, h3⟩ := h; exact ⟨vs, h1, h2, h3.monoE l _ _⟩
  · obtain ⟨vs, h1, h2, h3⟩ := h; exact ⟨vs, h1, h2, h3.monoE l _ _⟩
  · obtain ⟨dx, vs, h1, h2, h3, h4⟩ := h; exact ⟨dx, vs, h1, h2, h3, h4.monoE l _ _⟩
  · obtain ⟨dx, vs, h1, h2, h3, h4⟩ := h; exact ⟨dx, vs, h1, h2, h3, h4.monoE l _ _⟩
  · obtain ⟨vs, h1, h2, h3, h4⟩ := h; exact ⟨vs, h1, h2, h3, h4.monoE l _ _⟩
  · obtain ⟨vs, h1, h2, h3, h4⟩ := h; exact ⟨vs, h1, h2, h3, h4.monoE l _ _⟩

/-! ### new objects, changed cells -/
def Wd.put (W : Wd) (p : Addr) (o : HO) : Wd := { W with H := upd W.H p o }
section
variable {K : PySem.W.Frag} {W : Wd} {S : Store} {p : Addr} {o : HO}
theorem SRep.nl (h : SRep K W S) {n : Nat} {a : Addr} (hn : W.N[n]? = some a) : ¬ W.L a := fun l => (h.lk a l).2 (List.mem_of_getElem? hn)
theorem SRep.noM (h : SRep K W S) {p : Addr} (hp : W.H p = none) : ¬ W.M p := fun m => h.mn p m hp
theorem SRep.noN (h : SRep K W S) {p : Addr} (hp : W.H p = none) : p ∉ W.N := fun m => h.tr p m hp
theorem Wd.put_le (hp : W.H p = none) : W.le (W.put p o) :=
  ⟨⟨fun _ _ h => h, fun b u h m => ⟨by show upd W.H p o b = some u; rw [upd_ne (ne_of_none h hp)]; exact h, m⟩⟩, fun b u l h => ⟨l, by show upd W.H p o b = some u; rw [upd_ne (ne_of_none h hp)]; exact h⟩⟩
/-- a new object that is nobody's cell -/
theorem SRep.put (h : SRep K W S) (hp : W.H p = none) : SRep K (W.put p o) S := by
  have hn := h.noN hp
  have up : ∀ {a : Addr}, a ∈ W.N → (W.put p o).H a = W.H a := fun {a} ha => by
    show upd W.H p o a = _
    exact upd_ne (fun e => hn (e ▸ ha))
  refine ⟨h.len, h.nd, fun a ha => ?_, fun a ha => ?_, h.lk, fun n a c h1 h2 => ?_⟩
  · rw [up ha]; exact h.tr a ha
  · show upd W.H p o a ≠ none
    rw [upd_ne (fun e : a = p => h.mn a ha (by rw [e]; exact hp))]
    exact h.mn a ha
  · exact (h.at_ n a c h1 h2).mono (Wd.put_le hp).toev (up (List.mem_of_getElem? h1)) Iff.rfl
/-- a new object that is a new cell -/
def Wd.cel (W : Wd) (p : Addr) (o : HO) : Wd := { N := W.N ++ [p], M := fun a => W.M a ∨ a = p, L := W.L, H := upd W.H p o }
theorem Wd.cel_le (hp : W.H p = none) : W.le (W.cel p o) := by
  refine ⟨⟨fun i a h => ?_, fun b u h m => ?_⟩, fun b u l h => ⟨l, by show upd W.H p o b = some u; rw [upd_ne (ne_of_none h hp)]; exact h⟩⟩
  · show (W.N ++ [p])[i]? = some a
    rw [List.getElem?_append_left (List.getElem?_eq_some_iff.mp h).1]
    exact h
  · have nb := ne_of_none h hp
    refine ⟨by show upd W.H p o b = some u; rw [upd_ne nb]; exact h, fun z => ?_⟩
    rcases z with z | z
    · exact m z
    · exact nb z
theorem SRep.cel (h : SRep K W S) (hp : W.H p = none) {c : Cell} (hc : CRep K (W.cel p o) p c) : SRep K (W.cel p o) (S ++ [c]) := by
  have hn := h.noN hp
  have up : ∀ {a : Addr}, a ∈ W.N → (W.cel p o).H a = W.H a := fun {a} ha => by
    show upd W.H p o a = _
    exact upd_ne (fun e => hn (e ▸ ha))
  refine ⟨by show (W.N ++ [p]).length = _; simp [h.len], ?_, fun a ha => ?_, fun a ha => ?_, fun a ha => ⟨.inl (h.lk a ha).1, fun hm => ?_⟩, fun n a d h1 h2 => ?_⟩
  · show (W.N ++ [p]).Nodup
    rw [List.nodup_append]
    refine ⟨h.nd, by simp, fun a ha b hb => ?_⟩
    simp at hb
    subst hb
    exact fun e => hn (e ▸ ha)
  · rcases List.mem_append.mp ha with ha | ha
    · rw [up ha]; exact h.tr a ha
    · simp at ha
      subst ha
      show upd W.H a o a ≠ none
      rw [upd_same]
      simp
  · show upd W.H p o a ≠ none
    by_cases e : a = p
    · subst e; rw [upd_same]; simp
    · rw [upd_ne e]
      rcases ha with ha | ha
      · exact h.mn a ha
      · exact absurd ha e
  · rcases List.mem_append.mp hm with hm | hm
    · exact (h.lk a ha).2 hm
    · simp at hm
      subst hm
      exact h.mn a (h.lk a ha).1 hp
  · have h1' : (W.N ++ [p])[n]? = some a := h1
    by_cases hlt : n < W.N.length
    · rw [List.getElem?_append_left hlt] at h1'
      rw [List.getElem?_append_left (by rw [← h.len]; exact hlt)] at h2
      have hm := List.mem_of_getElem? h1'
      refine (h.at_ n a d h1' h2).mono (Wd.cel_le hp).toev (up hm) ⟨fun z => ?_, .inl⟩
      rcases z with z | z
      · exact z
      · exact absurd (z ▸ hm) hn
    · rw [List.getElem?_append_right (by omega)] at h1'
      rw [List.getElem?_append_right (by rw [← h.len]; omega)] at h2
      have e0 : n - W.N.length = 0 := by
        have := (List.getElem?_eq_some_iff.mp h1').1
        simp at this
        omega
      rw [e0] at h1'
      rw [← h.len, e0] at h2
      simp at h1' h2
      subst h1'
      subst h2
      exact hc
/-- a cell is changed; M' may let it go -/
def Wd.wr (W : Wd) (a : Addr) (o : HO) (b : Prop) : Wd := { W with M := fun x => W.M x ∧ (x = a → b), H := upd W.H a o }
theorem Wd.wr_ev {a : Addr} {b : Prop} (hm : W.M a) : W.ev (W.wr a o b) := by
  refine ⟨fun _ _ h => h, fun x u h m => ?_⟩
  have ne : x ≠ a := fun e => m (e ▸ hm)
  exact ⟨by show upd W.H a o x = some u; rw [upd_ne ne]; exact h, fun z => m z.1⟩
theorem Wd.wr_le {a : Addr} {b : Prop} (hm : W.M a) (hl : ¬ W.L a) : W.le (W.wr a o b) :=
  ⟨Wd.wr_ev hm, fun x u l h => ⟨l, by
    show upd W.H a o x = some u
    rw [upd_ne fun e : x = a => hl (e ▸ l)]
    exact h⟩⟩
theorem SRep.wr (h : SRep K W S) {n : Nat} {a : Addr} {b : Prop} (hn : W.N[n]? = some a) (hm : W.M a) {c : Cell} (hc : CRep K (W.wr a o b) a c) : SRep K (W.wr a o b) (S.set n c) := by
  refine ⟨by simp [Wd.wr, h.len], h.nd, fun x hx => ?_, fun x hx => ?_, fun x hx => ⟨⟨(h.lk x hx).1, fun e => absurd (List.mem_of_getElem? hn) (e ▸ (h.lk x hx).2)⟩, (h.lk x hx).2⟩, fun j x d h1 h2 => ?_⟩
  · show upd W.H a o x ≠ none
    by_cases e : x = a
    · subst e; rw [upd_same]; simp
    · rw [upd_ne e]; exact h.tr x hx
  · show upd W.H a o x ≠ none
    by_cases e : x = a
    · subst e; rw [upd_same]; simp
    · rw [upd_ne e]; exact h.mn x hx.1
  · have h1' : W.N[j]? = some x := h1
    by_cases hj : n = j
    · subst hj
      rw [hn] at h1'
      cases h1'
      rw [List.getElem?_set_self (by rw [← h.len]; exact (List.getElem?_eq_some_iff.mp hn).1)] at h2
      cases h2
      exact hc
    · rw [List.getElem?_set_ne hj] at h2
      have ne : x ≠ a := fun e => by
        subst e
        exact hj ((List.getElem?_inj (List.getElem?_eq_some_iff.mp hn).1 h.nd).mp (hn.trans h1'.symm))
      refine (h.at_ j x d h1' h2).mono (Wd.wr_ev hm) ?_ ⟨fun z => z.1, fun z => ⟨z, fun e => absurd e ne⟩⟩
      show upd W.H a o x = W.H x
      exact upd_ne ne
end

section
variable {K : PySem.W.Frag} {W : Wd} {S : Store} {a : Addr} {o : HO}
/-- a new object that may be changed, of which nobody has a name -/
def Wd.anon (W : Wd) (p : Addr) (o : HO) : Wd := { W with M := fun a => W.M a ∨ a = p, H := upd W.H p o }
theorem Wd.anon_le {p : Addr} (hp : W.H p = none) : W.le (W.anon p o) := ⟨⟨fun _ _ h => h, fun b u h m => by
  have nb := ne_of_none h hp
  refine ⟨by show upd W.H p o b = some u; rw [upd_ne nb]; exact h, fun z => ?_⟩
  rcases z with z | z
  · exact m z
  · exact nb z⟩, fun b u l h => ⟨l, by show upd W.H p o b = some u; rw [upd_ne (ne_of_none h hp)]; exact h⟩⟩
theorem SRep.anon (h : SRep K W S) {p : Addr} (hp : W.H p = none) : SRep K (W.anon p o) S := by
  have hn := h.noN hp
  have up : ∀ {a : Addr}, a ∈ W.N → (W.anon p o).H a = W.H a := fun {a} ha => by
    show upd W.H p o a = _
    exact upd_ne (fun e => hn (e ▸ ha))
  refine ⟨h.len, h.nd, fun a ha => ?_, fun a ha => ?_, fun a ha => ⟨.inl (h.lk a ha).1, (h.lk a ha).2⟩, fun n a c h1 h2 => ?_⟩
  · rw [up ha]; exact h.tr a ha
  · show upd W.H p o a ≠ none
    by_cases e : a = p
    · subst e; rw [upd_same]; simp
    · rw [upd_ne e]
      rcases ha with ha | ha
      · exact h.mn a ha
      · exact absurd ha e
  · have hm := List.mem_of_getElem? h1
    refine (h.at_ n a c h1 h2).mono (Wd.anon_le hp).toev (up hm) ⟨fun z => ?_, .inl⟩
    rcases z with z | z
    · exact z
    · exact absurd (z ▸ hm) hn
/-- such an object is changed; b: it stays changeable -/
theorem SRep.wrA (h : SRep K W S) {b : Prop} (hn : a ∉ W.N) (hm : W.M a) (hl : ¬ W.L a) : SRep K (W.wr a o b) S := by
  refine ⟨h.len, h.nd, fun x hx => ?_, fun x hx => ?_, fun x hx => ⟨⟨(h.lk x hx).1, fun e => absurd hx (e ▸ hl)⟩, (h.lk x hx).2⟩, fun j x d h1 h2 => ?_⟩
  · show upd W.H a o x ≠ none
    by_cases e : x = a
    · subst e; rw [upd_same]; simp
    · rw [upd_ne e]; exact h.tr x hx
  · show upd W.H a o x ≠ none
    by_cases e : x = a
    · subst e; rw [upd_same]; simp
    · rw [upd_ne e]; exact h.mn x hx.1
  · have ne : x ≠ a := fun e => hn (e ▸ List.mem_of_getElem? h1)
    refine (h.at_ j x d h1 h2).mono (Wd.wr_ev hm) ?_ ⟨fun z => z.1, fun z => ⟨z, fun e => absurd e ne⟩⟩
    show upd W.H a o x = W.H x
    exact upd_ne ne
/-- locked, unlocked and changed -/
def Wd.lock (W : Wd) (a : Addr) : Wd := { W with L := fun x => W.L x ∨ x = a }
theorem Wd.lock_le : W.le (W.lock a) := ⟨⟨fun _ _ h => h, fun b u h m => ⟨h, m⟩⟩, fun b u l h => ⟨.inl l, h⟩⟩
theorem SRep.lock (h : SRep K W S) (hn : a ∉ W.N) (hm : W.M a) : SRep K (W.lock a) S := by
  refine ⟨h.len, h.nd, h.tr, h.mn, fun x hx => ?_, fun j x d h1 h2 => (h.at_ j x d h1 h2).mono (Wd.lock_le (a := a)).toev rfl Iff.rfl⟩
  rcases hx with hx | hx
  · exact h.lk x hx
  · subst hx
    exact ⟨hm, hn⟩
def Wd.unlock (W : Wd) (a : Addr) : Wd := { W with L := fun x => W.L x ∧ x ≠ a }
theorem Wd.unlock_ev : W.ev (W.unlock a) := ⟨fun _ _ h => h, fun b u h m => ⟨h, m⟩⟩
theorem SRep.unlock (h : SRep K W S) : SRep K (W.unlock a) S :=
  ⟨h.len, h.nd, h.tr, h.mn, fun x hx => h.lk x hx.1, fun j x d h1 h2 => (h.at_ j x d h1 h2).mono (Wd.unlock_ev (a := a)) rfl Iff.rfl⟩
/-- such an object gets a name -/
def Wd.name (W : Wd) (a : Addr) : Wd := { W with N := W.N ++ [a] }
theorem Wd.name_le : W.le (W.name a) := ⟨⟨fun i x h => by
  show (W.N ++ [a])[i]? = some x
  rw [List.getElem?_append_left (List.getElem?_eq_some_iff.mp h).1]
  exact h, fun b u h m => ⟨h, m⟩⟩, fun b u l h => ⟨l, h⟩⟩
theorem SRep.name (h : SRep K W S) (hn : a ∉ W.N) (hm : W.M a) (hl : ¬ W.L a) {c : Cell} (hc : CRep K (W.name a) a c) : SRep K (W.name a) (S ++ [c]) := by
  refine ⟨by show (W.N ++ [a]).length = _; simp [h.len], ?_, fun x hx => ?_, fun x hx => h.mn x hx, fun x hx => ⟨(h.lk x hx).1, fun hm2 => ?_⟩, fun j x d h1 h2 => ?_⟩
  · show (W.N ++ [a]).Nodup
    rw [List.nodup_append]
    refine ⟨h.nd, by simp, fun x hx b hb => ?_⟩
    simp at hb
    subst hb
    exact fun e => hn (e ▸ hx)
  · rcases List.mem_append.mp hx with hx | hx
    · exact h.tr x hx
    · simp at hx
      subst hx
      exact h.mn x hm
  · rcases List.mem_append.mp hm2 with hm2 | hm2
    · exact (h.lk x hx).2 hm2
    · simp at hm2
      subst hm2
      exact hl hx
  · have h1' : (W.N ++ [a])[j]? = some x := h1
    by_cases hlt : j < W.N.length
    · rw [List.getElem?_append_left hlt] at h1'
      rw [List.getElem?_append_left (by rw [← h.len]; exact hlt)] at h2
      exact (h.at_ j x d h1' h2).mono Wd.name_le.toev rfl Iff.rfl
    · rw [List.getElem?_append_right (by omega)] at h1'
      rw [List.getElem?_append_right (by rw [← h.len]; omega)] at h2
      have e0 : j - W.N.length = 0 := by
        have := (List.getElem?_eq_some_iff.mp h1').1
        simp at this
        omega
      rw [e0] at h1'
      rw [← h.len, e0] at h2
      simp at h1' h2
      subst h1'
      subst h2
      exact hc
end
/-! ### what is wanted of a result -/
def ERep (K : PySem.W.Frag) (W : Wd) (e : Exn) (od : Option Addr) : Prop := match e.fs with
  | none => od = none
  | some (ks, ds) => ∃ dx vs, od = some dx ∧ W.H dx = some (.xd (ks.zip vs)) ∧ ¬ W.M dx ∧ ks.length = vs.length ∧ RepL K W ds vs
/-- of an expression's: Q of the value, Wx of the exception -/
def RQ (K : PySem.W.Frag) (W : Wd) (Q : Wd → Store → D → Prop) (E : Wd → Store → Exn → Prop) : Res D → Prop
  | .ok d S' => Q W S' d
  | .err e S' => E W S' e
  | .bad => False
def VQ (K : PySem.W.Frag) (W : Wd) (Q : VK) (E : XK) : Res D → Prop
  | .ok d S' => ∀ W' v, W.le W' → SRep K W' S' → Rep K W' d v → Q v W'.H
  | .err e S' => ∀ W' od, W.le W' → SRep K W' S' → ERep K W' e od → E e.c od W'.H
  | .bad => False
theorem VQ.mono {K : PySem.W.Frag} {W W1 : Wd} {Q : VK} {E : XK} (l : W.le W1) {r : Res D} (h : VQ K W Q E r) : VQ K W1 Q E r := by
  cases r with
  | ok d S => exact fun W' v l' s q => h W' v (l.trans l') s q
  | err e S => exact fun W' od l' s q => h W' od (l.trans l') s q
  | bad => exact h
/-- a list of values -/
def LQ (K : PySem.W.Frag) (W : Wd) (Q : List V → Hp → Prop) (E : XK) : Res (List D) → Prop
  | .ok ds S' => ∀ W' vs, W.le W' → SRep K W' S' → RepL K W' ds vs → Q vs W'.H
  | .err e S' => ∀ W' od, W.le W' → SRep K W' S' → ERep K W' e od → E e.c od W'.H
  | .bad => False
/-- a truth -/
def BQ (K : PySem.W.Frag) (W : Wd) (Q : Bool → Hp → Prop) (E : XK) : Res Bool → Prop
  | .ok b S' => ∀ W', W.le W' → SRep K W' S' → Q b W'.H
  | .err e S' => ∀ W' od, W.le W' → SRep K W' S' → ERep K W' e od → E e.c od W'.H
  | .bad => False
/-- of a statement's -/
def SQ (K : PySem.W.Frag) (W : Wd) (D : Ends) (Wx : WX) : SRes → Prop
  | .nx st S => ∀ W' σ, W.le W' → SRep K W' S → RepE K W' st σ → D.nx σ W'.H
  | .bk st S => ∀ W' σ, W.le W' → SRep K W' S → RepE K W' st σ → D.bk σ W'.H
  | .ct st S => ∀ W' σ, W.le W' → SRep K W' S → RepE K W' st σ → D.ct σ W'.H
  | .rt d S => ∀ W' v, W.le W' → SRep K W' S → Rep K W' d v → D.rt v W'.H
  | .err e st S => ∀ W' σ od, W.le W' → SRep K W' S → RepE K W' st σ → ERep K W' e od → Wx e.c od σ W'.H
  | .bad => False
theorem SQ.mono {K : PySem.W.Frag} {W W1 : Wd} {D : Ends} {Wx : WX} (l : W.le W1) {r : SRes} (h : SQ K W D Wx r) : SQ K W1 D Wx r := by
  cases r with
  | nx st S => exact fun W' σ l' s q => h W' σ (l.trans l') s q
  | bk st S => exact fun W' σ l' s q => h W' σ (l.trans l') s q
  | ct st S => exact fun W' σ l' s q => h W' σ (l.trans l') s q
  | rt d S => exact fun W' v l' s q => h W' v (l.trans l') s q
  | err e st S => exact fun W' σ od l' s q z => h W' σ od (l.trans l') s q z
  | bad => exact h

/-- where one stands: the world, the slots, the store -/
structure At (K : PySem.W.Frag) (W : Wd) (st : DSt) (S : Store) (σ : St) (H : Hp) : Prop where
  h : W.H = H
  s : SRep K W S
  e : RepE K W st σ
def tD (K : PySem.W.Frag) (Wx : WX) (m : EM D) : TE := fun σ H Q => ∃ W st S, At K W st S σ H ∧ VQ K W Q (fun c d H' => Wx c d σ H') (m st S)
def tDB (K : PySem.W.Frag) (Wx : WX) (m : EM Bool) : TT := fun σ H Q => ∃ W st S, At K W st S σ H ∧ BQ K W Q (fun c d H' => Wx c d σ H') (m st S)
def tDL (K : PySem.W.Frag) (Wx : WX) (m : EM (List D)) : TA := fun σ H Q => ∃ W st S, At K W st S σ H ∧ LQ K W Q (fun c d H' => Wx c d σ H') (m st S)
def tDS (K : PySem.W.Frag) (Wx : WX) (m : SM) : TS := fun D σ H => ∃ W st S, At K W st S σ H ∧ SQ K W D Wx (m st S)
structure DE (X : Cx) (Wx : WX) (e : Expr) (m : EM D) : Prop where
  p : PE X e (tD X.K Wx m)
structure DT (X : Cx) (Wx : WX) (e : Expr) (m : EM Bool) : Prop where
  p : PT X e (tDB X.K Wx m)
structure DW (X : Cx) (Wx : WX) (e : Expr) (m : EM Bool) : Prop where
  p : PW X e (tDB X.K Wx m)
structure DA (X : Cx) (Wx : WX) (es : List Expr) (m : EM (List D)) : Prop where
  p : PA X es (tDL X.K Wx m)
structure DS (X : Cx) (Wx : WX) (s : Stmt) (m : SM) : Prop where
  p : PS X s (tDS X.K Wx m)
structure DSs (X : Cx) (Wx : WX) (s : List Stmt) (m : SM) : Prop where
  p : PSs X s (tDS X.K Wx m)
theorem pe_imp {X : Cx} {e : Expr} {t t' : TE} (h : PE X e t) (i : ∀ σ H Q, t' σ H Q → t σ H Q) : PE X e t' := ⟨fun pins s σ H Q I q => h.run pins s σ H Q I (i σ H Q q)⟩
theorem pt_imp {X : Cx} {e : Expr} {t t' : TT} (h : PT X e t) (i : ∀ σ H Q, t' σ H Q → t σ H Q) : PT X e t' := ⟨fun pins s σ H Q I q => h.run pins s σ H Q I (i σ H Q q)⟩
theorem pw_imp {X : Cx} {e : Expr} {t t' : TT} (h : PW X e t) (i : ∀ σ H Q, t' σ H Q → t σ H Q) : PW X e t' := ⟨fun w pins s σ H Q I q => h.run w pins s σ H Q I (i σ H Q q)⟩
theorem pa_imp {X : Cx} {e : List Expr} {t t' : TA} (h : PA X e t) (i : ∀ σ H Q, t' σ H Q → t σ H Q) : PA X e t' := ⟨fun pos pins s σ H Q I q => h.run pos pins s σ H Q I (i σ H Q q)⟩
theorem ps_imp {X : Cx} {e : Stmt} {t t' : TS} (h : PS X e t) (i : ∀ D σ H, t' D σ H → t D σ H) : PS X e t' := ⟨fun pins s σ H D I q => h.run pins s σ H D I (i D σ H q)⟩
theorem pss_imp {X : Cx} {e : List Stmt} {t t' : TS} (h : PSs X e t) (i : ∀ D σ H, t' D σ H → t D σ H) : PSs X e t' := ⟨fun pins s σ H D I q => h.run pins s σ H D I (i D σ H q)⟩

/-- the join: a part's denotation, then the rest of it -/
theorem VQ.bind {K : PySem.W.Frag} {W : Wd} {Q : VK} {E : XK} {r : Res D} {f : D → Store → Res D} (h : VQ K W Q E (r.bind f)) :
    VQ K W (fun v H1 => ∃ W1 d S1, W1.H = H1 ∧ W.le W1 ∧ SRep K W1 S1 ∧ Rep K W1 d v ∧ VQ K W1 Q E (f d S1)) E r := by
  cases r with
  | ok d S => exact fun W' v l s q => ⟨W', d, S, rfl, l, s, q, VQ.mono (r := f d S) l h⟩
  | err e S => exact h
  | bad => exact h
end KF

set_option Elab.async false
set_option linter.all false
set_option maxRecDepth 100000
set_option maxHeartbeats 4000000
/-! KFB: expressions. -/
namespace KF
open PySem PySem.Spec PyProof.Rows L2

@[simp] theorem bind_ok {α β : Type} (a : α) (S : Store) (f : α → Store → Res β) : (Res.ok a S).bind f = f a S := rfl
@[simp] theorem bind_err {α β : Type} (e : Exn) (S : Store) (f : α → Store → Res β) : (Res.err e S : Res α).bind f = .err e S := rfl
@[simp] theorem bind_bad {α β : Type} (f : α → Store → Res β) : (Res.bad : Res α).bind f = .bad := rfl
/-- a pure answer, or none -/
def Res.of {α : Type} (o : Option α) (S : Store) : Res α := match o with
  | some a => .ok a S
  | none => .bad
@[simp] theorem of_some {α : Type} (a : α) (S : Store) : Res.of (some a) S = .ok a S := rfl
@[simp] theorem of_none {α : Type} (S : Store) : Res.of (none : Option α) S = .bad := rfl

theorem VQ.imp {K : PySem.W.Frag} {W : Wd} {Q Q' : VK} {E : XK} {r : Res D} (i : ∀ v H, Q v H → Q' v H) (h : VQ K W Q E r) : VQ K W Q' E r := by
  cases r with
  | ok d S => exact fun W' v l s q => i _ _ (h W' v l s q)
  | err e S => exact h
  | bad => exact h
theorem BQ.imp {K : PySem.W.Frag} {W : Wd} {Q Q' : Bool → Hp → Prop} {E : XK} {r : Res Bool} (i : ∀ v H, Q v H → Q' v H) (h : BQ K W Q E r) : BQ K W Q' E r := by
  cases r with
  | ok d S => exact fun W' l s => i _ _ (h W' l s)
  | err e S => exact h
  | bad => exact h
theorem LQ.imp {K : PySem.W.Frag} {W : Wd} {Q Q' : List V → Hp → Prop} {E : XK} {r : Res (List D)} (i : ∀ v H, Q v H → Q' v H) (h : LQ K W Q E r) : LQ K W Q' E r := by
  cases r with
  | ok d S => exact fun W' v l s q => i _ _ (h W' v l s q)
  | err e S => exact h
  | bad => exact h
theorem BQ.mono {K : PySem.W.Frag} {W W1 : Wd} {Q : Bool → Hp → Prop} {E : XK} (l : W.le W1) {r : Res Bool} (h : BQ K W Q E r) : BQ K W1 Q E r := by
  cases r with
  | ok d S => exact fun W' l' s => h W' (l.trans l') s
  | err e S => exact fun W' od l' s q => h W' od (l.trans l') s q
  | bad => exact h
theorem LQ.mono {K : PySem.W.Frag} {W W1 : Wd} {Q : List V → Hp → Prop} {E : XK} (l : W.le W1) {r : Res (List D)} (h : LQ K W Q E r) : LQ K W1 Q E r := by
  cases r with
  | ok d S => exact fun W' v l' s q => h W' v (l.trans l') s q
  | err e S => exact fun W' od l' s q => h W' od (l.trans l') s q
  | bad => exact h

/-- an expression, then what follows: the form in which all rules are shown -/
theorem runE {K : PySem.W.Frag} {Wx : WX} {m : EM D} {σ : St} {W : Wd} {st : DSt} {S : Store} {R : VK} (a : At K W st S σ W.H)
    (h : VQ K W R (fun c d H' => Wx c d σ H') (m st S)) : tD K Wx m σ W.H R := ⟨W, st, S, a, h⟩
theorem At.to {K : PySem.W.Frag} {W W1 : Wd} {st : DSt} {S S1 : Store} {σ : St} {H : Hp} (a : At K W st S σ H) (l : W.le W1) (s : SRep K W1 S1) : At K W1 st S1 σ W1.H := ⟨rfl, s, a.e.mono l⟩
section
variable {α : Type} {K : PySem.W.Frag} {Wx : WX} {σ : St} {W : Wd} {st : DSt} {S : Store} {m : EM D}
/-- the join for expressions: E's at the same slots -/
theorem goE {Q : VK} {f : D → Store → Res D} {R : VK} (a : At K W st S σ W.H) (q : VQ K W Q (fun c d H' => Wx c d σ H') ((m st S).bind f))
    (h : ∀ W1 d S1 v, W.le W1 → At K W1 st S1 σ W1.H → Rep K W1 d v → VQ K W1 Q (fun c d H' => Wx c d σ H') (f d S1) → R v W1.H) : tD K Wx m σ W.H R := by
  refine runE a ?_
  cases e : m st S with
  | ok d S1 =>
    rw [e] at q
    exact fun W1 v l s r => h W1 d S1 v l (a.to l s) r (VQ.mono l q)
  | err x S1 =>
    rw [e] at q
    exact q
  | bad =>
    rw [e] at q
    exact q
theorem goB {Q : Bool → Hp → Prop} {f : D → Store → Res Bool} {R : VK} (a : At K W st S σ W.H) (q : BQ K W Q (fun c d H' => Wx c d σ H') ((m st S).bind f))
    (h : ∀ W1 d S1 v, W.le W1 → At K W1 st S1 σ W1.H → Rep K W1 d v → BQ K W1 Q (fun c d H' => Wx c d σ H') (f d S1) → R v W1.H) : tD K Wx m σ W.H R := by
  refine runE a ?_
  cases e : m st S with
  | ok d S1 =>
    rw [e] at q
    exact fun W1 v l s r => h W1 d S1 v l (a.to l s) r (BQ.mono l q)
  | err x S1 =>
    rw [e] at q
    exact q
  | bad =>
    rw [e] at q
    exact q
theorem goL {Q : List V → Hp → Prop} {f : D → Store → Res (List D)} {R : VK} (a : At K W st S σ W.H) (q : LQ K W Q (fun c d H' => Wx c d σ H') ((m st S).bind f))
    (h : ∀ W1 d S1 v, W.le W1 → At K W1 st S1 σ W1.H → Rep K W1 d v → LQ K W1 Q (fun c d H' => Wx c d σ H') (f d S1) → R v W1.H) : tD K Wx m σ W.H R := by
  refine runE a ?_
  cases e : m st S with
  | ok d S1 =>
    rw [e] at q
    exact fun W1 v l s r => h W1 d S1 v l (a.to l s) r (LQ.mono l q)
  | err x S1 =>
    rw [e] at q
    exact q
  | bad =>
    rw [e] at q
    exact q
/-- a statement's expression -/
theorem goS {D : Ends} {f : KF.D → Store → SRes} {R : VK} (a : At K W st S σ W.H)
    (q : SQ K W D Wx (match m st S with | .ok d S1 => f d S1 | .err e S1 => .err e st S1 | .bad => .bad))
    (h : ∀ W1 d S1 v, W.le W1 → At K W1 st S1 σ W1.H → Rep K W1 d v → SQ K W1 D Wx (f d S1) → R v W1.H) : tD K Wx m σ W.H R := by
  refine runE a ?_
  cases e : m st S with
  | ok d S1 =>
    rw [e] at q
    exact fun W1 v l s r => h W1 d S1 v l (a.to l s) r (SQ.mono l q)
  | err x S1 =>
    rw [e] at q
    exact fun W' od l s z => q W' σ od l s (a.e.mono l) z
  | bad =>
    rw [e] at q
    exact q
/-- a test, then what follows -/
theorem goTB {mb : EM Bool} {Q : Bool → Hp → Prop} {f : Bool → Store → Res Bool} {R : Bool → Hp → Prop} (a : At K W st S σ W.H) (q : BQ K W Q (fun c d H' => Wx c d σ H') ((mb st S).bind f))
    (h : ∀ W1 b S1, W.le W1 → At K W1 st S1 σ W1.H → BQ K W1 Q (fun c d H' => Wx c d σ H') (f b S1) → R b W1.H) : tDB K Wx mb σ W.H R := by
  refine ⟨W, st, S, a, ?_⟩
  cases e : mb st S with
  | ok d S1 =>
    rw [e] at q
    exact fun W1 l s => h W1 d S1 l (a.to l s) (BQ.mono l q)
  | err x S1 =>
    rw [e] at q
    exact q
  | bad =>
    rw [e] at q
    exact q
theorem goTE {mb : EM Bool} {Q : VK} {f : Bool → Store → Res D} {R : Bool → Hp → Prop} (a : At K W st S σ W.H) (q : VQ K W Q (fun c d H' => Wx c d σ H') ((mb st S).bind f))
    (h : ∀ W1 b S1, W.le W1 → At K W1 st S1 σ W1.H → VQ K W1 Q (fun c d H' => Wx c d σ H') (f b S1) → R b W1.H) : tDB K Wx mb σ W.H R := by
  refine ⟨W, st, S, a, ?_⟩
  cases e : mb st S with
  | ok d S1 =>
    rw [e] at q
    exact fun W1 l s => h W1 d S1 l (a.to l s) (VQ.mono l q)
  | err x S1 =>
    rw [e] at q
    exact q
  | bad =>
    rw [e] at q
    exact q
theorem goTS {mb : EM Bool} {D : Ends} {f : Bool → Store → SRes} {R : Bool → Hp → Prop} (a : At K W st S σ W.H)
    (q : SQ K W D Wx (match mb st S with | .ok d S1 => f d S1 | .err e S1 => .err e st S1 | .bad => .bad))
    (h : ∀ W1 b S1, W.le W1 → At K W1 st S1 σ W1.H → SQ K W1 D Wx (f b S1) → R b W1.H) : tDB K Wx mb σ W.H R := by
  refine ⟨W, st, S, a, ?_⟩
  cases e : mb st S with
  | ok d S1 =>
    rw [e] at q
    exact fun W1 l s => h W1 d S1 l (a.to l s) (SQ.mono l q)
  | err x S1 =>
    rw [e] at q
    exact fun W' od l s z => q W' σ od l s (a.e.mono l) z
  | bad =>
    rw [e] at q
    exact q
/-- an argument list, then what follows -/
theorem goAE {ml : EM (List D)} {Q : VK} {f : List D → Store → Res D} {R : List V → Hp → Prop} (a : At K W st S σ W.H) (q : VQ K W Q (fun c d H' => Wx c d σ H') ((ml st S).bind f))
    (h : ∀ W1 ds S1 vs, W.le W1 → At K W1 st S1 σ W1.H → RepL K W1 ds vs → VQ K W1 Q (fun c d H' => Wx c d σ H') (f ds S1) → R vs W1.H) : tDL K Wx ml σ W.H R := by
  refine ⟨W, st, S, a, ?_⟩
  cases e : ml st S with
  | ok d S1 =>
    rw [e] at q
    exact fun W1 v l s r => h W1 d S1 v l (a.to l s) r (VQ.mono l q)
  | err x S1 =>
    rw [e] at q
    exact q
  | bad =>
    rw [e] at q
    exact q
theorem goAL {ml : EM (List D)} {Q : List V → Hp → Prop} {f : List D → Store → Res (List D)} {R : List V → Hp → Prop} (a : At K W st S σ W.H) (q : LQ K W Q (fun c d H' => Wx c d σ H') ((ml st S).bind f))
    (h : ∀ W1 ds S1 vs, W.le W1 → At K W1 st S1 σ W1.H → RepL K W1 ds vs → LQ K W1 Q (fun c d H' => Wx c d σ H') (f ds S1) → R vs W1.H) : tDL K Wx ml σ W.H R := by
  refine ⟨W, st, S, a, ?_⟩
  cases e : ml st S with
  | ok d S1 =>
    rw [e] at q
    exact fun W1 v l s r => h W1 d S1 v l (a.to l s) r (LQ.mono l q)
  | err x S1 =>
    rw [e] at q
    exact q
  | bad =>
    rw [e] at q
    exact q
end

section
variable {X : Cx} {Wx : WX} {a b c : Expr} {ma mb mc : EM D} {pos : Pos}
/-- a rule's frame: from the reading of the denotation to another reading -/
theorem de_of {e : Expr} {t : TE} {m : EM D} (h : PE X e t) (i : ∀ W st S σ Q, At X.K W st S σ W.H → VQ X.K W Q (fun c d H' => Wx c d σ H') (m st S) → t σ W.H Q) : DE X Wx e m :=
  ⟨pe_imp h fun σ H Q ⟨W, st, S, at_, q⟩ => by
    obtain ⟨rfl, s, e⟩ := at_
    exact i W st S σ Q ⟨rfl, s, e⟩ q⟩
theorem dt_of {e : Expr} {t : TT} {m : EM Bool} (h : PT X e t) (i : ∀ W st S σ Q, At X.K W st S σ W.H → BQ X.K W Q (fun c d H' => Wx c d σ H') (m st S) → t σ W.H Q) : DT X Wx e m :=
  ⟨pt_imp h fun σ H Q ⟨W, st, S, at_, q⟩ => by
    obtain ⟨rfl, s, e⟩ := at_
    exact i W st S σ Q ⟨rfl, s, e⟩ q⟩
theorem dw_of {e : Expr} {t : TT} {m : EM Bool} (h : PW X e t) (i : ∀ W st S σ Q, At X.K W st S σ W.H → BQ X.K W Q (fun c d H' => Wx c d σ H') (m st S) → t σ W.H Q) : DW X Wx e m :=
  ⟨pw_imp h fun σ H Q ⟨W, st, S, at_, q⟩ => by
    obtain ⟨rfl, s, e⟩ := at_
    exact i W st S σ Q ⟨rfl, s, e⟩ q⟩
theorem da_of {e : List Expr} {t : TA} {m : EM (List D)} (h : PA X e t) (i : ∀ W st S σ Q, At X.K W st S σ W.H → LQ X.K W Q (fun c d H' => Wx c d σ H') (m st S) → t σ W.H Q) : DA X Wx e m :=
  ⟨pa_imp h fun σ H Q ⟨W, st, S, at_, q⟩ => by
    obtain ⟨rfl, s, e⟩ := at_
    exact i W st S σ Q ⟨rfl, s, e⟩ q⟩
theorem ds_of {e : Stmt} {t : TS} {m : SM} (h : PS X e t) (i : ∀ W st S σ D, At X.K W st S σ W.H → SQ X.K W D Wx (m st S) → t D σ W.H) : DS X Wx e m :=
  ⟨ps_imp h fun D σ H ⟨W, st, S, at_, q⟩ => by
    obtain ⟨rfl, s, e⟩ := at_
    exact i W st S σ D ⟨rfl, s, e⟩ q⟩
theorem dss_of {e : List Stmt} {t : TS} {m : SM} (h : PSs X e t) (i : ∀ W st S σ D, At X.K W st S σ W.H → SQ X.K W D Wx (m st S) → t D σ W.H) : DSs X Wx e m :=
  ⟨pss_imp h fun D σ H ⟨W, st, S, at_, q⟩ => by
    obtain ⟨rfl, s, e⟩ := at_
    exact i W st S σ D ⟨rfl, s, e⟩ q⟩

/-! ### names, constants -/
def vE (i : Nat) : EM D := fun st S => match st[i]? with
  | some (some d) => .ok d S
  | _ => .bad
def cE (d : D) : EM D := fun _ S => .ok d S
theorem dv (i : Nat) {x : Str} (hN : X.N[i]? = some x := by rfl) (hv : Vis X.env.scope x := by first | exact Or.inl rfl | exact Or.inr (Or.inl rfl) | exact Or.inr (Or.inr rfl)) (hd : (x == ("__debug__" : Str)) = false := by decide)
    (hcd : (x == ("__classdict__" : Str)) = false := by decide) : DE X Wx (.Name x pos) (vE i) := by
  refine de_of (pv i hN hv hd hcd) fun W st S σ Q a q => ?_
  unfold vE at q
  split at q
  · rename_i d h
    obtain ⟨v, h1, h2⟩ := a.e.2 i d h
    exact ⟨v, h1, q W v (.refl W) a.s h2⟩
  · exact q.elim
/-- a constant that is no object -/
theorem de_c {e : Expr} {d : D} {v : V} (h : PE X e (tC v)) (r : ∀ W, Rep X.K W d v) : DE X Wx e (cE d) :=
  de_of h fun W st S σ Q a q => q W v (.refl W) a.s (r W)
theorem de_int {i : Int} {j : Nat} : DE X Wx (.Constant (.int i) j pos) (cE (.int i)) := de_c pe_int fun W => by simp [Rep]
theorem de_bl {b : Bool} {j : Nat} : DE X Wx (.Constant (.bool b) j pos) (cE (.bl b)) := de_c pe_bl fun W => by simp [Rep]
theorem de_non {j : Nat} : DE X Wx (.Constant .none j pos) (cE .non) := de_c pe_non fun W => by simp [Rep]
theorem de_str {x : Str} {j : Nat} : DE X Wx (.Constant (.str x) j pos) (cE (.str x)) := de_c pe_str fun W => by simp [Rep]
/-- a module's constant -/
theorem de_glob {x : Str} {d : D} {v : V} {u : Value} (hg : Gl X x) (hm : X.mg x = some u) (r : RelV v u) (hr : ∀ W, Rep X.K W d v) (hd : (x == ("__debug__" : Str)) = false := by decide) : DE X Wx (.Name x pos) (cE d) :=
  de_c (pe_glob hg hm r hd) hr

/-! ### operators by their values -/
def rD2 (K : PySem.W.Frag) (g : D → D → Store → Option D) : R2 := fun x y H Q => ∃ W S dx dy d, W.H = H ∧ SRep K W S ∧ Rep K W dx x ∧ Rep K W dy y ∧ g dx dy S = some d ∧ ∀ W' v, W.le W' → SRep K W' S → Rep K W' d v → Q v W'.H
structure OpD (X : Cx) (f : Value → Value → Sem Value) (g : D → D → Store → Option D) : Prop where
  p : OpR X f (rD2 X.K g)
theorem opR_imp {f : Value → Value → Sem Value} {r r' : R2} (h : OpR X f r) (i : ∀ x y H Q, r' x y H Q → r x y H Q) : OpR X f r' :=
  fun pins s σ H x y v u Q I rx ry q => h pins s σ H x y v u Q I rx ry (i x y H Q q)
theorem opD_of {f : Value → Value → Sem Value} {r : R2} {g : D → D → Store → Option D} (h : OpR X f r)
    (i : ∀ W S dx dy d x y Q, SRep X.K W S → Rep X.K W dx x → Rep X.K W dy y → g dx dy S = some d → (∀ W' v, W.le W' → SRep X.K W' S → Rep X.K W' d v → Q v W'.H) → r x y W.H Q) : OpD X f g :=
  ⟨opR_imp h fun x y H Q ⟨W, S, dx, dy, d, e, s, rx, ry, eg, q⟩ => by subst e; exact i W S dx dy d x y Q s rx ry eg q⟩
def opE (g : D → D → Store → Option D) (a b : EM D) : EM D := fun st S => (a st S).bind fun x S1 => (b st S1).bind fun y S2 => .of (g x y S2) S2
theorem of_go {W : Wd} {Q : VK} {E : XK} {K : PySem.W.Frag} {o : Option D} {S : Store} (q : VQ K W Q E (.of o S)) : ∃ d, o = some d ∧ ∀ W' v, W.le W' → SRep K W' S → Rep K W' d v → Q v W'.H := by
  cases o with
  | none => exact q.elim
  | some d => exact ⟨d, rfl, q⟩
theorem op_go {g : D → D → Store → Option D} {W : Wd} {st : DSt} {S : Store} {σ : St} {Q : VK} (at_ : At X.K W st S σ W.H) (q : VQ X.K W Q (fun c d H' => Wx c d σ H') (opE g ma mb st S)) :
    tOp (rD2 X.K g) (tD X.K Wx ma) (tD X.K Wx mb) σ W.H Q := by
  refine goE at_ q fun W1 dx S1 x l1 a1 r1 q1 => ?_
  refine goE a1 q1 fun W2 dy S2 y l2 a2 r2 q2 => ?_
  obtain ⟨d, e, k⟩ := of_go q2
  exact ⟨W2, S2, dx, dy, d, rfl, a2.s, r1.mono l2 _ _, r2, e, k⟩
theorem de_op {op : Operator} {g : D → D → Store → Option D} (ho : OpD X (binaryOp op) g) (ha : DE X Wx a ma) (hb : DE X Wx b mb) : DE X Wx (.BinOp a op b pos) (opE g ma mb) :=
  de_of (pe_op ho.p ha.p hb.p) fun W st S σ Q at_ q => op_go at_ q
theorem de_cmp {op : CmpOp} {g : D → D → Store → Option D} (ho : OpD X (compareOp op) g) (ha : DE X Wx a ma) (hb : DE X Wx b mb) (hm : behindInMarks op b = false) : DE X Wx (.Compare a [op] [b] pos) (opE g ma mb) :=
  de_of (pe_cmpR ho.p ha.p hb.p hm) fun W st S σ Q at_ q => op_go at_ q
/-- a value that is a truth -/
def asB : D → Option Bool
  | .bl b => some b
  | _ => none
def bE (m : EM D) : EM Bool := fun st S => (m st S).bind fun d S1 => .of (asB d) S1
theorem rep_bl {K : PySem.W.Frag} {W : Wd} {d : D} {v : V} {b : Bool} (h : Rep K W d v) (e : asB d = some b) : v = .bl b := by
  cases d <;> simp [asB] at e
  subst e
  simpa [Rep] using h
theorem bE_go {m : EM D} {W : Wd} {st : DSt} {S : Store} {σ : St} {Q : Bool → Hp → Prop} (at_ : At X.K W st S σ W.H) (q : BQ X.K W Q (fun c d H' => Wx c d σ H') (bE m st S)) :
    tD X.K Wx m σ W.H fun x H' => ∃ k, x = .bl k ∧ Q k H' := by
  refine goB at_ q fun W1 d S1 v l a1 r q1 => ?_
  cases e : asB d with
  | none => rw [e] at q1; exact q1.elim
  | some k =>
    rw [e] at q1
    exact ⟨k, rep_bl r e, q1 W1 (.refl W1) a1.s⟩
theorem dt_val (h : DE X Wx a ma) (he : PT X a (tTest (tD X.K Wx ma))) : DT X Wx a (bE ma) := dt_of he fun W st S σ Q at_ q => bE_go at_ q
theorem dt_cmp {op : CmpOp} {g : D → D → Store → Option D} (ho : OpD X (compareOp op) g) (ha : DE X Wx a ma) (hb : DE X Wx b mb) (hm : behindInMarks op b = false) : DT X Wx (.Compare a [op] [b] pos) (bE (opE g ma mb)) := by
  refine dt_of (pt_cmpR ho.p ha.p hb.p hm) fun W st S σ Q at_ q => ?_
  have q' : BQ X.K W Q (fun c d H' => Wx c d σ H') ((ma st S).bind fun x S1 => (mb st S1).bind fun y S2 => (Res.of (g x y S2) S2).bind fun d S3 => .of (asB d) S3) := by
    have e : bE (opE g ma mb) st S = ((ma st S).bind fun x S1 => (mb st S1).bind fun y S2 => (Res.of (g x y S2) S2).bind fun d S3 => .of (asB d) S3) := by
      unfold bE opE
      cases ma st S with
      | ok x S1 =>
        simp only [bind_ok]
        cases mb st S1 <;> rfl
      | err _ _ => rfl
      | bad => rfl
    rw [← e]
    exact q
  refine goB at_ q' fun W1 dx S1 x l1 a1 r1 q1 => ?_
  refine goB a1 q1 fun W2 dy S2 y l2 a2 r2 q2 => ?_
  cases e : g dx dy S2 with
  | none => rw [e] at q2; exact q2.elim
  | some d =>
    rw [e] at q2
    simp only [of_some, bind_ok] at q2
    cases e2 : asB d with
    | none => rw [e2] at q2; exact q2.elim
    | some k =>
      rw [e2] at q2
      exact ⟨W2, S2, dx, dy, d, rfl, a2.s, r1.mono l2 _ _, r2, e, fun W' v l s r => ⟨k, rep_bl r e2, q2 W' l s⟩⟩
end
end KF

set_option Elab.async false
set_option linter.all false
set_option maxRecDepth 100000
set_option maxHeartbeats 4000000
/-! KFC: and, or, not, if, chains, displays, subscripts, slices, calls of built-ins. -/
namespace KF
open PySem PySem.Spec PyProof.Rows L2

section
variable {X : Cx} {Wx : WX} {a b c : Expr} {ma mb mc : EM D} {pos : Pos} {rest : List Expr}
/-! ### and, or, not, if -/
def andE (a b : EM D) : EM D := fun st S => (a st S).bind fun x S1 => match x with
  | .bl true => b st S1
  | .bl false => .ok (.bl false) S1
  | _ => .bad
def orE (a b : EM D) : EM D := fun st S => (a st S).bind fun x S1 => match x with
  | .bl true => .ok (.bl true) S1
  | .bl false => b st S1
  | _ => .bad
def notE (a : EM D) : EM D := fun st S => (a st S).bind fun x S1 => match x with
  | .bl k => .ok (.bl (!k)) S1
  | _ => .bad
theorem rep_b {K : PySem.W.Frag} {W : Wd} {k : Bool} {v : V} (h : Rep K W (.bl k) v) : v = .bl k := by simpa [Rep] using h
theorem de_one {op : BoolOp} (ha : DE X Wx a ma) : DE X Wx (.BoolOp op [a] pos) ma := ⟨pe_one ha.p⟩
theorem de_and (ha : DE X Wx a ma) (hb : DE X Wx (.BoolOp .And (b :: rest) pos) mb) : DE X Wx (.BoolOp .And (a :: b :: rest) pos) (andE ma mb) := by
  refine de_of (pe_and ha.p hb.p) fun W st S σ Q at_ q => ?_
  refine goE at_ q fun W1 d S1 v l a1 r q1 => ?_
  cases d <;> try exact q1.elim
  rename_i k
  refine ⟨k, rep_b r, ?_⟩
  cases k with
  | true => exact ⟨W1, st, S1, a1, q1⟩
  | false => exact q1 W1 _ (.refl W1) a1.s (by simp [Rep])
theorem de_or (ha : DE X Wx a ma) (hb : DE X Wx (.BoolOp .Or (b :: rest) pos) mb) : DE X Wx (.BoolOp .Or (a :: b :: rest) pos) (orE ma mb) := by
  refine de_of (pe_or ha.p hb.p) fun W st S σ Q at_ q => ?_
  refine goE at_ q fun W1 d S1 v l a1 r q1 => ?_
  cases d <;> try exact q1.elim
  rename_i k
  refine ⟨k, rep_b r, ?_⟩
  cases k with
  | false => exact ⟨W1, st, S1, a1, q1⟩
  | true => exact q1 W1 _ (.refl W1) a1.s (by simp [Rep])
theorem de_not (ha : DE X Wx a ma) : DE X Wx (.UnaryOp .Not a pos) (notE ma) := by
  refine de_of (pe_not ha.p) fun W st S σ Q at_ q => ?_
  refine goE at_ q fun W1 d S1 v l a1 r q1 => ?_
  cases d <;> try exact q1.elim
  rename_i k
  exact ⟨k, rep_b r, q1 W1 _ (.refl W1) a1.s (by simp [Rep])⟩
/-- tests -/
theorem dt_b (h : DE X Wx a ma) (he : ∀ whole, isTrue a X.env whole = (do let v ← whole; standAt a.pos; holding [v] (truthy v)) := by intro _; rfl) : DT X Wx a (bE ma) :=
  dt_of (pt_val h.p he) fun W st S σ Q at_ q => bE_go at_ q
def andT (a b : EM Bool) : EM Bool := fun st S => (a st S).bind fun x S1 => if x then b st S1 else .ok false S1
def orT (a b : EM Bool) : EM Bool := fun st S => (a st S).bind fun x S1 => if x then .ok true S1 else b st S1
def notT (a : EM Bool) : EM Bool := fun st S => (a st S).bind fun x S1 => .ok (!x) S1
variable {ta tb : EM Bool}
theorem dw_pt (h : DW X Wx a ta) : DT X Wx a ta := ⟨PW.pt h.p⟩
theorem dw_and1 (h : DT X Wx a ta) : DW X Wx (.BoolOp .And [a] pos) ta := ⟨pw_and1 h.p⟩
theorem dw_or1 (h : DT X Wx a ta) : DW X Wx (.BoolOp .Or [a] pos) ta := ⟨pw_or1 h.p⟩
theorem dw_and (ha : DT X Wx a ta) (hb : DW X Wx (.BoolOp .And (b :: rest) pos) tb) : DW X Wx (.BoolOp .And (a :: b :: rest) pos) (andT ta tb) := by
  refine dw_of (pw_and ha.p hb.p) fun W st S σ Q at_ q => ?_
  refine goTB at_ q fun W1 k S1 l a1 q1 => ?_
  cases k with
  | true => exact ⟨W1, st, S1, a1, q1⟩
  | false => exact q1 W1 (.refl W1) a1.s
theorem dw_or (ha : DT X Wx a ta) (hb : DW X Wx (.BoolOp .Or (b :: rest) pos) tb) : DW X Wx (.BoolOp .Or (a :: b :: rest) pos) (orT ta tb) := by
  refine dw_of (pw_or ha.p hb.p) fun W st S σ Q at_ q => ?_
  refine goTB at_ q fun W1 k S1 l a1 q1 => ?_
  cases k with
  | false => exact ⟨W1, st, S1, a1, q1⟩
  | true => exact q1 W1 (.refl W1) a1.s
theorem dt_not (ha : DT X Wx a ta) : DT X Wx (.UnaryOp .Not a pos) (notT ta) := by
  refine dt_of (pt_not ha.p) fun W st S σ Q at_ q => ?_
  exact goTB at_ q fun W1 k S1 l a1 q1 => q1 W1 (.refl W1) a1.s
def ifE (c : EM Bool) (a b : EM D) : EM D := fun st S => (c st S).bind fun k S1 => if k then a st S1 else b st S1
theorem de_if (hc : DT X Wx c ta) (ha : DE X Wx a ma) (hb : DE X Wx b mb) : DE X Wx (.IfExp c a b pos) (ifE ta ma mb) := by
  refine de_of (pe_ifExp hc.p ha.p hb.p) fun W st S σ Q at_ q => ?_
  refine goTE at_ q fun W1 k S1 l a1 q1 => ?_
  cases k with
  | true => exact ⟨W1, st, S1, a1, q1⟩
  | false => exact ⟨W1, st, S1, a1, q1⟩
/-! ### a < b < c -/
def chE (g g' : D → D → Store → Option D) (a b c : EM D) : EM D := fun st S => (a st S).bind fun x S1 => (b st S1).bind fun y S2 => (Res.of (g x y S2) S2).bind fun k S3 => match k with
  | .bl true => (c st S3).bind fun z S4 => .of (g' y z S4) S4
  | .bl false => .ok (.bl false) S3
  | _ => .bad
theorem ch_go {g g' : D → D → Store → Option D} {W : Wd} {st : DSt} {S : Store} {σ : St} {Q : VK} (at_ : At X.K W st S σ W.H) (q : VQ X.K W Q (fun c d H' => Wx c d σ H') (chE g g' ma mb mc st S)) :
    tChain (rD2 X.K g) (rD2 X.K g') (tD X.K Wx ma) (tD X.K Wx mb) (tD X.K Wx mc) σ W.H Q := by
  refine goE at_ q fun W1 dx S1 x l1 a1 r1 q1 => ?_
  refine goE a1 q1 fun W2 dy S2 y l2 a2 r2 q2 => ?_
  cases e : g dx dy S2 with
  | none => rw [e] at q2; exact q2.elim
  | some k =>
    rw [e] at q2
    simp only [of_some, bind_ok] at q2
    refine ⟨W2, S2, dx, dy, k, rfl, a2.s, r1.mono l2 _ _, r2, e, fun W3 v l3 s3 r3 => ?_⟩
    cases k <;> try exact q2.elim
    rename_i k
    refine ⟨k, rep_b r3, ?_⟩
    cases k with
    | false => exact q2 W3 _ l3 s3 (by simp [Rep])
    | true =>
      refine goE (a2.to l3 s3) (q2.mono l3) fun W4 dz S4 z l4 a4 r4 q4 => ?_
      obtain ⟨d, e4, k4⟩ := of_go q4
      exact ⟨W4, S4, dy, dz, d, rfl, a4.s, (r2.mono l3 _ _).mono l4 _ _, r4, e4, k4⟩
theorem de_chain {op op' : CmpOp} {g g' : D → D → Store → Option D} (ho : OpD X (compareOp op) g) (ho' : OpD X (compareOp op') g') (ha : DE X Wx a ma) (hb : DE X Wx b mb) (hc : DE X Wx c mc)
    (hm : lastMarks [op, op'] [b, c] = false := by with_unfolding_all rfl) : DE X Wx (.Compare a [op, op'] [b, c] pos) (chE g g' ma mb mc) :=
  de_of (pe_chain ho.p ho'.p ha.p hb.p hc.p hm) fun W st S σ Q at_ q => ch_go at_ q
theorem dt_chain {op op' : CmpOp} {g g' : D → D → Store → Option D} (ho : OpD X (compareOp op) g) (ho' : OpD X (compareOp op') g') (ha : DE X Wx a ma) (hb : DE X Wx b mb) (hc : DE X Wx c mc)
    (hm : lastMarks [op, op'] [b, c] = false := by with_unfolding_all rfl) : DT X Wx (.Compare a [op, op'] [b, c] pos) (bE (chE g g' ma mb mc)) := by
  refine dt_of (pt_chain ho.p ho'.p ha.p hb.p hc.p hm) fun W st S σ Q at_ q => ?_
  have key : ∀ W, At X.K W st S σ W.H → BQ X.K W Q (fun c d H' => Wx c d σ H') (bE (chE g g' ma mb mc) st S) →
      VQ X.K W (fun x H' => ∃ k, x = .bl k ∧ Q k H') (fun c d H' => Wx c d σ H') (chE g g' ma mb mc st S) := by
    intro W at_ q
    unfold bE at q
    cases e : chE g g' ma mb mc st S with
    | ok d S1 =>
      rw [e] at q
      simp only [bind_ok] at q
      cases e2 : asB d with
      | none => rw [e2] at q; exact q.elim
      | some k =>
        rw [e2] at q
        exact fun W' v l s r => ⟨k, rep_bl r e2, q W' l s⟩
    | err x S1 => rw [e] at q; exact q
    | bad => rw [e] at q; exact q
  exact ch_go at_ (key W at_ q)
/-! ### argument lists, displays -/
def seqE : List (EM D) → EM (List D)
  | [] => fun _ S => .ok [] S
  | m :: ms => fun st S => (m st S).bind fun d S1 => (seqE ms st S1).bind fun ds S2 => .ok (d :: ds) S2
theorem seqE_len : ∀ (ms : List (EM D)) (st : DSt) (S : Store) (ds : List D) (S' : Store), seqE ms st S = .ok ds S' → ds.length = ms.length
  | [], st, S, ds, S', h => by
    simp only [seqE, Res.ok.injEq] at h
    rw [← h.1]; rfl
  | m :: ms, st, S, ds, S', h => by
    unfold seqE at h
    cases e : m st S with
    | ok d S1 =>
      rw [e] at h
      simp only [bind_ok] at h
      cases e2 : seqE ms st S1 with
      | ok es S2 =>
        rw [e2] at h
        simp only [bind_ok, Res.ok.injEq] at h
        rw [← h.1, List.length_cons, List.length_cons, seqE_len ms st S1 es S2 e2]
      | err _ _ => rw [e2] at h; cases h
      | bad => rw [e2] at h; cases h
    | err _ _ => rw [e] at h; cases h
    | bad => rw [e] at h; cases h
variable {es : List Expr} {ms : List (EM D)} {e : Expr} {m : EM D}
theorem da_nil : DA X Wx [] (seqE []) := da_of pa_nil fun W st S σ Q at_ q => q W [] (.refl W) at_.s repL_nil
theorem da_cons (he : DE X Wx e m) (hr : DA X Wx es (seqE ms)) (hs : starEach (e :: es) X.env = (false, eval e X.env) :: starEach es X.env := by rfl) : DA X Wx (e :: es) (seqE (m :: ms)) := by
  refine da_of (pa_cons he.p hr.p hs) fun W st S σ Q at_ q => ?_
  refine goL at_ q fun W1 d S1 v l a1 r q1 => ?_
  refine goAL a1 q1 fun W2 ds S2 vs l2 a2 r2 q2 => ?_
  exact q2 W2 _ (.refl W2) a2.s (repL_cons (r.mono l2 _ _) r2)
def tupE (ml : EM (List D)) : EM D := fun st S => (ml st S).bind fun ds S1 => if ds.length ≤ sizeLine then .ok (.tup ds) S1 else .bad
def lstE (ml : EM (List D)) : EM D := fun st S => (ml st S).bind fun ds S1 => if ds.length ≤ sizeLine then .ok (.lst ds) S1 else .bad
def lstC (ml : EM (List D)) : EM D := fun st S => (ml st S).bind fun ds S1 => if ds.length ≤ sizeLine then .ok (.cell S1.length) (S1 ++ [.lst ds]) else .bad
/-- a new tuple, a new list that nobody changes, a new list that may be changed -/
theorem new_tup {K : PySem.W.Frag} {W : Wd} {S : Store} {ds : List D} {vs : List V} {Q : VK} {E : XK} (s : SRep K W S) (r : RepL K W ds vs) (q : VQ K W Q E (.ok (.tup ds) S)) : ∀ p, W.H p = none → Q (.ref p) (upd W.H p (.tup vs)) := fun p hp => by
  refine q (W.put p (.tup vs)) (.ref p) (Wd.put_le hp) (s.put hp) ?_
  simp only [Rep]
  exact ⟨p, vs, rfl, .inl ⟨.inl upd_same, s.noM hp⟩, r.mono (Wd.put_le hp) _ _⟩
theorem new_lst {K : PySem.W.Frag} {W : Wd} {S : Store} {ds : List D} {vs : List V} {Q : VK} {E : XK} (s : SRep K W S) (r : RepL K W ds vs) (q : VQ K W Q E (.ok (.lst ds) S)) : ∀ p, W.H p = none → Q (.ref p) (upd W.H p (.lst vs)) := fun p hp => by
  refine q (W.put p (.lst vs)) (.ref p) (Wd.put_le hp) (s.put hp) ?_
  simp only [Rep]
  exact ⟨p, vs, rfl, upd_same, s.noM hp, r.mono (Wd.put_le hp) _ _⟩
theorem rep_last {K : PySem.W.Frag} {W : Wd} {S : Store} {p : Addr} {o : HO} (s : SRep K W S) : Rep K (W.cel p o) (.cell S.length) (.ref p) := by
  simp only [Rep]
  refine ⟨p, rfl, ?_⟩
  show (W.N ++ [p])[S.length]? = some p
  rw [← s.len]
  simp
theorem new_cel {K : PySem.W.Frag} {W : Wd} {S : Store} {ds : List D} {vs : List V} {Q : VK} {E : XK} (s : SRep K W S) (r : RepL K W ds vs) (q : VQ K W Q E (.ok (.cell S.length) (S ++ [.lst ds]))) : ∀ p, W.H p = none → Q (.ref p) (upd W.H p (.lst vs)) := fun p hp => by
  refine q (W.cel p (.lst vs)) (.ref p) (Wd.cel_le hp) (s.cel hp ⟨vs, upd_same, .inr rfl, r.mono (Wd.cel_le hp) _ _⟩) (rep_last s)
theorem size_if {K : PySem.W.Frag} {W : Wd} {Q : VK} {E : XK} {n : Nat} {r : Res D} (q : VQ K W Q E (if n ≤ sizeLine then r else .bad)) : n ≤ sizeLine ∧ VQ K W Q E r := by
  by_cases h : n ≤ sizeLine
  · rw [if_pos h] at q; exact ⟨h, q⟩
  · rw [if_neg h] at q; exact q.elim
variable {ml : EM (List D)} {x1 : Nat}
theorem de_tup {x1} (h : DA X Wx es ml) : DE X Wx (.Tuple es x1 pos) (tupE ml) := by
  refine de_of (pe_tup h.p) fun W st S σ Q at_ q => ?_
  refine goAE at_ q fun W1 ds S1 vs l a1 r q1 => ?_
  obtain ⟨hl, q1⟩ := size_if q1
  exact ⟨by rw [← r.length]; exact hl, new_tup a1.s r q1⟩
theorem de_lst (h : DA X Wx es ml) : DE X Wx (.List es pos) (lstE ml) := by
  refine de_of (pe_lst h.p) fun W st S σ Q at_ q => ?_
  refine goAE at_ q fun W1 ds S1 vs l a1 r q1 => ?_
  obtain ⟨hl, q1⟩ := size_if q1
  exact ⟨by rw [← r.length]; exact hl, new_lst a1.s r q1⟩
theorem de_lstC (h : DA X Wx es ml) : DE X Wx (.List es pos) (lstC ml) := by
  refine de_of (pe_lst h.p) fun W st S σ Q at_ q => ?_
  refine goAE at_ q fun W1 ds S1 vs l a1 r q1 => ?_
  obtain ⟨hl, q1⟩ := size_if q1
  exact ⟨by rw [← r.length]; exact hl, new_cel a1.s r q1⟩

/-! ### sequences -/
/-- the items of a list (whatever it is), of a tuple -/
def asL (S : Store) : D → Option (List D)
  | .lst xs => some xs
  | .scr xs => some xs
  | .cell n => match S[n]? with
    | some (.lst xs) => some xs
    | some (.fro xs) => some xs
    | _ => none
  | _ => none
/-- a list of our own -/
def asO (S : Store) : D → Option (List D)
  | .lst xs => some xs
  | .cell n => match S[n]? with
    | some (.lst xs) => some xs
    | some (.fro xs) => some xs
    | _ => none
  | _ => none
theorem asO_rep {K : PySem.W.Frag} {W : Wd} {S : Store} {d : D} {v : V} {xs : List D} (s : SRep K W S) (r : Rep K W d v) (e : asO S d = some xs) : ∃ a vs, v = .ref a ∧ W.H a = some (.lst vs) ∧ RepL K W xs vs := by
  cases d <;> simp only [asO] at e <;> try cases e
  · simp only [Rep] at r
    obtain ⟨a, vs, h1, h2, _, h3⟩ := r
    exact ⟨a, vs, h1, h2, h3⟩
  · simp only [Rep] at r
    obtain ⟨a, rfl, h2⟩ := r
    split at e <;> try cases e
    · rename_i n h
      obtain ⟨vs, q1, q2, q3⟩ := s.at_ _ _ _ h2 h
      exact ⟨a, vs, rfl, q1, q3⟩
    · rename_i n h
      obtain ⟨vs, q1, q2, q3⟩ := s.at_ _ _ _ h2 h
      exact ⟨a, vs, rfl, q1, q3⟩
def asT : D → Option (List D)
  | .tup xs => some xs
  | _ => none
theorem asL_rep {K : PySem.W.Frag} {W : Wd} {S : Store} {d : D} {v : V} {xs : List D} (s : SRep K W S) (r : Rep K W d v) (e : asL S d = some xs) : ∃ a vs, v = .ref a ∧ SqL K W.H a vs ∧ RepL K W xs vs := by
  cases d <;> simp only [asL] at e <;> try cases e
  · simp only [Rep] at r
    obtain ⟨a, vs, h1, h2, _, h3⟩ := r
    exact ⟨a, vs, h1, .inl (.inl h2), h3⟩
  · simp only [Rep] at r
    obtain ⟨a, vs, h1, h2, h3⟩ := r
    exact ⟨a, vs, h1, h2.sq, h3⟩
  · simp only [Rep] at r
    obtain ⟨a, rfl, h2⟩ := r
    split at e <;> try cases e
    · rename_i n h
      obtain ⟨vs, q1, q2, q3⟩ := s.at_ _ _ _ h2 h
      exact ⟨a, vs, rfl, .inl (.inl q1), q3⟩
    · rename_i n h
      obtain ⟨vs, q1, q2, q3⟩ := s.at_ _ _ _ h2 h
      exact ⟨a, vs, rfl, .inl (.inl q1), q3⟩
theorem asT_rep {K : PySem.W.Frag} {W : Wd} {d : D} {v : V} {xs : List D} (r : Rep K W d v) (e : asT d = some xs) : ∃ a vs, v = .ref a ∧ SqT K W.H a vs ∧ RepL K W xs vs := by
  cases d <;> simp only [asT] at e <;> try cases e
  simp only [Rep] at r
  obtain ⟨a, vs, h1, h2, h3⟩ := r
  exact ⟨a, vs, h1, h2.sq, h3⟩
def asS : D → Option Str
  | .str x => some x
  | _ => none
theorem asS_rep {K : PySem.W.Frag} {W : Wd} {d : D} {v : V} {x : Str} (r : Rep K W d v) (e : asS d = some x) : v = .str x := by
  cases d <;> simp only [asS] at e <;> try cases e
  simpa [Rep] using r
def asI : D → Option Int
  | .int i => some i
  | _ => none
theorem asI_rep {K : PySem.W.Frag} {W : Wd} {d : D} {v : V} {x : Int} (r : Rep K W d v) (e : asI d = some x) : v = .int x := by
  cases d <;> simp only [asI] at e <;> try cases e
  simpa [Rep] using r
theorem RepL.atI {K : PySem.W.Frag} {W : Wd} {ds : List D} {vs : List V} {i : Int} {d : D} (r : RepL K W ds vs) (e : L2.atI ds i = some d) : ∃ v, L2.atI vs i = some v ∧ Rep K W d v := by
  unfold L2.atI at e ⊢
  rw [← r.length]
  cases h : ixN ds.length i with
  | none => rw [h] at e; cases e
  | some j =>
    rw [h] at e
    exact r.get e
/-- x[i] -/
def gIx (x y : D) (S : Store) : Option D := match asI y with
  | none => none
  | some i => match x with
    | .str z => if z.length ≤ sizeLine then (L2.atI z.cps.toList i).map fun c => .str ⟨#[c]⟩ else none
    | .tup ds => L2.atI ds i
    | x => (asL S x).bind fun ds => L2.atI ds i
theorem de_ix (ha : DE X Wx a ma) (hb : DE X Wx b mb) (hs : PlainIx b := by exact fun _ _ => rfl) : DE X Wx (.Subscript a b pos) (opE gIx ma mb) := by
  refine de_of (pe_ix ix_seq ha.p hb.p hs) fun W st S σ Q at_ q => ?_
  refine goE at_ q fun W1 dx S1 x l1 a1 r1 q1 => ?_
  refine goE a1 q1 fun W2 dy S2 y l2 a2 r2 q2 => ?_
  obtain ⟨d, e, k⟩ := of_go q2
  have r1' := r1.mono l2 _ _
  unfold gIx at e
  cases ey : asI dy with
  | none => rw [ey] at e; cases e
  | some i =>
    rw [ey] at e
    obtain rfl := asI_rep r2 ey
    cases dx <;> simp only at e
    case str z =>
      by_cases hz : z.length ≤ sizeLine
      · rw [if_pos hz] at e
        cases h : L2.atI z.cps.toList i with
        | none => rw [h] at e; cases e
        | some c =>
          rw [h] at e
          cases e
          have : x = .str z := by simpa [Rep] using r1'
          exact .inr (.inr ⟨z, i, c, this, rfl, hz, h, k W2 _ (.refl W2) a2.s (by simp [Rep])⟩)
      · rw [if_neg hz] at e; cases e
    case tup ds =>
      obtain ⟨p, vs, rfl, h1, h2⟩ := asT_rep r1' rfl
      obtain ⟨v, h3, h4⟩ := h2.atI e
      exact .inr (.inl ⟨p, vs, i, v, rfl, rfl, h1, h3, k W2 _ (.refl W2) a2.s h4⟩)
    all_goals
      cases h : asL S2 _ with
      | none => rw [h] at e; cases e
      | some ds =>
        rw [h] at e
        obtain ⟨p, vs, rfl, h1, h2⟩ := asL_rep a2.s r1' h
        obtain ⟨v, h3, h4⟩ := h2.atI e
        exact .inl ⟨p, vs, i, v, rfl, rfl, h1, h3, k W2 _ (.refl W2) a2.s h4⟩
end
end KF

set_option Elab.async false
set_option linter.all false
set_option maxRecDepth 100000
set_option maxHeartbeats 4000000
/-! KFD0: ==, !=, in of data. -/
namespace KF
open PySem PySem.Spec PyProof.Rows L2

/-! ### a dict beside something else -/
section
open SeqAt MeetsSeq
variable {A : Around} {s : Shared} {l b : Addr} {o : Obj}
/-- the object is a dict -/
def IsD (h : Heap) (a : Addr) : Prop := ∃ o es n, h.get? a = some o ∧ o.cls = .type "dict" ∧ o.data = .dict es n
theorem dict_decl_none  (l : Addr) (dd : Option Addr) (es : Array DictEntry) (n : Nat) (sl : Array (Option Value)) :
    Meets (Builtin.«dict.__eq__» ⟨[.ref l, .none], []⟩) (fun _ R s => s.heap.get? l = some { cls := .type "dict", dict := dd, data := .dict es n, slots := sl } ∧ R (.ok (.ret .notImplemented)) s) :=
  .of_wp fun prog w A R s h => by
    obtain ⟨hp, g, d, tk, os⟩ := s
    obtain ⟨hl, h⟩ := h
    have f1 := F.sub_NoneType_dict
    wp_walk using wpAny_loadPart' hl, wpAny_load hl
    exact ⟨_, rfl, h⟩
theorem bool_decl_d (x : Bool) (l : Addr) (dd : Option Addr) (es : Array DictEntry) (n : Nat) (sl : Array (Option Value)) :
    Meets (Builtin.«int.__eq__» ⟨[.bool x, .ref l], []⟩) (fun _ R s => s.heap.get? l = some { cls := .type "dict", dict := dd, data := .dict es n, slots := sl } ∧ R (.ok (.ret .notImplemented)) s) :=
  .of_wp fun prog w A R s h => by
    obtain ⟨hp, g, d, tk, os⟩ := s
    obtain ⟨hl, h⟩ := h
    wp_walk using wpAny_loadPart' hl, wpAny_load hl
    exact ⟨_, rfl, h⟩
theorem dict_decl_bool (x : Bool) (l : Addr) (dd : Option Addr) (es : Array DictEntry) (n : Nat) (sl : Array (Option Value)) :
    Meets (Builtin.«dict.__eq__» ⟨[.ref l, .bool x], []⟩) (fun _ R s => s.heap.get? l = some { cls := .type "dict", dict := dd, data := .dict es n, slots := sl } ∧ R (.ok (.ret .notImplemented)) s) :=
  .of_wp fun prog w A R s h => by
    obtain ⟨hp, g, d, tk, os⟩ := s
    obtain ⟨hl, h⟩ := h
    have f1 := F.sub_bool_dict
    wp_walk using wpAny_loadPart' hl, wpAny_load hl
    exact ⟨_, rfl, h⟩
theorem int_decl_d (x : Int) (u : Tok) (l : Addr) (dd : Option Addr) (es : Array DictEntry) (n : Nat) (sl : Array (Option Value)) :
    Meets (Builtin.«int.__eq__» ⟨[.int x u, .ref l], []⟩) (fun _ R s => s.heap.get? l = some { cls := .type "dict", dict := dd, data := .dict es n, slots := sl } ∧ R (.ok (.ret .notImplemented)) s) :=
  .of_wp fun prog w A R s h => by
    obtain ⟨hp, g, d, tk, os⟩ := s
    obtain ⟨hl, h⟩ := h
    wp_walk using wpAny_loadPart' hl, wpAny_load hl
    exact ⟨_, rfl, h⟩
theorem dict_decl_int (x : Int) (u : Tok) (l : Addr) (dd : Option Addr) (es : Array DictEntry) (n : Nat) (sl : Array (Option Value)) :
    Meets (Builtin.«dict.__eq__» ⟨[.ref l, .int x u], []⟩) (fun _ R s => s.heap.get? l = some { cls := .type "dict", dict := dd, data := .dict es n, slots := sl } ∧ R (.ok (.ret .notImplemented)) s) :=
  .of_wp fun prog w A R s h => by
    obtain ⟨hp, g, d, tk, os⟩ := s
    obtain ⟨hl, h⟩ := h
    have f1 := F.sub_int_dict
    wp_walk using wpAny_loadPart' hl, wpAny_load hl
    exact ⟨_, rfl, h⟩
theorem str_decl_d (x : Str) (u : Tok) (l : Addr) (dd : Option Addr) (es : Array DictEntry) (n : Nat) (sl : Array (Option Value)) :
    Meets (Builtin.«str.__eq__» ⟨[.str x u, .ref l], []⟩) (fun _ R s => s.heap.get? l = some { cls := .type "dict", dict := dd, data := .dict es n, slots := sl } ∧ R (.ok (.ret .notImplemented)) s) :=
  .of_wp fun prog w A R s h => by
    obtain ⟨hp, g, d, tk, os⟩ := s
    obtain ⟨hl, h⟩ := h
    wp_walk using wpAny_loadPart' hl, wpAny_load hl
    exact ⟨_, rfl, h⟩
theorem dict_decl_str (x : Str) (u : Tok) (l : Addr) (dd : Option Addr) (es : Array DictEntry) (n : Nat) (sl : Array (Option Value)) :
    Meets (Builtin.«dict.__eq__» ⟨[.ref l, .str x u], []⟩) (fun _ R s => s.heap.get? l = some { cls := .type "dict", dict := dd, data := .dict es n, slots := sl } ∧ R (.ok (.ret .notImplemented)) s) :=
  .of_wp fun prog w A R s h => by
    obtain ⟨hp, g, d, tk, os⟩ := s
    obtain ⟨hl, h⟩ := h
    have f1 := F.sub_str_dict
    wp_walk using wpAny_loadPart' hl, wpAny_load hl
    exact ⟨_, rfl, h⟩
theorem list_decl_d (b : Addr) (items : Array Value) (n2 : Nat) (dd2 : Option Addr) (sl2 : Array (Option Value)) (l : Addr) (dd : Option Addr) (es : Array DictEntry) (n : Nat) (sl : Array (Option Value)) :
    Meets (Builtin.«list.__eq__» ⟨[.ref b, .ref l], []⟩) (fun _ R s => s.heap.get? b = some { cls := .type "list", dict := dd2, data := .seq items n2, slots := sl2 } ∧ s.heap.get? l = some { cls := .type "dict", dict := dd, data := .dict es n, slots := sl } ∧ R (.ok (.ret .notImplemented)) s) :=
  .of_wp fun prog w A R s h => by
    obtain ⟨hp, g, d, tk, os⟩ := s
    obtain ⟨hl2, hl, h⟩ := h
    have f1 := F.sub_dict_list
    wp_walk using wpAny_loadPart' hl, wpAny_loadPart' hl2, wpAny_load hl, wpAny_load hl2
    exact ⟨_, rfl, h⟩
theorem dict_decl_list (b : Addr) (items : Array Value) (n2 : Nat) (dd2 : Option Addr) (sl2 : Array (Option Value)) (l : Addr) (dd : Option Addr) (es : Array DictEntry) (n : Nat) (sl : Array (Option Value)) :
    Meets (Builtin.«dict.__eq__» ⟨[.ref l, .ref b], []⟩) (fun _ R s => s.heap.get? b = some { cls := .type "list", dict := dd2, data := .seq items n2, slots := sl2 } ∧ s.heap.get? l = some { cls := .type "dict", dict := dd, data := .dict es n, slots := sl } ∧ R (.ok (.ret .notImplemented)) s) :=
  .of_wp fun prog w A R s h => by
    obtain ⟨hp, g, d, tk, os⟩ := s
    obtain ⟨hl2, hl, h⟩ := h
    have f1 := F.sub_list_dict
    wp_walk using wpAny_loadPart' hl, wpAny_loadPart' hl2, wpAny_load hl, wpAny_load hl2
    exact ⟨_, rfl, h⟩
theorem tuple_decl_d (b : Addr) (items : Array Value) (n2 : Nat) (dd2 : Option Addr) (sl2 : Array (Option Value)) (l : Addr) (dd : Option Addr) (es : Array DictEntry) (n : Nat) (sl : Array (Option Value)) :
    Meets (Builtin.«tuple.__eq__» ⟨[.ref b, .ref l], []⟩) (fun _ R s => s.heap.get? b = some { cls := .type "tuple", dict := dd2, data := .seq items n2, slots := sl2 } ∧ s.heap.get? l = some { cls := .type "dict", dict := dd, data := .dict es n, slots := sl } ∧ R (.ok (.ret .notImplemented)) s) :=
  .of_wp fun prog w A R s h => by
    obtain ⟨hp, g, d, tk, os⟩ := s
    obtain ⟨hl2, hl, h⟩ := h
    have f1 := F.sub_dict_tuple
    wp_walk using wpAny_loadPart' hl, wpAny_loadPart' hl2, wpAny_load hl, wpAny_load hl2
    exact ⟨_, rfl, h⟩
theorem dict_decl_tuple (b : Addr) (items : Array Value) (n2 : Nat) (dd2 : Option Addr) (sl2 : Array (Option Value)) (l : Addr) (dd : Option Addr) (es : Array DictEntry) (n : Nat) (sl : Array (Option Value)) :
    Meets (Builtin.«dict.__eq__» ⟨[.ref l, .ref b], []⟩) (fun _ R s => s.heap.get? b = some { cls := .type "tuple", dict := dd2, data := .seq items n2, slots := sl2 } ∧ s.heap.get? l = some { cls := .type "dict", dict := dd, data := .dict es n, slots := sl } ∧ R (.ok (.ret .notImplemented)) s) :=
  .of_wp fun prog w A R s h => by
    obtain ⟨hp, g, d, tk, os⟩ := s
    obtain ⟨hl2, hl, h⟩ := h
    have f1 := F.sub_tuple_dict
    wp_walk using wpAny_loadPart' hl, wpAny_loadPart' hl2, wpAny_load hl, wpAny_load hl2
    exact ⟨_, rfl, h⟩
theorem rc_none_d  (hl : IsD s.heap l) (hu : A.units < cLine) : RcAt A s .none (.ref l) false := fun prog w E Q h => by
  obtain ⟨⟨cls, dd, data, sl⟩, es, n, ho, hc, hd⟩ := id hl
  simp only at hc hd
  subst hc hd
  exact rc_eq_decline_or (k := false) rfl ⟨_, ho, rfl⟩ (by decide) F.sub_dict_NoneType F.slot_NoneType_eq F.slot_dict_eq_refl
    (fun _ hq => call_gives F.slot_NoneType_eq rfl F.entry_NoneType_eq (F.args_NoneType_eq_2 _ _) (NoneType___eq___none_ref_0 l) hq)
    (fun _ hq => call_meets F.slot_dict_eq_refl ⟨_, ho, rfl⟩ F.entry_dict_eq (F.args_dict_eq_2 _ _) (dict_decl_none l dd es n sl) ⟨ho, hq⟩)
    (fun _ hq => wpAny_of_eq (rfl : isSame .none (.ref l) = pure false) hq) (.inr hu) h
theorem rc_d_none  (hl : IsD s.heap l) (hu : A.units < cLine) : RcAt A s (.ref l) .none false := fun prog w E Q h => by
  obtain ⟨⟨cls, dd, data, sl⟩, es, n, ho, hc, hd⟩ := id hl
  simp only at hc hd
  subst hc hd
  exact rc_eq_decline_or (k := false) ⟨_, ho, rfl⟩ rfl (by decide) F.sub_NoneType_dict F.slot_dict_eq F.slot_NoneType_eq_refl
    (fun _ hq => call_meets F.slot_dict_eq ⟨_, ho, rfl⟩ F.entry_dict_eq (F.args_dict_eq_2 _ _) (dict_decl_none l dd es n sl) ⟨ho, hq⟩)
    (fun _ hq => call_gives F.slot_NoneType_eq_refl rfl F.entry_NoneType_eq (F.args_NoneType_eq_2 _ _) (NoneType___eq___none_ref_0 l) hq)
    (fun _ hq => wpAny_of_eq (rfl : isSame (.ref l) .none = pure false) hq) (.inr hu) h
theorem rc_bool_d (x : Bool) (hl : IsD s.heap l) (hu : A.units < cLine) : RcAt A s (.bool x) (.ref l) false := fun prog w E Q h => by
  obtain ⟨⟨cls, dd, data, sl⟩, es, n, ho, hc, hd⟩ := id hl
  simp only at hc hd
  subst hc hd
  exact rc_eq_decline_or (k := false) rfl ⟨_, ho, rfl⟩ (by decide) F.sub_dict_bool F.slot_bool_eq F.slot_dict_eq_refl
    (fun _ hq => call_meets F.slot_bool_eq rfl F.entry_int_eq (F.args_int_eq_2 _ _) (bool_decl_d x l dd es n sl) ⟨ho, hq⟩)
    (fun _ hq => call_meets F.slot_dict_eq_refl ⟨_, ho, rfl⟩ F.entry_dict_eq (F.args_dict_eq_2 _ _) (dict_decl_bool x l dd es n sl) ⟨ho, hq⟩)
    (fun _ hq => wpAny_of_eq (rfl : isSame (.bool x) (.ref l) = pure false) hq) (.inr hu) h
theorem rc_d_bool (x : Bool) (hl : IsD s.heap l) (hu : A.units < cLine) : RcAt A s (.ref l) (.bool x) false := fun prog w E Q h => by
  obtain ⟨⟨cls, dd, data, sl⟩, es, n, ho, hc, hd⟩ := id hl
  simp only at hc hd
  subst hc hd
  exact rc_eq_decline_or (k := false) ⟨_, ho, rfl⟩ rfl (by decide) F.sub_bool_dict F.slot_dict_eq F.slot_bool_eq_refl
    (fun _ hq => call_meets F.slot_dict_eq ⟨_, ho, rfl⟩ F.entry_dict_eq (F.args_dict_eq_2 _ _) (dict_decl_bool x l dd es n sl) ⟨ho, hq⟩)
    (fun _ hq => call_meets F.slot_bool_eq_refl rfl F.entry_int_eq (F.args_int_eq_2 _ _) (bool_decl_d x l dd es n sl) ⟨ho, hq⟩)
    (fun _ hq => wpAny_of_eq (rfl : isSame (.ref l) (.bool x) = pure false) hq) (.inr hu) h
theorem rc_int_d (x : Int) (u : Tok) (hl : IsD s.heap l) (hu : A.units < cLine) : RcAt A s (.int x u) (.ref l) false := fun prog w E Q h => by
  obtain ⟨⟨cls, dd, data, sl⟩, es, n, ho, hc, hd⟩ := id hl
  simp only at hc hd
  subst hc hd
  exact rc_eq_decline_or (k := false) (typeIs_int s x u) ⟨_, ho, rfl⟩ (by decide) F.sub_dict_int F.slot_int_eq F.slot_dict_eq_refl
    (fun _ hq => call_meets F.slot_int_eq (typeIs_int s x u) F.entry_int_eq (F.args_int_eq_2 _ _) (int_decl_d x u l dd es n sl) ⟨ho, hq⟩)
    (fun _ hq => call_meets F.slot_dict_eq_refl ⟨_, ho, rfl⟩ F.entry_dict_eq (F.args_dict_eq_2 _ _) (dict_decl_int x u l dd es n sl) ⟨ho, hq⟩)
    (fun _ hq => wpAny_of_eq (rfl : isSame (.int x u) (.ref l) = pure false) hq) (.inr hu) h
theorem rc_d_int (x : Int) (u : Tok) (hl : IsD s.heap l) (hu : A.units < cLine) : RcAt A s (.ref l) (.int x u) false := fun prog w E Q h => by
  obtain ⟨⟨cls, dd, data, sl⟩, es, n, ho, hc, hd⟩ := id hl
  simp only at hc hd
  subst hc hd
  exact rc_eq_decline_or (k := false) ⟨_, ho, rfl⟩ (typeIs_int s x u) (by decide) F.sub_int_dict F.slot_dict_eq F.slot_int_eq_refl
    (fun _ hq => call_meets F.slot_dict_eq ⟨_, ho, rfl⟩ F.entry_dict_eq (F.args_dict_eq_2 _ _) (dict_decl_int x u l dd es n sl) ⟨ho, hq⟩)
    (fun _ hq => call_meets F.slot_int_eq_refl (typeIs_int s x u) F.entry_int_eq (F.args_int_eq_2 _ _) (int_decl_d x u l dd es n sl) ⟨ho, hq⟩)
    (fun _ hq => wpAny_of_eq (rfl : isSame (.ref l) (.int x u) = pure false) hq) (.inr hu) h
theorem rc_str_d (x : Str) (u : Tok) (hl : IsD s.heap l) (hu : A.units < cLine) : RcAt A s (.str x u) (.ref l) false := fun prog w E Q h => by
  obtain ⟨⟨cls, dd, data, sl⟩, es, n, ho, hc, hd⟩ := id hl
  simp only at hc hd
  subst hc hd
  exact rc_eq_decline_or (k := false) (typeIs_str s x u) ⟨_, ho, rfl⟩ (by decide) F.sub_dict_str F.slot_str_eq F.slot_dict_eq_refl
    (fun _ hq => call_meets F.slot_str_eq (typeIs_str s x u) F.entry_str_eq (F.args_str_eq_2 _ _) (str_decl_d x u l dd es n sl) ⟨ho, hq⟩)
    (fun _ hq => call_meets F.slot_dict_eq_refl ⟨_, ho, rfl⟩ F.entry_dict_eq (F.args_dict_eq_2 _ _) (dict_decl_str x u l dd es n sl) ⟨ho, hq⟩)
    (fun _ hq => wpAny_of_eq (rfl : isSame (.str x u) (.ref l) = pure false) hq) (.inr hu) h
theorem rc_d_str (x : Str) (u : Tok) (hl : IsD s.heap l) (hu : A.units < cLine) : RcAt A s (.ref l) (.str x u) false := fun prog w E Q h => by
  obtain ⟨⟨cls, dd, data, sl⟩, es, n, ho, hc, hd⟩ := id hl
  simp only at hc hd
  subst hc hd
  exact rc_eq_decline_or (k := false) ⟨_, ho, rfl⟩ (typeIs_str s x u) (by decide) F.sub_str_dict F.slot_dict_eq F.slot_str_eq_refl
    (fun _ hq => call_meets F.slot_dict_eq ⟨_, ho, rfl⟩ F.entry_dict_eq (F.args_dict_eq_2 _ _) (dict_decl_str x u l dd es n sl) ⟨ho, hq⟩)
    (fun _ hq => call_meets F.slot_str_eq_refl (typeIs_str s x u) F.entry_str_eq (F.args_str_eq_2 _ _) (str_decl_d x u l dd es n sl) ⟨ho, hq⟩)
    (fun _ hq => wpAny_of_eq (rfl : isSame (.ref l) (.str x u) = pure false) hq) (.inr hu) h
theorem rc_list_d {b : Addr} {items : Array Value} (hb : s.heap.IsList b items) (hl : IsD s.heap l) (hu : A.units < cLine) : RcAt A s (.ref b) (.ref l) false := fun prog w E Q h => by
  obtain ⟨⟨cls, dd, data, sl⟩, es, n, ho, hc, hd⟩ := id hl
  obtain ⟨⟨cls2, dd2, data2, sl2⟩, ho2, hc2, n2, hd2⟩ := id hb
  simp only at hc hd hc2 hd2
  subst hc hd hc2 hd2
  have hne : b ≠ l := fun e => by
    rw [e, ho] at ho2
    simp at ho2
  exact rc_eq_decline_or (k := false) ⟨_, ho2, rfl⟩ ⟨_, ho, rfl⟩ (by decide) F.sub_dict_list F.slot_list_eq F.slot_dict_eq_refl
    (fun _ hq => call_meets F.slot_list_eq ⟨_, ho2, rfl⟩ F.entry_list_eq (F.args_list_eq_2 _ _) (list_decl_d b items n2 dd2 sl2 l dd es n sl) ⟨ho2, ho, hq⟩)
    (fun _ hq => call_meets F.slot_dict_eq_refl ⟨_, ho, rfl⟩ F.entry_dict_eq (F.args_dict_eq_2 _ _) (dict_decl_list b items n2 dd2 sl2 l dd es n sl) ⟨ho2, ho, hq⟩)
    (fun _ hq => wpAny_isSame_ref_other' hne ho2 ho (by simp) hq) (.inr hu) h
theorem rc_d_list {b : Addr} {items : Array Value} (hl : IsD s.heap l) (hb : s.heap.IsList b items) (hu : A.units < cLine) : RcAt A s (.ref l) (.ref b) false := fun prog w E Q h => by
  obtain ⟨⟨cls, dd, data, sl⟩, es, n, ho, hc, hd⟩ := id hl
  obtain ⟨⟨cls2, dd2, data2, sl2⟩, ho2, hc2, n2, hd2⟩ := id hb
  simp only at hc hd hc2 hd2
  subst hc hd hc2 hd2
  have hne : l ≠ b := fun e => by
    rw [← e, ho] at ho2
    simp at ho2
  exact rc_eq_decline_or (k := false) ⟨_, ho, rfl⟩ ⟨_, ho2, rfl⟩ (by decide) F.sub_list_dict F.slot_dict_eq F.slot_list_eq_refl
    (fun _ hq => call_meets F.slot_dict_eq ⟨_, ho, rfl⟩ F.entry_dict_eq (F.args_dict_eq_2 _ _) (dict_decl_list b items n2 dd2 sl2 l dd es n sl) ⟨ho2, ho, hq⟩)
    (fun _ hq => call_meets F.slot_list_eq_refl ⟨_, ho2, rfl⟩ F.entry_list_eq (F.args_list_eq_2 _ _) (list_decl_d b items n2 dd2 sl2 l dd es n sl) ⟨ho2, ho, hq⟩)
    (fun _ hq => wpAny_isSame_ref_other hne ho ho2 (by simp) hq) (.inr hu) h
theorem rc_tuple_d {b : Addr} {items : Array Value} (hb : s.heap.IsTuple b items) (hl : IsD s.heap l) (hu : A.units < cLine) : RcAt A s (.ref b) (.ref l) false := fun prog w E Q h => by
  obtain ⟨⟨cls, dd, data, sl⟩, es, n, ho, hc, hd⟩ := id hl
  obtain ⟨⟨cls2, dd2, data2, sl2⟩, ho2, hc2, n2, hd2⟩ := id hb
  simp only at hc hd hc2 hd2
  subst hc hd hc2 hd2
  have hne : b ≠ l := fun e => by
    rw [e, ho] at ho2
    simp at ho2
  exact rc_eq_decline_or (k := false) ⟨_, ho2, rfl⟩ ⟨_, ho, rfl⟩ (by decide) F.sub_dict_tuple F.slot_tuple_eq F.slot_dict_eq_refl
    (fun _ hq => call_meets F.slot_tuple_eq ⟨_, ho2, rfl⟩ F.entry_tuple_eq (F.args_tuple_eq_2 _ _) (tuple_decl_d b items n2 dd2 sl2 l dd es n sl) ⟨ho2, ho, hq⟩)
    (fun _ hq => call_meets F.slot_dict_eq_refl ⟨_, ho, rfl⟩ F.entry_dict_eq (F.args_dict_eq_2 _ _) (dict_decl_tuple b items n2 dd2 sl2 l dd es n sl) ⟨ho2, ho, hq⟩)
    (fun _ hq => wpAny_isSame_ref_other' hne ho2 ho (by simp) hq) (.inr hu) h
theorem rc_d_tuple {b : Addr} {items : Array Value} (hl : IsD s.heap l) (hb : s.heap.IsTuple b items) (hu : A.units < cLine) : RcAt A s (.ref l) (.ref b) false := fun prog w E Q h => by
  obtain ⟨⟨cls, dd, data, sl⟩, es, n, ho, hc, hd⟩ := id hl
  obtain ⟨⟨cls2, dd2, data2, sl2⟩, ho2, hc2, n2, hd2⟩ := id hb
  simp only at hc hd hc2 hd2
  subst hc hd hc2 hd2
  have hne : l ≠ b := fun e => by
    rw [← e, ho] at ho2
    simp at ho2
  exact rc_eq_decline_or (k := false) ⟨_, ho, rfl⟩ ⟨_, ho2, rfl⟩ (by decide) F.sub_tuple_dict F.slot_dict_eq F.slot_tuple_eq_refl
    (fun _ hq => call_meets F.slot_dict_eq ⟨_, ho, rfl⟩ F.entry_dict_eq (F.args_dict_eq_2 _ _) (dict_decl_tuple b items n2 dd2 sl2 l dd es n sl) ⟨ho2, ho, hq⟩)
    (fun _ hq => call_meets F.slot_tuple_eq_refl ⟨_, ho2, rfl⟩ F.entry_tuple_eq (F.args_tuple_eq_2 _ _) (tuple_decl_d b items n2 dd2 sl2 l dd es n sl) ⟨ho2, ho, hq⟩)
    (fun _ hq => wpAny_isSame_ref_other hne ho ho2 (by simp) hq) (.inr hu) h
end
end KF

set_option Elab.async false
set_option linter.all false
set_option maxRecDepth 100000
set_option maxHeartbeats 4000000
/-! KFD: ==, !=, in of data. -/
namespace KF
open PySem PySem.Spec PyProof.Rows L2

/-- data as it looks: a cell that holds a list looks like the list -/
inductive Vw where
  | non | bl (b : Bool) | int (i : Int) | str (x : Str) | lst (xs : List D) | tup (xs : List D) | dct (n : Nat) | oth
def vw (S : Store) : D → Vw
  | .non => .non
  | .bl b => .bl b
  | .int i => .int i
  | .str x => .str x
  | .tup xs => .tup xs
  | .lst xs => .lst xs
  | .scr xs => .lst xs
  | .dct ks xs => .dct ks.length
  | .cell n => match S[n]? with
    | some (.lst xs) => .lst xs
    | some (.fro xs) => .lst xs
    | _ => .oth
  | _ => .oth
/-- item by item -/
def eqs (f : D → D → Option Bool) : List D → List D → Option Bool
  | x :: xs, y :: ys => match f x y, eqs f xs ys with
    | some a, some b => some (a && b)
    | _, _ => none
  | _, _ => some true
/-- ==; the number: how deep -/
def eqD (S : Store) : Nat → D → D → Option Bool
  | 0, _, _ => none
  | n + 1, x, y => match vw S x, vw S y with
    | .non, .non => some true
    | .bl a, .bl b => some (a == b)
    | .bl a, .int b => some ((if a then 1 else 0) == b)
    | .int a, .bl b => some (a == (if b then 1 else 0))
    | .int a, .int b => some (a == b)
    | .str a, .str b => some (a == b)
    | .lst xs, .lst ys => if xs.length = ys.length then eqs (eqD S n) xs ys else some false
    | .tup xs, .tup ys => (eqs (eqD S n) xs ys).map fun k => k && xs.length == ys.length
    | .dct _, .dct _ => none
    | .oth, _ => none
    | _, .oth => none
    | _, _ => some false
def VwOk (K : PySem.W.Frag) (W : Wd) (v : V) : Vw → Prop
  | .non => v = .non
  | .bl b => v = .bl b
  | .int i => v = .int i
  | .str x => v = .str x
  | .lst xs => ∃ a vs, v = .ref a ∧ SqL K W.H a vs ∧ RepL K W xs vs
  | .tup xs => ∃ a vs, v = .ref a ∧ SqT K W.H a vs ∧ RepL K W xs vs
  | .dct _ => ∃ a kvs, v = .ref a ∧ Rd W.H a (.dK kvs)
  | .oth => True
theorem rep_vw {K : PySem.W.Frag} {W : Wd} {S : Store} (s : SRep K W S) {d : D} {v : V} (r : Rep K W d v) : VwOk K W v (vw S d) := by
  cases d <;> simp only [vw, Rep, VwOk] at r ⊢ <;> try exact r
  · obtain ⟨a, vs, h1, h2, h3⟩ := r
    exact ⟨a, vs, h1, h2.sq, h3⟩
  · obtain ⟨a, vs, h1, h2, _, h3⟩ := r
    exact ⟨a, vs, h1, .inl (.inl h2), h3⟩
  · obtain ⟨a, vs, h1, h2, h3⟩ := r
    exact ⟨a, vs, h1, h2.sq, h3⟩
  · obtain ⟨a, vs, h1, h2, h3⟩ := r
    exact ⟨a, _, h1, h2⟩
  · rename_i n
    obtain ⟨a, h1, h2⟩ := r
    cases e : S[n]? with
    | none => trivial
    | some c =>
      cases c <;> simp only [VwOk] <;> try trivial
      · obtain ⟨vs, q1, q2, q3⟩ := s.at_ _ _ _ h2 e
        exact ⟨a, vs, h1, .inl (.inl q1), q3⟩
      · obtain ⟨vs, q1, q2, q3⟩ := s.at_ _ _ _ h2 e
        exact ⟨a, vs, h1, .inl (.inl q1), q3⟩
theorem eqs_at {f : D → D → Option Bool} : ∀ {xs ys : List D} {b : Bool}, eqs f xs ys = some b → ∃ e : Nat → Bool, (∀ j x y, xs[j]? = some x → ys[j]? = some y → f x y = some (e j)) ∧ (List.range (min xs.length ys.length)).all e = b
  | [], ys, b, h => by
    simp only [eqs, Option.some.injEq] at h
    subst h
    exact ⟨fun _ => true, fun j x y h => by simp at h, by simp⟩
  | x :: xs, [], b, h => by
    simp only [eqs, Option.some.injEq] at h
    subst h
    exact ⟨fun _ => true, fun j x y _ h => by simp at h, by simp⟩
  | x :: xs, y :: ys, b, h => by
    unfold eqs at h
    cases h1 : f x y with
    | none => rw [h1] at h; cases h
    | some a =>
      cases h2 : eqs f xs ys with
      | none => rw [h1, h2] at h; cases h
      | some c =>
        rw [h1, h2] at h
        simp only [Option.some.injEq] at h
        obtain ⟨e, he, hr⟩ := eqs_at h2
        refine ⟨fun j => match j with | 0 => a | j + 1 => e j, fun j u w hu hw => ?_, ?_⟩
        · cases j with
          | zero =>
            simp at hu hw
            subst hu hw
            exact h1
          | succ j => exact he j u w (by simpa using hu) (by simpa using hw)
        · rw [← h, ← hr]
          simp only [List.length_cons, Nat.succ_min_succ, List.range_succ_eq_map, List.all_cons, List.all_map]
          rfl
section
variable {X : Cx} {pins : List (Addr × Obj)} {σ : St} {s : Shared} {W : Wd} {S : Store}
theorem isD_of (I : Inv X pins σ W.H s) {a : Addr} {kvs : List (Key × V)} (h : Rd W.H a (.dK kvs)) : IsD s.heap a := by
  obtain ⟨_, _, vs, _, hd⟩ := h.ok I.hok
  obtain ⟨o, es, ep, e, c, d, _⟩ := hd
  exact ⟨o, es, ep, e, c.1, d⟩
theorem list_tup_ne (I : Inv X pins σ W.H s) {a : Addr} {vs us : List V} (h : SqL X.K W.H a vs) (h' : SqT X.K W.H a us) : False := by
  obtain ⟨its, _, p, _⟩ := I.list h
  obtain ⟨its', _, p', _⟩ := I.tuple h'
  obtain ⟨o, n, ho, hc, _, _⟩ := p
  obtain ⟨o', ho', hc', _⟩ := p'
  rw [ho] at ho'; cases ho'; rw [hc] at hc'; simp at hc'
theorem tup_inj (I : Inv X pins σ W.H s) {a : Addr} {vs us : List V} (h : SqT X.K W.H a vs) (h' : SqT X.K W.H a us) : vs = us := by
  obtain ⟨its, r, p, _⟩ := I.tuple h
  obtain ⟨its', r', p', _⟩ := I.tuple h'
  obtain ⟨o, ho, hc, n, hd⟩ := p
  obtain ⟨o', ho', hc', n', hd'⟩ := p'
  rw [ho] at ho'; cases ho'; rw [hd] at hd'
  cases hd'
  exact Vals.inj r r'
/-- the same value: == says True -/
theorem eq_self (I : Inv X pins σ W.H s) (sr : SRep X.K W S) : ∀ (n : Nat) (x y : D) (v : V) (b : Bool), Rep X.K W x v → Rep X.K W y v → eqD S n x y = some b → b = true
  | 0, _, _, _, _, _, _, h => by simp [eqD] at h
  | n + 1, x, y, v, b, rx, ry, h => by
    have vx := rep_vw sr rx
    have vy := rep_vw sr ry
    unfold eqD at h
    have key : ∀ {xs ys : List D} {vs : List V} {k : Bool}, RepL X.K W xs vs → RepL X.K W ys vs → eqs (eqD S n) xs ys = some k → k = true := by
      intro xs ys vs k r1 r2 hk
      obtain ⟨e, he, hr⟩ := eqs_at hk
      rw [← hr, List.all_eq_true]
      intro j hj
      have hj' := List.mem_range.mp hj
      have h1 : j < xs.length := by omega
      have h2 : j < ys.length := by omega
      obtain ⟨u1, e1, q1⟩ := r1.get (List.getElem?_eq_getElem h1)
      obtain ⟨u2, e2, q2⟩ := r2.get (List.getElem?_eq_getElem h2)
      rw [e1] at e2
      cases e2
      exact eq_self I sr n _ _ _ _ q1 q2 (he j _ _ (List.getElem?_eq_getElem h1) (List.getElem?_eq_getElem h2))
    cases e1 : vw S x <;> cases e2 : vw S y <;> rw [e1] at vx <;> rw [e2] at vy <;> simp only [e1, e2] at h <;> simp only [VwOk] at vx vy <;> try cases h
    all_goals first
      | rfl
      | (exfalso; obtain ⟨_, _, h1, _⟩ := vy; subst vx; cases h1; done)
      | (exfalso; obtain ⟨_, _, h1, _⟩ := vx; subst vy; cases h1; done)
      | (subst vx; cases vy; first | rfl | (simp; done))
      | (exfalso; subst vx; cases vy; done)
      | skip
    · obtain ⟨a, vs, rfl, q1, r1⟩ := vx
      obtain ⟨b', us, e, q2, r2⟩ := vy
      cases e
      obtain rfl := I.list_inj q1 q2
      split at h
      · exact key r1 r2 h
      · rename_i hz
        exact absurd (r1.length.trans r2.length.symm) hz
    · exfalso
      obtain ⟨a, vs, rfl, q1, r1⟩ := vx
      obtain ⟨b', us, e, q2, r2⟩ := vy
      cases e
      exact list_tup_ne I q1 q2
    · exfalso
      obtain ⟨a, vs, rfl, q1, r1⟩ := vx
      obtain ⟨b', us, e, q2⟩ := vy
      cases e
      obtain ⟨its, _, p, _⟩ := I.list q1
      obtain ⟨o, n, ho, hc, _, _⟩ := p
      obtain ⟨o', _, _, ho', hc', _⟩ := isD_of I q2
      rw [ho] at ho'; cases ho'; rw [hc] at hc'; simp at hc'
    · exfalso
      obtain ⟨a, vs, rfl, q1, r1⟩ := vx
      obtain ⟨b', us, e, q2, r2⟩ := vy
      cases e
      exact list_tup_ne I q2 q1
    · obtain ⟨a, vs, rfl, q1, r1⟩ := vx
      obtain ⟨b', us, e, q2, r2⟩ := vy
      cases e
      obtain rfl := tup_inj I q1 q2
      cases hk : eqs (eqD S n) _ _ with
      | none => rw [hk] at h; cases h
      | some k =>
        rw [hk] at h
        simp only [Option.map_some, Option.some.injEq] at h
        rw [← h, key r1 r2 hk, r1.length, r2.length]
        simp
    · exfalso
      obtain ⟨a, vs, rfl, q1, r1⟩ := vx
      obtain ⟨b', us, e, q2⟩ := vy
      cases e
      obtain ⟨its, _, p, _⟩ := I.tuple q1
      obtain ⟨o, ho, hc, _⟩ := p
      obtain ⟨o', _, _, ho', hc', _⟩ := isD_of I q2
      rw [ho] at ho'; cases ho'; rw [hc] at hc'; simp at hc'
    · exfalso
      obtain ⟨a, vs, rfl, q1⟩ := vx
      obtain ⟨b', us, e, q2, r2⟩ := vy
      cases e
      obtain ⟨its, _, p, _⟩ := I.list q2
      obtain ⟨o, n, ho, hc, _, _⟩ := p
      obtain ⟨o', _, _, ho', hc', _⟩ := isD_of I q1
      rw [ho] at ho'; cases ho'; rw [hc] at hc'; simp at hc'
    · exfalso
      obtain ⟨a, vs, rfl, q1⟩ := vx
      obtain ⟨b', us, e, q2, r2⟩ := vy
      cases e
      obtain ⟨its, _, p, _⟩ := I.tuple q2
      obtain ⟨o, ho, hc, _⟩ := p
      obtain ⟨o', _, _, ho', hc', _⟩ := isD_of I q1
      rw [ho] at ho'; cases ho'; rw [hc] at hc'; simp at hc'
/-- == by the machine -/
theorem eqAt_of_rc {A : Around} {v u : Value} {b : Bool} (h : SeqAt.RcAt A s v u b) (hf : ∀ x t, v ≠ .float x t) (hs : v = u → b = true) : SeqAt.EqAt A s v u b := fun prog w E Q hq => by
  unfold eqBool
  refine wpAny_holding ?_
  refine wpAny_ite_split (fun hab => ?_) (fun _ => ?_)
  · rw [hs (eq_of_beq hab)] at hq
    exact wpAny_bind (wpAny_rule (wpAny_pure hq))
  · cases v <;> first
      | exact absurd rfl (hf _ _)
      | exact wpAny_bind (h prog w E _ (wpAny_truthy_bool hq))
theorem nofloat {K : PySem.W.Frag} {W : Wd} {d : D} {v : V} {u : Value} (h : Rep K W d v) (r : RelV v u) : ∀ x t, u ≠ .float x t := by
  rintro x t rfl
  cases v <;> simp only [L2.RelV] at r <;> first
    | cases r; done
    | (obtain ⟨_, r⟩ := r; cases r; done)
    | (cases d <;> simp [Rep] at h)
theorem listIs {h : Heap} {a : Addr} {xs : Array Value} (p : PlainL h a xs) : h.IsList a xs := p.isList
theorem rc_at (I : Inv X pins σ W.H s) (sr : SRep X.K W S) : ∀ (n : Nat) (x y : D) (v u : V) (vv uu : Value) (b : Bool) (A : Around), Rep X.K W x v → Rep X.K W y u → RelV v vv → RelV u uu → eqD S n x y = some b → A.units + n < cLine → SeqAt.RcAt A s vv uu b
  | 0, _, _, _, _, _, _, _, _, _, _, _, _, h, _ => by simp [eqD] at h
  | n + 1, x, y, v, u, vv, uu, b, A, rx, ry, rv, ru, h, hn => by
    have hu : A.units < cLine := by omega
    have hn1 : A.in1.units + n < cLine := by
      show A.units + 1 + n < cLine
      omega
    have vx := rep_vw sr rx
    have vy := rep_vw sr ry
    unfold eqD at h
    have key : ∀ {xs ys : List D} {vs us : List V} {its jts : List Value} {e : Nat → Bool}, RepL X.K W xs vs → RepL X.K W ys us → Vals vs its → Vals us jts →
        (∀ j x y, xs[j]? = some x → ys[j]? = some y → eqD S n x y = some (e j)) → ∀ j (h1 : j < its.toArray.size) (h2 : j < jts.toArray.size), SeqAt.EqAt A.in1 s its.toArray[j] jts.toArray[j] (e j) := by
      intro xs ys vs us its jts e r1 r2 q1 q2 he j h1 h2
      have l1 := q1.length
      have l2 := q2.length
      have m1 := r1.length
      have m2 := r2.length
      have k1 : j < its.length := by simpa using h1
      have k2 : j < jts.length := by simpa using h2
      have h1' : j < xs.length := by omega
      have h2' : j < ys.length := by omega
      obtain ⟨v1, g1, p1⟩ := r1.get (List.getElem?_eq_getElem h1')
      obtain ⟨u1, g2, p2⟩ := r2.get (List.getElem?_eq_getElem h2')
      obtain ⟨w1, g3, p3⟩ := q1.get g1
      obtain ⟨w2, g4, p4⟩ := q2.get g2
      have e1 : its.toArray[j] = w1 := by
        have := List.getElem?_eq_getElem k1
        rw [g3] at this
        simpa using (Option.some.inj this).symm
      have e2 : jts.toArray[j] = w2 := by
        have := List.getElem?_eq_getElem k2
        rw [g4] at this
        simpa using (Option.some.inj this).symm
      rw [e1, e2]
      have hb := he j _ _ (List.getElem?_eq_getElem h1') (List.getElem?_eq_getElem h2')
      refine eqAt_of_rc (rc_at I sr n _ _ _ _ _ _ _ _ p1 p2 p3 p4 hb hn1) (nofloat p1 p3) fun ee => ?_
      subst ee
      obtain rfl := p3.inj p4
      exact eq_self I sr n _ _ _ _ p1 p2 hb
    cases e1 : vw S x <;> cases e2 : vw S y <;> rw [e1] at vx <;> rw [e2] at vy <;> simp only [e1, e2] at h <;> simp only [VwOk] at vx vy <;> try cases h
    · subst vx
      obtain rfl := rv
      subst vy
      obtain rfl := ru
      exact SeqAt.RcAt.none_none
    · subst vx
      obtain rfl := rv
      subst vy
      obtain rfl := ru
      exact SeqAt.RcAt.none_bool _
    · subst vx
      obtain rfl := rv
      subst vy
      obtain ⟨_, rfl⟩ := ru
      exact SeqAt.RcAt.none_int _ _
    · subst vx
      obtain rfl := rv
      subst vy
      obtain ⟨_, rfl⟩ := ru
      exact SeqAt.RcAt.none_str _ _
    · subst vx
      obtain rfl := rv
      obtain ⟨a2, vs2, rfl, q2, r2⟩ := vy
      obtain rfl := ru
      obtain ⟨its2, w2, p20, z2⟩ := I.list q2
      have p2 := listIs p20
      exact SeqAt.RcAt.none_list p2 hu
    · subst vx
      obtain rfl := rv
      obtain ⟨a2, vs2, rfl, q2, r2⟩ := vy
      obtain rfl := ru
      obtain ⟨its2, w2, p20, z2⟩ := I.tuple q2
      have p2 : s.heap.IsTuple a2 its2.toArray := p20
      exact SeqAt.RcAt.none_tuple p2 hu
    · subst vx
      obtain rfl := rv
      obtain ⟨a2, kvs2, rfl, q2⟩ := vy
      obtain rfl := ru
      exact rc_none_d (isD_of I q2) hu
    · subst vx
      obtain rfl := rv
      subst vy
      obtain rfl := ru
      exact SeqAt.RcAt.bool_none _
    · subst vx
      obtain rfl := rv
      subst vy
      obtain rfl := ru
      exact SeqAt.RcAt.bool_bool _ _
    · subst vx
      obtain rfl := rv
      subst vy
      obtain ⟨_, rfl⟩ := ru
      exact SeqAt.RcAt.bool_int _ _ _
    · subst vx
      obtain rfl := rv
      subst vy
      obtain ⟨_, rfl⟩ := ru
      exact SeqAt.RcAt.bool_str _ _ _
    · subst vx
      obtain rfl := rv
      obtain ⟨a2, vs2, rfl, q2, r2⟩ := vy
      obtain rfl := ru
      obtain ⟨its2, w2, p20, z2⟩ := I.list q2
      have p2 := listIs p20
      exact SeqAt.RcAt.bool_list _ p2 hu
    · subst vx
      obtain rfl := rv
      obtain ⟨a2, vs2, rfl, q2, r2⟩ := vy
      obtain rfl := ru
      obtain ⟨its2, w2, p20, z2⟩ := I.tuple q2
      have p2 : s.heap.IsTuple a2 its2.toArray := p20
      exact SeqAt.RcAt.bool_tuple _ p2 hu
    · subst vx
      obtain rfl := rv
      obtain ⟨a2, kvs2, rfl, q2⟩ := vy
      obtain rfl := ru
      exact rc_bool_d _ (isD_of I q2) hu
    · subst vx
      obtain ⟨_, rfl⟩ := rv
      subst vy
      obtain rfl := ru
      exact SeqAt.RcAt.int_none _ _
    · subst vx
      obtain ⟨_, rfl⟩ := rv
      subst vy
      obtain rfl := ru
      exact SeqAt.RcAt.int_bool _ _ _
    · subst vx
      obtain ⟨_, rfl⟩ := rv
      subst vy
      obtain ⟨_, rfl⟩ := ru
      exact SeqAt.RcAt.int_int _ _ _ _
    · subst vx
      obtain ⟨_, rfl⟩ := rv
      subst vy
      obtain ⟨_, rfl⟩ := ru
      exact SeqAt.RcAt.int_str _ _ _ _
    · subst vx
      obtain ⟨_, rfl⟩ := rv
      obtain ⟨a2, vs2, rfl, q2, r2⟩ := vy
      obtain rfl := ru
      obtain ⟨its2, w2, p20, z2⟩ := I.list q2
      have p2 := listIs p20
      exact SeqAt.RcAt.int_list _ _ p2 hu
    · subst vx
      obtain ⟨_, rfl⟩ := rv
      obtain ⟨a2, vs2, rfl, q2, r2⟩ := vy
      obtain rfl := ru
      obtain ⟨its2, w2, p20, z2⟩ := I.tuple q2
      have p2 : s.heap.IsTuple a2 its2.toArray := p20
      exact SeqAt.RcAt.int_tuple _ _ p2 hu
    · subst vx
      obtain ⟨_, rfl⟩ := rv
      obtain ⟨a2, kvs2, rfl, q2⟩ := vy
      obtain rfl := ru
      exact rc_int_d _ _ (isD_of I q2) hu
    · subst vx
      obtain ⟨_, rfl⟩ := rv
      subst vy
      obtain rfl := ru
      exact SeqAt.RcAt.str_none _ _
    · subst vx
      obtain ⟨_, rfl⟩ := rv
      subst vy
      obtain rfl := ru
      exact SeqAt.RcAt.str_bool _ _ _
    · subst vx
      obtain ⟨_, rfl⟩ := rv
      subst vy
      obtain ⟨_, rfl⟩ := ru
      exact SeqAt.RcAt.str_int _ _ _ _
    · subst vx
      obtain ⟨_, rfl⟩ := rv
      subst vy
      obtain ⟨_, rfl⟩ := ru
      exact SeqAt.RcAt.str_str _ _ _ _
    · subst vx
      obtain ⟨_, rfl⟩ := rv
      obtain ⟨a2, vs2, rfl, q2, r2⟩ := vy
      obtain rfl := ru
      obtain ⟨its2, w2, p20, z2⟩ := I.list q2
      have p2 := listIs p20
      exact SeqAt.RcAt.str_list _ _ p2 hu
    · subst vx
      obtain ⟨_, rfl⟩ := rv
      obtain ⟨a2, vs2, rfl, q2, r2⟩ := vy
      obtain rfl := ru
      obtain ⟨its2, w2, p20, z2⟩ := I.tuple q2
      have p2 : s.heap.IsTuple a2 its2.toArray := p20
      exact SeqAt.RcAt.str_tuple _ _ p2 hu
    · subst vx
      obtain ⟨_, rfl⟩ := rv
      obtain ⟨a2, kvs2, rfl, q2⟩ := vy
      obtain rfl := ru
      exact rc_str_d _ _ (isD_of I q2) hu
    · obtain ⟨a1, vs1, rfl, q1, r1⟩ := vx
      obtain rfl := rv
      obtain ⟨its1, w1, p10, z1⟩ := I.list q1
      have p1 := listIs p10
      subst vy
      obtain rfl := ru
      exact SeqAt.RcAt.list_none p1 hu
    · obtain ⟨a1, vs1, rfl, q1, r1⟩ := vx
      obtain rfl := rv
      obtain ⟨its1, w1, p10, z1⟩ := I.list q1
      have p1 := listIs p10
      subst vy
      obtain rfl := ru
      exact SeqAt.RcAt.list_bool _ p1 hu
    · obtain ⟨a1, vs1, rfl, q1, r1⟩ := vx
      obtain rfl := rv
      obtain ⟨its1, w1, p10, z1⟩ := I.list q1
      have p1 := listIs p10
      subst vy
      obtain ⟨_, rfl⟩ := ru
      exact SeqAt.RcAt.list_int _ _ p1 hu
    · obtain ⟨a1, vs1, rfl, q1, r1⟩ := vx
      obtain rfl := rv
      obtain ⟨its1, w1, p10, z1⟩ := I.list q1
      have p1 := listIs p10
      subst vy
      obtain ⟨_, rfl⟩ := ru
      exact SeqAt.RcAt.list_str _ _ p1 hu
    · obtain ⟨a1, vs1, rfl, q1, r1⟩ := vx
      obtain rfl := rv
      obtain ⟨its1, w1, p10, z1⟩ := I.list q1
      have p1 := listIs p10
      obtain ⟨a2, vs2, rfl, q2, r2⟩ := vy
      obtain rfl := ru
      obtain ⟨its2, w2, p20, z2⟩ := I.list q2
      have p2 := listIs p20
      split at h
      · rename_i hz
        obtain ⟨e, he, hr⟩ := eqs_at h
        have hsz : its1.toArray.size = its2.toArray.size := by
          have h1 := w1.length
          have h2 := w2.length
          have h3 := r1.length
          have h4 := r2.length
          simp only [List.size_toArray]
          omega
        have hb : (List.range its1.toArray.size).all e = b := by
          rw [← hr]
          congr 2
          have h1 := w1.length
          have h3 := r1.length
          simp only [List.size_toArray]
          omega
        rw [← hb]
        exact SeqAt.RcAt.lists p1 p2 hsz hu (key r1 r2 w1 w2 he)
      · rename_i hz
        cases h
        refine SeqAt.RcAt.lists_lengths p1 p2 ?_ hu
        have h1 := w1.length
        have h2 := w2.length
        have h3 := r1.length
        have h4 := r2.length
        simp only [List.size_toArray, bne_iff_ne, ne_eq]
        omega
    · obtain ⟨a1, vs1, rfl, q1, r1⟩ := vx
      obtain rfl := rv
      obtain ⟨its1, w1, p10, z1⟩ := I.list q1
      have p1 := listIs p10
      obtain ⟨a2, vs2, rfl, q2, r2⟩ := vy
      obtain rfl := ru
      obtain ⟨its2, w2, p20, z2⟩ := I.tuple q2
      have p2 : s.heap.IsTuple a2 its2.toArray := p20
      exact SeqAt.RcAt.list_tuple p1 p2 hu
    · obtain ⟨a1, vs1, rfl, q1, r1⟩ := vx
      obtain rfl := rv
      obtain ⟨its1, w1, p10, z1⟩ := I.list q1
      have p1 := listIs p10
      obtain ⟨a2, kvs2, rfl, q2⟩ := vy
      obtain rfl := ru
      exact rc_list_d p1 (isD_of I q2) hu
    · obtain ⟨a1, vs1, rfl, q1, r1⟩ := vx
      obtain rfl := rv
      obtain ⟨its1, w1, p10, z1⟩ := I.tuple q1
      have p1 : s.heap.IsTuple a1 its1.toArray := p10
      subst vy
      obtain rfl := ru
      exact SeqAt.RcAt.tuple_none p1 hu
    · obtain ⟨a1, vs1, rfl, q1, r1⟩ := vx
      obtain rfl := rv
      obtain ⟨its1, w1, p10, z1⟩ := I.tuple q1
      have p1 : s.heap.IsTuple a1 its1.toArray := p10
      subst vy
      obtain rfl := ru
      exact SeqAt.RcAt.tuple_bool _ p1 hu
    · obtain ⟨a1, vs1, rfl, q1, r1⟩ := vx
      obtain rfl := rv
      obtain ⟨its1, w1, p10, z1⟩ := I.tuple q1
      have p1 : s.heap.IsTuple a1 its1.toArray := p10
      subst vy
      obtain ⟨_, rfl⟩ := ru
      exact SeqAt.RcAt.tuple_int _ _ p1 hu
    · obtain ⟨a1, vs1, rfl, q1, r1⟩ := vx
      obtain rfl := rv
      obtain ⟨its1, w1, p10, z1⟩ := I.tuple q1
      have p1 : s.heap.IsTuple a1 its1.toArray := p10
      subst vy
      obtain ⟨_, rfl⟩ := ru
      exact SeqAt.RcAt.tuple_str _ _ p1 hu
    · obtain ⟨a1, vs1, rfl, q1, r1⟩ := vx
      obtain rfl := rv
      obtain ⟨its1, w1, p10, z1⟩ := I.tuple q1
      have p1 : s.heap.IsTuple a1 its1.toArray := p10
      obtain ⟨a2, vs2, rfl, q2, r2⟩ := vy
      obtain rfl := ru
      obtain ⟨its2, w2, p20, z2⟩ := I.list q2
      have p2 := listIs p20
      exact SeqAt.RcAt.tuple_list p1 p2 hu
    · obtain ⟨a1, vs1, rfl, q1, r1⟩ := vx
      obtain rfl := rv
      obtain ⟨its1, w1, p10, z1⟩ := I.tuple q1
      have p1 : s.heap.IsTuple a1 its1.toArray := p10
      obtain ⟨a2, vs2, rfl, q2, r2⟩ := vy
      obtain rfl := ru
      obtain ⟨its2, w2, p20, z2⟩ := I.tuple q2
      have p2 : s.heap.IsTuple a2 its2.toArray := p20
      cases hk : eqs (eqD S n) _ _ with
      | none => rw [hk] at h; cases h
      | some k =>
        rw [hk] at h
        simp only [Option.map_some, Option.some.injEq] at h
        obtain ⟨e, he, hr⟩ := eqs_at hk
        have h1 := w1.length
        have h2 := w2.length
        have h3 := r1.length
        have h4 := r2.length
        have := SeqAt.RcAt.tuples p1 p2 hu (key r1 r2 w1 w2 he)
        simp only [List.size_toArray] at this
        rw [← h1, ← h2, ← h3, ← h4, hr, h] at this
        exact this
    · obtain ⟨a1, vs1, rfl, q1, r1⟩ := vx
      obtain rfl := rv
      obtain ⟨its1, w1, p10, z1⟩ := I.tuple q1
      have p1 : s.heap.IsTuple a1 its1.toArray := p10
      obtain ⟨a2, kvs2, rfl, q2⟩ := vy
      obtain rfl := ru
      exact rc_tuple_d p1 (isD_of I q2) hu
    · obtain ⟨a1, kvs1, rfl, q1⟩ := vx
      obtain rfl := rv
      subst vy
      obtain rfl := ru
      exact rc_d_none (isD_of I q1) hu
    · obtain ⟨a1, kvs1, rfl, q1⟩ := vx
      obtain rfl := rv
      subst vy
      obtain rfl := ru
      exact rc_d_bool _ (isD_of I q1) hu
    · obtain ⟨a1, kvs1, rfl, q1⟩ := vx
      obtain rfl := rv
      subst vy
      obtain ⟨_, rfl⟩ := ru
      exact rc_d_int _ _ (isD_of I q1) hu
    · obtain ⟨a1, kvs1, rfl, q1⟩ := vx
      obtain rfl := rv
      subst vy
      obtain ⟨_, rfl⟩ := ru
      exact rc_d_str _ _ (isD_of I q1) hu
    · obtain ⟨a1, kvs1, rfl, q1⟩ := vx
      obtain rfl := rv
      obtain ⟨a2, vs2, rfl, q2, r2⟩ := vy
      obtain rfl := ru
      obtain ⟨its2, w2, p20, z2⟩ := I.list q2
      have p2 := listIs p20
      exact rc_d_list (isD_of I q1) p2 hu
    · obtain ⟨a1, kvs1, rfl, q1⟩ := vx
      obtain rfl := rv
      obtain ⟨a2, vs2, rfl, q2, r2⟩ := vy
      obtain rfl := ru
      obtain ⟨its2, w2, p20, z2⟩ := I.tuple q2
      have p2 : s.heap.IsTuple a2 its2.toArray := p20
      exact rc_d_tuple (isD_of I q1) p2 hu
theorem one_eq (I : Inv X pins σ W.H s) (sr : SRep X.K W S) (n : Nat) (x y : D) (v u : V) (vv uu : Value) (b : Bool) (A : Around) (rx : Rep X.K W x v) (ry : Rep X.K W y u) (rv : RelV v vv) (ru : RelV u uu) (h : eqD S n x y = some b) (hn : A.units + n < cLine) : SeqAt.EqAt A s vv uu b :=
  eqAt_of_rc (rc_at I sr n x y v u vv uu b A rx ry rv ru h hn) (nofloat rx rv) fun ee => by
    subst ee
    obtain rfl := rv.inj ru
    exact eq_self I sr n _ _ _ _ rx ry h
theorem items_eq (I : Inv X pins σ W.H s) (sr : SRep X.K W S) {A : Around} (n : Nat) (hn1 : A.units + n < cLine) {xs ys : List D} {vs us : List V} {its jts : List Value} {e : Nat → Bool} (r1 : RepL X.K W xs vs) (r2 : RepL X.K W ys us) (q1 : Vals vs its) (q2 : Vals us jts)
    (he : ∀ j x y, xs[j]? = some x → ys[j]? = some y → eqD S n x y = some (e j)) (j : Nat) (h1 : j < its.toArray.size) (h2 : j < jts.toArray.size) : SeqAt.EqAt A s its.toArray[j] jts.toArray[j] (e j) := by
  have l1 := q1.length
  have l2 := q2.length
  have m1 := r1.length
  have m2 := r2.length
  have k1 : j < its.length := by simpa using h1
  have k2 : j < jts.length := by simpa using h2
  have h1' : j < xs.length := by omega
  have h2' : j < ys.length := by omega
  obtain ⟨v1, g1, p1⟩ := r1.get (List.getElem?_eq_getElem h1')
  obtain ⟨u1, g2, p2⟩ := r2.get (List.getElem?_eq_getElem h2')
  obtain ⟨w1, g3, p3⟩ := q1.get g1
  obtain ⟨w2, g4, p4⟩ := q2.get g2
  have e1 : its.toArray[j] = w1 := by
    have := List.getElem?_eq_getElem k1
    rw [g3] at this
    simpa using (Option.some.inj this).symm
  have e2 : jts.toArray[j] = w2 := by
    have := List.getElem?_eq_getElem k2
    rw [g4] at this
    simpa using (Option.some.inj this).symm
  rw [e1, e2]
  exact one_eq I sr n _ _ _ _ _ _ _ _ p1 p2 p3 p4 (he j _ _ (List.getElem?_eq_getElem h1') (List.getElem?_eq_getElem h2')) hn1
/-- != : as ==, the other way round; dicts are left out -/
def neD (S : Store) (n : Nat) (x y : D) : Option Bool := match vw S x, vw S y with
  | .dct _, _ => none
  | _, .dct _ => none
  | _, _ => (eqD S n x y).map fun b => !b
theorem rcne_at (I : Inv X pins σ W.H s) (sr : SRep X.K W S) (n : Nat) (x y : D) (v u : V) (vv uu : Value) (b : Bool) (A : Around) (rx : Rep X.K W x v) (ry : Rep X.K W y u) (rv : RelV v vv) (ru : RelV u uu)
    (h : neD S (n + 1) x y = some b) (hn : A.units + (n + 1) < cLine) : SeqAt.RcNeAt A s vv uu b := by
  have hu : A.units < cLine := by omega
  have hn1 : A.in1.units + n < cLine := by
    show A.units + 1 + n < cLine
    omega
  have vx := rep_vw sr rx
  have vy := rep_vw sr ry
  unfold neD eqD at h
  have key : ∀ {xs ys : List D} {vs us : List V} {its jts : List Value} {e : Nat → Bool}, RepL X.K W xs vs → RepL X.K W ys us → Vals vs its → Vals us jts →
      (∀ j x y, xs[j]? = some x → ys[j]? = some y → eqD S n x y = some (e j)) → ∀ j (h1 : j < its.toArray.size) (h2 : j < jts.toArray.size), SeqAt.EqAt A.in1 s its.toArray[j] jts.toArray[j] (e j) := by
    intro xs ys vs us its jts e r1 r2 q1 q2 he j h1 h2
    exact items_eq I sr n hn1 r1 r2 q1 q2 he j h1 h2
  cases e1 : vw S x <;> cases e2 : vw S y <;> rw [e1] at vx <;> rw [e2] at vy <;> simp only [e1, e2, Option.map_some, Option.map_none] at h <;> simp only [VwOk] at vx vy <;> try cases h
  · subst vx
    obtain rfl := rv
    subst vy
    obtain rfl := ru
    exact SeqAt.RcNeAt.none_none
  · subst vx
    obtain rfl := rv
    subst vy
    obtain rfl := ru
    exact SeqAt.RcNeAt.none_bool _
  · subst vx
    obtain rfl := rv
    subst vy
    obtain ⟨_, rfl⟩ := ru
    exact SeqAt.RcNeAt.none_int _ _
  · subst vx
    obtain rfl := rv
    subst vy
    obtain ⟨_, rfl⟩ := ru
    exact SeqAt.RcNeAt.none_str _ _
  · subst vx
    obtain rfl := rv
    obtain ⟨a2, vs2, rfl, q2, r2⟩ := vy
    obtain rfl := ru
    obtain ⟨its2, w2, p20, z2⟩ := I.list q2
    have p2 := listIs p20
    exact SeqAt.RcNeAt.none_list p2 hu
  · subst vx
    obtain rfl := rv
    obtain ⟨a2, vs2, rfl, q2, r2⟩ := vy
    obtain rfl := ru
    obtain ⟨its2, w2, p20, z2⟩ := I.tuple q2
    have p2 : s.heap.IsTuple a2 its2.toArray := p20
    exact SeqAt.RcNeAt.none_tuple p2 hu
  · subst vx
    obtain rfl := rv
    subst vy
    obtain rfl := ru
    exact SeqAt.RcNeAt.bool_none _
  · subst vx
    obtain rfl := rv
    subst vy
    obtain rfl := ru
    exact SeqAt.RcNeAt.bool_bool _ _
  · subst vx
    obtain rfl := rv
    subst vy
    obtain ⟨_, rfl⟩ := ru
    exact SeqAt.RcNeAt.bool_int _ _ _
  · subst vx
    obtain rfl := rv
    subst vy
    obtain ⟨_, rfl⟩ := ru
    exact SeqAt.RcNeAt.bool_str _ _ _
  · subst vx
    obtain rfl := rv
    obtain ⟨a2, vs2, rfl, q2, r2⟩ := vy
    obtain rfl := ru
    obtain ⟨its2, w2, p20, z2⟩ := I.list q2
    have p2 := listIs p20
    exact SeqAt.RcNeAt.bool_list _ p2 hu
  · subst vx
    obtain rfl := rv
    obtain ⟨a2, vs2, rfl, q2, r2⟩ := vy
    obtain rfl := ru
    obtain ⟨its2, w2, p20, z2⟩ := I.tuple q2
    have p2 : s.heap.IsTuple a2 its2.toArray := p20
    exact SeqAt.RcNeAt.bool_tuple _ p2 hu
  · subst vx
    obtain ⟨_, rfl⟩ := rv
    subst vy
    obtain rfl := ru
    exact SeqAt.RcNeAt.int_none _ _
  · subst vx
    obtain ⟨_, rfl⟩ := rv
    subst vy
    obtain rfl := ru
    exact SeqAt.RcNeAt.int_bool _ _ _
  · subst vx
    obtain ⟨_, rfl⟩ := rv
    subst vy
    obtain ⟨_, rfl⟩ := ru
    exact SeqAt.RcNeAt.int_int _ _ _ _
  · subst vx
    obtain ⟨_, rfl⟩ := rv
    subst vy
    obtain ⟨_, rfl⟩ := ru
    exact SeqAt.RcNeAt.int_str _ _ _ _
  · subst vx
    obtain ⟨_, rfl⟩ := rv
    obtain ⟨a2, vs2, rfl, q2, r2⟩ := vy
    obtain rfl := ru
    obtain ⟨its2, w2, p20, z2⟩ := I.list q2
    have p2 := listIs p20
    exact SeqAt.RcNeAt.int_list _ _ p2 hu
  · subst vx
    obtain ⟨_, rfl⟩ := rv
    obtain ⟨a2, vs2, rfl, q2, r2⟩ := vy
    obtain rfl := ru
    obtain ⟨its2, w2, p20, z2⟩ := I.tuple q2
    have p2 : s.heap.IsTuple a2 its2.toArray := p20
    exact SeqAt.RcNeAt.int_tuple _ _ p2 hu
  · subst vx
    obtain ⟨_, rfl⟩ := rv
    subst vy
    obtain rfl := ru
    exact SeqAt.RcNeAt.str_none _ _
  · subst vx
    obtain ⟨_, rfl⟩ := rv
    subst vy
    obtain rfl := ru
    exact SeqAt.RcNeAt.str_bool _ _ _
  · subst vx
    obtain ⟨_, rfl⟩ := rv
    subst vy
    obtain ⟨_, rfl⟩ := ru
    exact SeqAt.RcNeAt.str_int _ _ _ _
  · subst vx
    obtain ⟨_, rfl⟩ := rv
    subst vy
    obtain ⟨_, rfl⟩ := ru
    exact SeqAt.RcNeAt.str_str _ _ _ _
  · subst vx
    obtain ⟨_, rfl⟩ := rv
    obtain ⟨a2, vs2, rfl, q2, r2⟩ := vy
    obtain rfl := ru
    obtain ⟨its2, w2, p20, z2⟩ := I.list q2
    have p2 := listIs p20
    exact SeqAt.RcNeAt.str_list _ _ p2 hu
  · subst vx
    obtain ⟨_, rfl⟩ := rv
    obtain ⟨a2, vs2, rfl, q2, r2⟩ := vy
    obtain rfl := ru
    obtain ⟨its2, w2, p20, z2⟩ := I.tuple q2
    have p2 : s.heap.IsTuple a2 its2.toArray := p20
    exact SeqAt.RcNeAt.str_tuple _ _ p2 hu
  · obtain ⟨a1, vs1, rfl, q1, r1⟩ := vx
    obtain rfl := rv
    obtain ⟨its1, w1, p10, z1⟩ := I.list q1
    have p1 := listIs p10
    subst vy
    obtain rfl := ru
    exact SeqAt.RcNeAt.list_none p1 hu
  · obtain ⟨a1, vs1, rfl, q1, r1⟩ := vx
    obtain rfl := rv
    obtain ⟨its1, w1, p10, z1⟩ := I.list q1
    have p1 := listIs p10
    subst vy
    obtain rfl := ru
    exact SeqAt.RcNeAt.list_bool _ p1 hu
  · obtain ⟨a1, vs1, rfl, q1, r1⟩ := vx
    obtain rfl := rv
    obtain ⟨its1, w1, p10, z1⟩ := I.list q1
    have p1 := listIs p10
    subst vy
    obtain ⟨_, rfl⟩ := ru
    exact SeqAt.RcNeAt.list_int _ _ p1 hu
  · obtain ⟨a1, vs1, rfl, q1, r1⟩ := vx
    obtain rfl := rv
    obtain ⟨its1, w1, p10, z1⟩ := I.list q1
    have p1 := listIs p10
    subst vy
    obtain ⟨_, rfl⟩ := ru
    exact SeqAt.RcNeAt.list_str _ _ p1 hu
  · obtain ⟨a1, vs1, rfl, q1, r1⟩ := vx
    obtain rfl := rv
    obtain ⟨its1, w1, p10, z1⟩ := I.list q1
    have p1 := listIs p10
    obtain ⟨a2, vs2, rfl, q2, r2⟩ := vy
    obtain rfl := ru
    obtain ⟨its2, w2, p20, z2⟩ := I.list q2
    have p2 := listIs p20
    split at h
    · rename_i hz
      cases hk : eqs (eqD S n) _ _ with
      | none => rw [hk] at h; cases h
      | some k =>
        rw [hk] at h
        simp only [Option.map_some, Option.some.injEq] at h
        obtain ⟨e, he, hr⟩ := eqs_at hk
        have hsz : its1.toArray.size = its2.toArray.size := by
          have h1 := w1.length
          have h2 := w2.length
          have h3 := r1.length
          have h4 := r2.length
          simp only [List.size_toArray]
          omega
        have hb : (List.range its1.toArray.size).all e = k := by
          rw [← hr]
          congr 2
          have h1 := w1.length
          have h3 := r1.length
          simp only [List.size_toArray]
          omega
        have := SeqAt.RcNeAt.lists p1 p2 hsz hu (key r1 r2 w1 w2 he)
        rw [hb, h] at this
        exact this
    · rename_i hz
      simp only [Option.map_some, Option.some.injEq, Bool.not_false] at h
      subst h
      refine SeqAt.RcNeAt.lists_lengths p1 p2 ?_ hu
      have h1 := w1.length
      have h2 := w2.length
      have h3 := r1.length
      have h4 := r2.length
      simp only [List.size_toArray, bne_iff_ne, ne_eq]
      omega
  · obtain ⟨a1, vs1, rfl, q1, r1⟩ := vx
    obtain rfl := rv
    obtain ⟨its1, w1, p10, z1⟩ := I.list q1
    have p1 := listIs p10
    obtain ⟨a2, vs2, rfl, q2, r2⟩ := vy
    obtain rfl := ru
    obtain ⟨its2, w2, p20, z2⟩ := I.tuple q2
    have p2 : s.heap.IsTuple a2 its2.toArray := p20
    exact SeqAt.RcNeAt.list_tuple p1 p2 hu
  · obtain ⟨a1, vs1, rfl, q1, r1⟩ := vx
    obtain rfl := rv
    obtain ⟨its1, w1, p10, z1⟩ := I.tuple q1
    have p1 : s.heap.IsTuple a1 its1.toArray := p10
    subst vy
    obtain rfl := ru
    exact SeqAt.RcNeAt.tuple_none p1 hu
  · obtain ⟨a1, vs1, rfl, q1, r1⟩ := vx
    obtain rfl := rv
    obtain ⟨its1, w1, p10, z1⟩ := I.tuple q1
    have p1 : s.heap.IsTuple a1 its1.toArray := p10
    subst vy
    obtain rfl := ru
    exact SeqAt.RcNeAt.tuple_bool _ p1 hu
  · obtain ⟨a1, vs1, rfl, q1, r1⟩ := vx
    obtain rfl := rv
    obtain ⟨its1, w1, p10, z1⟩ := I.tuple q1
    have p1 : s.heap.IsTuple a1 its1.toArray := p10
    subst vy
    obtain ⟨_, rfl⟩ := ru
    exact SeqAt.RcNeAt.tuple_int _ _ p1 hu
  · obtain ⟨a1, vs1, rfl, q1, r1⟩ := vx
    obtain rfl := rv
    obtain ⟨its1, w1, p10, z1⟩ := I.tuple q1
    have p1 : s.heap.IsTuple a1 its1.toArray := p10
    subst vy
    obtain ⟨_, rfl⟩ := ru
    exact SeqAt.RcNeAt.tuple_str _ _ p1 hu
  · obtain ⟨a1, vs1, rfl, q1, r1⟩ := vx
    obtain rfl := rv
    obtain ⟨its1, w1, p10, z1⟩ := I.tuple q1
    have p1 : s.heap.IsTuple a1 its1.toArray := p10
    obtain ⟨a2, vs2, rfl, q2, r2⟩ := vy
    obtain rfl := ru
    obtain ⟨its2, w2, p20, z2⟩ := I.list q2
    have p2 := listIs p20
    exact SeqAt.RcNeAt.tuple_list p1 p2 hu
  · obtain ⟨a1, vs1, rfl, q1, r1⟩ := vx
    obtain rfl := rv
    obtain ⟨its1, w1, p10, z1⟩ := I.tuple q1
    have p1 : s.heap.IsTuple a1 its1.toArray := p10
    obtain ⟨a2, vs2, rfl, q2, r2⟩ := vy
    obtain rfl := ru
    obtain ⟨its2, w2, p20, z2⟩ := I.tuple q2
    have p2 : s.heap.IsTuple a2 its2.toArray := p20
    cases hk : eqs (eqD S n) _ _ with
    | none => rw [hk] at h; cases h
    | some k =>
      rw [hk] at h
      simp only [Option.map_some, Option.some.injEq] at h
      obtain ⟨e, he, hr⟩ := eqs_at hk
      have h1 := w1.length
      have h2 := w2.length
      have h3 := r1.length
      have h4 := r2.length
      have := SeqAt.RcNeAt.tuples p1 p2 hu (key r1 r2 w1 w2 he)
      simp only [List.size_toArray] at this
      rw [← h1, ← h2, ← h3, ← h4, hr, h] at this
      exact this
/-- depth that is enough, and for which there is room -/
abbrev deep : Nat := 60
def gEq (x y : D) (S : Store) : Option D := (eqD S deep x y).map .bl
def gNe (x y : D) (S : Store) : Option D := (neD S deep x y).map .bl
def optAny (f : D → Option Bool) : List D → Option Bool
  | [] => some false
  | x :: xs => match f x, optAny f xs with
    | some a, some b => some (a || b)
    | _, _ => none
def asQ (S : Store) (d : D) : Option (List D) := match d with
  | .tup xs => some xs
  | d => asL S d
/-- x in y: a list, a tuple; a sign in a text -/
def inD (S : Store) (x y : D) : Option Bool := match x, y with
  | .str a, .str z => if a.cps.size = 1 then some (decide (a.cps.getD 0 0 ∈ z.cps.toList)) else none
  | x, y => (asQ S y).bind fun ys => optAny (fun z => eqD S deep z x) ys
def gIn (x y : D) (S : Store) : Option D := (inD S x y).map .bl
def gNotIn (x y : D) (S : Store) : Option D := (inD S x y).map fun b => .bl (!b)
theorem rep_blI {K : PySem.W.Frag} {W : Wd} (b : Bool) : Rep K W (.bl b) (.bl b) := by simp [Rep]
theorem op_eqK (hu : X.A.units + 64 < cLine) : OpD X (compareOp .Eq) gEq := by
  refine ⟨fun pins s σ H x y v u Q I rx ry q => ?_⟩
  obtain ⟨W, S, dx, dy, d, rfl, sr, r1, r2, e, q⟩ := q
  unfold gEq at e
  cases hb : eqD S deep dx dy with
  | none => rw [hb] at e; cases e
  | some b =>
    rw [hb] at e
    cases e
    exact rc_at I sr deep dx dy x y v u b X.A r1 r2 rx ry hb (by show X.A.units + 60 < cLine; omega) _ _ _ _ ⟨.bl b, W.H, I, rfl, q W _ (.refl W) sr (rep_blI b)⟩
theorem op_neK (hu : X.A.units + 64 < cLine) : OpD X (compareOp .NotEq) gNe := by
  refine ⟨fun pins s σ H x y v u Q I rx ry q => ?_⟩
  obtain ⟨W, S, dx, dy, d, rfl, sr, r1, r2, e, q⟩ := q
  unfold gNe at e
  cases hb : neD S deep dx dy with
  | none => rw [hb] at e; cases e
  | some b =>
    rw [hb] at e
    cases e
    exact rcne_at I sr 59 dx dy x y v u b X.A r1 r2 rx ry hb (by omega) _ _ _ _ ⟨.bl b, W.H, I, rfl, q W _ (.refl W) sr (rep_blI b)⟩
theorem optAny_at {f : D → Option Bool} : ∀ {xs : List D} {b : Bool}, optAny f xs = some b → ∃ e : Nat → Bool, (∀ j x, xs[j]? = some x → f x = some (e j)) ∧ (List.range xs.length).any e = b
  | [], b, h => by
    simp only [optAny, Option.some.injEq] at h
    subst h
    exact ⟨fun _ => true, fun j x h => by simp at h, by simp⟩
  | x :: xs, b, h => by
    unfold optAny at h
    cases h1 : f x with
    | none => rw [h1] at h; cases h
    | some a =>
      cases h2 : optAny f xs with
      | none => rw [h1, h2] at h; cases h
      | some c =>
        rw [h1, h2] at h
        simp only [Option.some.injEq] at h
        obtain ⟨e, he, hr⟩ := optAny_at h2
        refine ⟨fun j => match j with | 0 => a | j + 1 => e j, fun j u hu => ?_, ?_⟩
        · cases j with
          | zero =>
            simp at hu
            subst hu
            exact h1
          | succ j => exact he j u (by simpa using hu)
        · rw [← h, ← hr]
          simp only [List.length_cons, List.range_succ_eq_map, List.any_cons, List.any_map]
          rfl
/-- the items of the container, each asked -/
theorem any_items (I : Inv X pins σ W.H s) (sr : SRep X.K W S) {A : Around} (hn : A.units + deep < cLine) {x : D} {v : V} {vv : Value} {ys : List D} {vs : List V} {its : List Value} {b : Bool} (rx : Rep X.K W x v) (rv : RelV v vv) (r : RepL X.K W ys vs) (q : Vals vs its)
    (h : optAny (fun z => eqD S deep z x) ys = some b) : ∃ e : Value → Bool, (∀ u, u ∈ its.toArray → SeqAt.EqAt A s u vv (e u)) ∧ its.toArray.any e = b := by
  classical
  obtain ⟨e0, he, hb⟩ := optAny_at h
  have ask : ∀ j u, its[j]? = some u → SeqAt.EqAt A s u vv (e0 j) := fun j u hj => by
    have l1 := q.length
    have l2 := r.length
    have hj1 := (List.getElem?_eq_some_iff.mp hj).1
    have hj2 : j < ys.length := by omega
    obtain ⟨w, g1, p1⟩ := r.get (List.getElem?_eq_getElem hj2)
    obtain ⟨w', g2, p2⟩ := q.get g1
    rw [hj] at g2
    cases g2
    exact one_eq I sr deep _ _ _ _ _ _ _ _ p1 rx p2 rv (he j _ (List.getElem?_eq_getElem hj2)) hn
  have hlen : its.length = ys.length := by rw [← q.length, r.length]
  refine ⟨fun u => decide (∃ j : Nat, its[j]? = some u ∧ e0 j = true), fun u hu => ?_, ?_⟩
  · obtain ⟨j, hj, hju⟩ := List.getElem_of_mem (show u ∈ its by simpa using hu)
    have hj' : its[j]? = some u := by rw [List.getElem?_eq_getElem hj, hju]
    show SeqAt.EqAt A s u vv (decide (∃ j : Nat, its[j]? = some u ∧ e0 j = true))
    by_cases hh : ∃ j : Nat, its[j]? = some u ∧ e0 j = true
    · rw [decide_eq_true hh]
      obtain ⟨k, hk, ek⟩ := hh
      have := ask k u hk
      rw [ek] at this
      exact this
    · rw [decide_eq_false hh]
      have := ask j u hj'
      cases ej : e0 j with
      | true => exact absurd ⟨j, hj', ej⟩ hh
      | false => rw [ej] at this; exact this
  · rw [← hb, Bool.eq_iff_iff, List.any_eq_true]
    rw [Array.any_eq_true]
    constructor
    · rintro ⟨i, hi, h⟩
      obtain ⟨j, hj, ej⟩ := of_decide_eq_true h
      exact ⟨j, List.mem_range.mpr (by have := (List.getElem?_eq_some_iff.mp hj).1; omega), ej⟩
    · rintro ⟨j, hj, ej⟩
      have hj' : j < its.length := by have := List.mem_range.mp hj; omega
      exact ⟨j, by simpa using hj', decide_eq_true ⟨j, by simp [hj'], ej⟩⟩
theorem inD_str {x z : Str} {S : Store} {b : Bool} (h : inD S (.str x) (.str z) = some b) : ∃ c : Nat, x = ⟨#[c]⟩ ∧ b = decide (c ∈ z.cps.toList) := by
  unfold inD at h
  simp only at h
  split at h
  · rename_i hx
    obtain ⟨⟨l⟩⟩ := x
    match l, hx with
    | [c], _ => exact ⟨c, rfl, by simpa using (Option.some.inj h).symm⟩
  · cases h
theorem in_go (hu : X.A.units + 70 < cLine) {pins : List (Addr × Obj)} {s : Shared} {σ : St} {W : Wd} {S : Store} {dx dy : D} {x y : V} {v u : Value} {b : Bool} {Q : Value → Shared → Prop} (I : Inv X pins σ W.H s) (sr : SRep X.K W S) (r1 : Rep X.K W dx x) (r2 : Rep X.K W dy y) (rx : RelV x v) (ry : RelV y u)
    (e : (asQ S dy).bind (fun ys => optAny (fun z => eqD S deep z dx) ys) = some b) : (Q (.bool b) s → wpAny (model X.prog X.w) X.A (compareOp .In v u) Q X.xe s) ∧ (Q (.bool (!b)) s → wpAny (model X.prog X.w) X.A (compareOp .NotIn v u) Q X.xe s) := by
  cases h : asQ S dy with
  | none => rw [h] at e; cases e
  | some ys =>
    rw [h] at e
    simp only [Option.bind_some] at e
    have hn : X.A.in1.units + deep < cLine := by
      show X.A.units + 1 + 60 < cLine
      omega
    cases dy <;> simp only [asQ] at h
    case tup zs =>
      cases h
      simp only [Rep] at r2
      obtain ⟨a, vs, rfl, h1, h2⟩ := r2
      obtain rfl : u = Value.ref a := ry
      obtain ⟨its, rv, p, _⟩ := I.tuple h1.sq
      obtain ⟨f, hf, hb⟩ := any_items I sr hn r1 rx h2 rv e
      rw [← hb]
      exact ⟨fun q => SeqAt.in_tupleAt f p hf q, fun q => SeqAt.notIn_tupleAt f p hf q⟩
    all_goals
      obtain ⟨a, vs, rfl, h1, h2⟩ := asL_rep sr r2 h
      obtain rfl : u = Value.ref a := ry
      obtain ⟨its, rv, p, _⟩ := I.list h1
      obtain ⟨f, hf, hb⟩ := any_items I sr hn r1 rx h2 rv e
      rw [← hb]
      exact ⟨fun q => SeqAt.in_listAt f p.isList hf q, fun q => SeqAt.notIn_listAt f p.isList hf q⟩
theorem inD_cases {S : Store} {x y : D} {b : Bool} (h : inD S x y = some b) : (∃ c z, x = .str ⟨#[c]⟩ ∧ y = .str z ∧ b = decide (c ∈ z.cps.toList)) ∨ (asQ S y).bind (fun ys => optAny (fun z => eqD S deep z x) ys) = some b := by
  cases x <;> cases y <;> first
    | exact .inr h
    | (obtain ⟨c, rfl, hb⟩ := inD_str h; exact .inl ⟨c, _, rfl, rfl, hb⟩)
theorem op_inK (hu : X.A.units + 70 < cLine) : OpD X (compareOp .In) gIn := by
  refine ⟨fun pins s σ H x y v u Q I rx ry q => ?_⟩
  obtain ⟨W, S, dx, dy, d, rfl, sr, r1, r2, e, q⟩ := q
  unfold gIn at e
  cases hb : inD S dx dy with
  | none => rw [hb] at e; cases e
  | some b =>
    rw [hb] at e
    cases e
    have q' := q W _ (.refl W) sr (rep_blI b)
    rcases inD_cases hb with ⟨c, z, rfl, rfl, rfl⟩ | h
    · obtain rfl : x = .str ⟨#[c]⟩ := by simpa [Rep] using r1
      obtain rfl : y = .str z := by simpa [Rep] using r2
      exact op_in_sign pins s σ W.H _ _ v u Q I rx ry ⟨c, z, rfl, rfl, q'⟩
    · exact (in_go hu I sr r1 r2 rx ry h).1 ⟨.bl b, W.H, I, rfl, q'⟩
theorem op_notInK (hu : X.A.units + 70 < cLine) : OpD X (compareOp .NotIn) gNotIn := by
  refine ⟨fun pins s σ H x y v u Q I rx ry q => ?_⟩
  obtain ⟨W, S, dx, dy, d, rfl, sr, r1, r2, e, q⟩ := q
  unfold gNotIn at e
  cases hb : inD S dx dy with
  | none => rw [hb] at e; cases e
  | some b =>
    rw [hb] at e
    cases e
    have q' := q W _ (.refl W) sr (rep_blI (!b))
    rcases inD_cases hb with ⟨c, z, rfl, rfl, rfl⟩ | h
    · obtain rfl : x = .str ⟨#[c]⟩ := by simpa [Rep] using r1
      obtain rfl : y = .str z := by simpa [Rep] using r2
      exact op_notIn_sign pins s σ W.H _ _ v u Q I rx ry ⟨c, z, rfl, rfl, q'⟩
    · exact (in_go hu I sr r1 r2 rx ry h).2 ⟨.bl (!b), W.H, I, rfl, q'⟩
end
end KF

set_option Elab.async false
set_option linter.all false
set_option maxRecDepth 100000
set_option maxHeartbeats 4000000
/-! KFE: operators, slices, built-in functions. -/
namespace KF
open PySem PySem.Spec PyProof.Rows L2
section
variable {X : Cx} {Wx : WX} {a b c e : Expr} {ma mb mc : EM D} {pos : Pos} {es : List Expr} {ml : EM (List D)}

/-! ### arithmetic -/
def catL (a b : Option (List D)) : Option D := match a, b with
  | some xs, some ys => if xs.length + ys.length ≤ sizeLine then some (.lst (xs ++ ys)) else none
  | _, _ => none
def gAdd (x y : D) (S : Store) : Option D := match x, y with
  | .int i, .int j => some (.int (i + j))
  | .str a, .str b => if a.length + b.length ≤ sizeLine then some (.str (a ++ b)) else none
  | .tup xs, .tup ys => if xs.length + ys.length ≤ sizeLine then some (.tup (xs ++ ys)) else none
  | x, y => catL (asO S x) (asO S y)
theorem rep_i {K : PySem.W.Frag} {W : Wd} {i : Int} {v : V} (h : Rep K W (.int i) v) : v = .int i := by simpa [Rep] using h
theorem rep_s {K : PySem.W.Frag} {W : Wd} {x : Str} {v : V} (h : Rep K W (.str x) v) : v = .str x := by simpa [Rep] using h
theorem rep_iI {K : PySem.W.Frag} {W : Wd} {i : Int} : Rep K W (.int i) (.int i) := by simp [Rep]
theorem rep_sI {K : PySem.W.Frag} {W : Wd} {x : Str} : Rep K W (.str x) (.str x) := by simp [Rep]
theorem rep_nI {K : PySem.W.Frag} {W : Wd} : Rep K W .non .non := by simp [Rep]
theorem gAdd_list {x y : D} {S : Store} {d : D} (h : catL (asO S x) (asO S y) = some d) : ∃ xs ys, asO S x = some xs ∧ asO S y = some ys ∧ xs.length + ys.length ≤ sizeLine ∧ d = .lst (xs ++ ys) := by
  unfold catL at h
  split at h
  · rename_i xs ys h1 h2
    split at h
    · rename_i hl
      cases h
      exact ⟨xs, ys, h1, h2, hl, rfl⟩
    · cases h
  · cases h
theorem kp {K : PySem.W.Frag} {W : Wd} {S : Store} {d : D} {Q : VK} (k : ∀ W' v, W.le W' → SRep K W' S → Rep K W' d v → Q v W'.H) : VQ K W Q (fun _ _ _ => False) (.ok d S) := k
theorem op_addK : OpD X (binaryOp .Add) gAdd := by
  refine opD_of (OpR.or op_add (OpR.or op_add_str (OpR.or op_catA op_cat))) fun W S dx dy d x y Q sr rx ry e k => ?_
  have lists : ∀ {xs ys : List D}, asO S dx = some xs → asO S dy = some ys → xs.length + ys.length ≤ sizeLine → d = .lst (xs ++ ys) → rCat x y W.H Q := by
    intro xs ys h1 h2 hl hd
    subst hd
    obtain ⟨p, vs, rfl, q1, r1⟩ := asO_rep sr rx h1
    obtain ⟨q, us, rfl, q2, r2⟩ := asO_rep sr ry h2
    exact ⟨p, q, vs, us, rfl, rfl, q1, q2, by rw [← r1.length, ← r2.length]; exact hl, new_lst sr (repL_append r1 r2) (kp k)⟩
  unfold gAdd at e
  cases dx <;> cases dy <;> simp only at e
  case int.int i j =>
    cases e
    obtain rfl := rep_i rx
    obtain rfl := rep_i ry
    exact .inl ⟨i, j, rfl, rfl, k W _ (.refl W) sr rep_iI⟩
  case str.str i j =>
    split at e
    · rename_i hl
      cases e
      obtain rfl := rep_s rx
      obtain rfl := rep_s ry
      exact .inr (.inl ⟨i, j, rfl, rfl, hl, k W _ (.refl W) sr rep_sI⟩)
    · cases e
  case tup.tup xs ys =>
    split at e
    · rename_i hl
      cases e
      obtain ⟨p, vs, rfl, q1, r1⟩ := asT_rep (d := .tup xs) rx rfl
      obtain ⟨q, us, rfl, q2, r2⟩ := asT_rep (d := .tup ys) ry rfl
      refine .inr (.inr (.inl ⟨p, q, vs, us, rfl, rfl, q1, q2, by rw [← r1.length, ← r2.length]; exact hl, fun hv => ?_, fun hv hu => ?_, fun _ _ => new_tup sr (repL_append r1 r2) (kp k)⟩))
      · have e1 : xs = [] := List.eq_nil_of_length_eq_zero (by rw [r1.length, hv]; rfl)
        subst e1
        exact k W _ (.refl W) sr (by simpa using ry)
      · have e1 : ys = [] := List.eq_nil_of_length_eq_zero (by rw [r2.length, hu]; rfl)
        subst e1
        exact k W _ (.refl W) sr (by simpa using rx)
    · cases e
  all_goals
    obtain ⟨xs, ys, h1, h2, hl, hd⟩ := gAdd_list e
    exact .inr (.inr (.inr (lists h1 h2 hl hd)))
/-- two ints -/
def g2I (f : Int → Int → Option D) (x y : D) (_ : Store) : Option D := match x, y with
  | .int i, .int j => f i j
  | _, _ => none
theorem op_I {f : Value → Value → Sem Value} {C : Int → Int → Prop} {g : Int → Int → V} {h : Int → Int → Option D} (ho : OpR X f (rI C g))
    (hh : ∀ i j d, h i j = some d → C i j ∧ ∀ W, Rep X.K W d (g i j)) : OpD X f (g2I h) := by
  refine opD_of ho fun W S dx dy d x y Q sr rx ry e k => ?_
  unfold g2I at e
  cases dx <;> cases dy <;> simp only at e <;> try cases e
  obtain rfl := rep_i rx
  obtain rfl := rep_i ry
  obtain ⟨h1, h2⟩ := hh _ _ _ e
  exact ⟨_, _, rfl, rfl, h1, k W _ (.refl W) sr (h2 W)⟩
theorem op_I0 {f : Value → Value → Sem Value} {g : Int → Int → V} {h : Int → Int → Option D} (ho : OpR X f (rI0 g))
    (hh : ∀ i j d, h i j = some d → ∀ W, Rep X.K W d (g i j)) : OpD X f (g2I h) := by
  refine opD_of ho fun W S dx dy d x y Q sr rx ry e k => ?_
  unfold g2I at e
  cases dx <;> cases dy <;> simp only at e <;> try cases e
  obtain rfl := rep_i rx
  obtain rfl := rep_i ry
  exact ⟨_, _, rfl, rfl, k W _ (.refl W) sr (hh _ _ _ e W)⟩
abbrev gSub := g2I fun i j => some (.int (i - j))
abbrev gDiv := g2I fun i j => if 0 < j ∧ j.natAbs.log2 < 9000 then some (.int (i / j)) else none
abbrev gMod := g2I fun i j => if 0 < j then some (.int (i % j)) else none
abbrev gPow := g2I fun i j => if 0 ≤ j ∧ j ≤ 1000000 ∧ i.natAbs < 2 ^ 64 then some (.int (i ^ j.toNat)) else none
abbrev gLt := g2I fun i j => some (.bl (decide (i < j)))
abbrev gLe := g2I fun i j => some (.bl (decide (i ≤ j)))
abbrev gGt := g2I fun i j => some (.bl (decide (j < i)))
abbrev gGe := g2I fun i j => some (.bl (decide (j ≤ i)))
theorem op_subK : OpD X (binaryOp .Sub) gSub := op_I0 op_sub fun i j d h W => by cases h; exact rep_iI
theorem op_divK : OpD X (binaryOp .FloorDiv) gDiv := op_I op_fdivW fun i j d h => by
  split at h
  · rename_i c; cases h; exact ⟨c, fun W => rep_iI⟩
  · cases h
theorem op_modK : OpD X (binaryOp .Mod) gMod := op_I op_mod fun i j d h => by
  split at h
  · rename_i c; cases h; exact ⟨c, fun W => rep_iI⟩
  · cases h
theorem op_powK : OpD X (binaryOp .Pow) gPow := op_I op_pow fun i j d h => by
  split at h
  · rename_i c; cases h; exact ⟨c, fun W => rep_iI⟩
  · cases h
theorem op_ltK : OpD X (compareOp .Lt) gLt := op_I0 op_lt fun i j d h W => by cases h; exact rep_blI _
theorem op_leK : OpD X (compareOp .LtE) gLe := op_I0 op_le fun i j d h W => by cases h; exact rep_blI _
theorem op_gtK : OpD X (compareOp .Gt) gGt := op_I0 op_gt fun i j d h W => by cases h; exact rep_blI _
theorem op_geK : OpD X (compareOp .GtE) gGe := op_I0 op_ge fun i j d h W => by cases h; exact rep_blI _
/-- int * int; list * int -/
def gMul (x y : D) (S : Store) : Option D := match x, y with
  | .int i, .int j => if i.natAbs.log2 + j.natAbs.log2 < 1000000 then some (.int (i * j)) else none
  | x, .int k => (asO S x).bind fun xs => if -(2 ^ 63) ≤ k ∧ k < 2 ^ 63 ∧ xs.length * k.toNat ≤ sizeLine then some (.lst (List.replicate k.toNat xs).flatten) else none
  | _, _ => none
theorem repL_flat {K : PySem.W.Frag} {W : Wd} {xs : List D} {vs : List V} (r : RepL K W xs vs) : ∀ n : Nat, RepL K W (List.replicate n xs).flatten (List.replicate n vs).flatten
  | 0 => by simp [RepL]
  | n + 1 => by
    rw [List.replicate_succ, List.replicate_succ, List.flatten_cons, List.flatten_cons]
    exact repL_append r (repL_flat r n)
theorem op_mulK : OpD X (binaryOp .Mult) gMul := by
  refine opD_of (OpR.or op_mulW op_rep) fun W S dx dy d x y Q sr rx ry e k => ?_
  unfold gMul at e
  have ls : ∀ {n : Int}, dy = .int n → ((asO S dx).bind fun xs => if -(2 ^ 63) ≤ n ∧ n < 2 ^ 63 ∧ xs.length * n.toNat ≤ sizeLine then some (D.lst (List.replicate n.toNat xs).flatten) else none) = some d → rRep x y W.H Q := by
    intro n hy e2
    clear e
    subst hy
    cases h : asO S dx with
    | none => rw [h] at e2; cases e2
    | some xs =>
      rw [h] at e2
      simp only [Option.bind_some] at e2
      split at e2
      · rename_i hh
        cases e2
        obtain ⟨p, vs, rfl, q1, r1⟩ := asO_rep sr rx h
        obtain rfl := rep_i ry
        exact ⟨p, n, vs, rfl, rfl, q1, hh.1, hh.2.1, by rw [← r1.length]; exact hh.2.2, new_lst sr (repL_flat r1 _) (kp k)⟩
      · cases e2
  cases dy <;> try (cases dx <;> simp only at e <;> cases e; done)
  rename_i n
  cases dx <;> simp only at e
  case int i =>
    split at e
    · rename_i hh
      cases e
      obtain rfl := rep_i rx
      obtain rfl := rep_i ry
      exact .inl ⟨i, n, rfl, rfl, hh, k W _ (.refl W) sr rep_iI⟩
    · cases e
  all_goals exact .inr (ls rfl e)
/-! ### is None -/
def isNon : D → Bool
  | .non => true
  | _ => false
theorem non_iff {K : PySem.W.Frag} {W : Wd} {d : D} {v : V} (h : Rep K W d v) : decide (v = .non) = isNon d := by
  cases d <;> simp only [Rep] at h <;> simp only [isNon]
  case non => simp [h]
  all_goals first
    | (subst h; simp; done)
    | (obtain ⟨_, _, rfl, _⟩ := h; simp; done)
    | (obtain ⟨_, rfl, _⟩ := h; simp; done)
    | (obtain ⟨_, _, _, rfl, _⟩ := h; simp; done)
def gIsN (x y : D) (_ : Store) : Option D := match y with
  | .non => some (.bl (isNon x))
  | _ => none
def gNotN (x y : D) (_ : Store) : Option D := match y with
  | .non => some (.bl (!isNon x))
  | _ => none
theorem op_isK : OpD X (compareOp .Is) gIsN := by
  refine opD_of op_isN fun W S dx dy d x y Q sr rx ry e k => ?_
  unfold gIsN at e
  cases dy <;> simp only at e <;> cases e
  have hx := non_iff rx
  have hy : y = .non := by simpa [Rep] using ry
  refine ⟨hy, ?_⟩
  rw [hx]
  exact k W _ (.refl W) sr (rep_blI _)
theorem op_notK : OpD X (compareOp .IsNot) gNotN := by
  refine opD_of op_notN fun W S dx dy d x y Q sr rx ry e k => ?_
  unfold gNotN at e
  cases dy <;> simp only at e <;> cases e
  have hx := non_iff rx
  have hy : y = .non := by simpa [Rep] using ry
  refine ⟨hy, ?_⟩
  rw [hx]
  exact k W _ (.refl W) sr (rep_blI _)
/-! ### -n -/
def negE (a : EM D) : EM D := fun st S => (a st S).bind fun x S1 => match x with
  | .int i => .ok (.int (-i)) S1
  | _ => .bad
theorem de_neg (ha : DE X Wx a ma) : DE X Wx (.UnaryOp .USub a pos) (negE ma) := by
  refine de_of (pe_un un_neg ha.p) fun W st S σ Q at_ q => ?_
  refine goE at_ q fun W1 d S1 v l a1 r q1 => ?_
  cases d <;> try exact q1.elim
  exact ⟨_, rep_i r, q1 W1 _ (.refl W1) a1.s rep_iI⟩
/-! ### slices -/
def cutX {α : Type} (xs : List α) (lo hi : Option Int) : List α := (xs.drop (HT.sIx xs.length 0 lo)).take (HT.sIx xs.length xs.length hi - HT.sIx xs.length 0 lo)
theorem RepL.cut {K : PySem.W.Frag} {W : Wd} {ds : List D} {vs : List V} (r : RepL K W ds vs) (lo hi : Option Int) : RepL K W (cutX ds lo hi) (cutV vs lo hi) := by
  unfold cutX cutV
  rw [r.length]
  exact (r.drop _).take _
def iRes (d : D) (S : Store) : Res (Option Int) := match d with
  | .int i => .ok (some i) S
  | _ => .bad
def optE : Option (EM D) → EM (Option Int)
  | none => fun _ S => .ok none S
  | some m => fun st S => (m st S).bind iRes
def gSl (x : D) (lo hi : Option Int) (S : Store) : Option D := match x with
  | .str z => if z.length ≤ sizeLine then some (.str (cutS z lo hi)) else none
  | .tup xs => some (.tup (cutX xs lo hi))
  | x => (asL S x).map fun xs => .lst (cutX xs lo hi)
def slE (a : EM D) (lo hi : Option (EM D)) : EM D := fun st S => (a st S).bind fun x S1 => (optE lo st S1).bind fun l S2 => (optE hi st S2).bind fun h S3 => .of (gSl x l h S3) S3
/-- a slice that is a list which may be changed -/
def slC (a : EM D) (lo hi : Option (EM D)) : EM D := fun st S => (a st S).bind fun x S1 => (optE lo st S1).bind fun l S2 => (optE hi st S2).bind fun h S3 => match asL S3 x with
  | some xs => .ok (.cell S3.length) (S3 ++ [.lst (cutX xs l h)])
  | none => .bad
inductive DO (X : Cx) (Wx : WX) : Option Expr → Option (EM D) → Prop where
  | none : DO X Wx none none
  | some {e : Expr} {m : EM D} (h : DE X Wx e m) : DO X Wx (some e) (some m)
def tDO (K : PySem.W.Frag) (Wx : WX) : Option (EM D) → TO
  | none => tNoPart
  | some m => tPart (tD K Wx m)
theorem DO.p {o : Option Expr} {m : Option (EM D)} (h : DO X Wx o m) : PO X o (tDO X.K Wx m) := by
  cases h with
  | none => exact po_none
  | some h => exact po_some h.p
theorem goO {K : PySem.W.Frag} {W : Wd} {st : DSt} {S : Store} {σ : St} {Q : VK} {m : Option (EM D)} {f : Option Int → Store → Res D} {R : Option Int → Hp → Prop} (at_ : At K W st S σ W.H) (q : VQ K W Q (fun c d H' => Wx c d σ H') ((optE m st S).bind f))
    (h : ∀ W1 o S1, W.le W1 → At K W1 st S1 σ W1.H → VQ K W1 Q (fun c d H' => Wx c d σ H') (f o S1) → R o W1.H) : tDO K Wx m σ W.H R := by
  cases m with
  | none => exact h W none S (.refl W) at_ q
  | some m =>
    have q' : VQ K W Q (fun c d H' => Wx c d σ H') ((m st S).bind fun d S1 => (iRes d S1).bind f) := by
      have e : (optE (some m) st S).bind f = ((m st S).bind fun d S1 => (iRes d S1).bind f) := by
        show ((m st S).bind iRes).bind f = _
        cases m st S <;> rfl
      rw [← e]
      exact q
    refine goE at_ q' fun W1 d S1 v l a1 r q1 => ?_
    cases d <;> try exact q1.elim
    exact ⟨_, rep_i r, h W1 _ S1 l a1 q1⟩
theorem de_sl {lo hi : Option Expr} {ol oh : Option (EM D)} {p2 : Pos} (ha : DE X Wx a ma) (hl : DO X Wx lo ol) (hh : DO X Wx hi oh) : DE X Wx (.Subscript a (.Slice lo hi none p2) pos) (slE ma ol oh) := by
  refine de_of (pe_slice (SlR.or sl_list (SlR.or sl_tupA sl_str)) ha.p hl.p hh.p) fun W st S σ Q at_ q => ?_
  refine goE at_ q fun W1 dx S1 x l1 a1 r1 q1 => ?_
  refine goO a1 q1 fun W2 l S2 l2 a2 q2 => ?_
  refine goO a2 q2 fun W3 h S3 l3 a3 q3 => ?_
  obtain ⟨d, e, k⟩ := of_go q3
  have r3 := (r1.mono l2 _ _).mono l3 _ _
  unfold gSl at e
  cases dx <;> simp only at e
  case str z =>
    split at e
    · rename_i hz
      cases e
      obtain rfl := rep_s r3
      exact .inr (.inr ⟨z, rfl, hz, k W3 _ (.refl W3) a3.s rep_sI⟩)
    · cases e
  case tup xs =>
    cases e
    obtain ⟨p, vs, rfl, q1, r1⟩ := asT_rep (d := .tup xs) r3 rfl
    refine .inr (.inl ⟨p, vs, rfl, q1, fun hw => ?_, fun _ => new_tup a3.s (r1.cut l h) (kp k)⟩)
    have e1 : cutX xs l h = xs := by
      unfold cutX
      rw [r1.length, hw.1, hw.2, List.drop_zero, Nat.sub_zero, ← r1.length, List.take_length]
    rw [e1] at k
    exact k W3 _ (.refl W3) a3.s r3
  all_goals
    cases hh : asL S3 _ with
    | none => rw [hh] at e; cases e
    | some xs =>
      rw [hh] at e
      cases e
      obtain ⟨p, vs, rfl, q1, r1⟩ := asL_rep a3.s r3 hh
      exact .inl ⟨p, vs, rfl, q1, new_lst a3.s (r1.cut l h) (kp k)⟩
theorem de_slC {lo hi : Option Expr} {ol oh : Option (EM D)} {p2 : Pos} (ha : DE X Wx a ma) (hl : DO X Wx lo ol) (hh : DO X Wx hi oh) : DE X Wx (.Subscript a (.Slice lo hi none p2) pos) (slC ma ol oh) := by
  refine de_of (pe_slice sl_list ha.p hl.p hh.p) fun W st S σ Q at_ q => ?_
  refine goE at_ q fun W1 dx S1 x l1 a1 r1 q1 => ?_
  refine goO a1 q1 fun W2 l S2 l2 a2 q2 => ?_
  refine goO a2 q2 fun W3 h S3 l3 a3 q3 => ?_
  have r3 := (r1.mono l2 _ _).mono l3 _ _
  cases hh : asL S3 dx with
  | none => rw [hh] at q3; exact q3.elim
  | some xs =>
    rw [hh] at q3
    obtain ⟨p, vs, rfl, q1, r1⟩ := asL_rep a3.s r3 hh
    exact ⟨p, vs, rfl, q1, new_cel a3.s (r1.cut l h) q3⟩

/-! ### built-in functions -/
def rDL (K : PySem.W.Frag) (g : List D → Store → Option (D × Store)) : List V → Hp → VK → Prop := fun vs H Q => ∃ W S ds d S', W.H = H ∧ SRep K W S ∧ RepL K W ds vs ∧ g ds S = some (d, S') ∧ ∀ W' v, W.le W' → SRep K W' S' → Rep K W' d v → Q v W'.H
structure CallD (X : Cx) (f : Value) (g : List D → Store → Option (D × Store)) : Prop where
  p : CallR X f (rDL X.K g)
theorem callR_imp {f : Value} {r r' : List V → Hp → VK → Prop} (h : CallR X f r) (i : ∀ xs H Q, r' xs H Q → r xs H Q) : CallR X f r' :=
  fun pins s σ H xs us Q I rx q => h pins s σ H xs us Q I rx (i xs H Q q)
theorem callD_of {f : Value} {r : List V → Hp → VK → Prop} {g : List D → Store → Option (D × Store)} (h : CallR X f r)
    (i : ∀ W S ds d S' vs Q, SRep X.K W S → RepL X.K W ds vs → g ds S = some (d, S') → (∀ W' v, W.le W' → SRep X.K W' S' → Rep X.K W' d v → Q v W'.H) → r vs W.H Q) : CallD X f g :=
  ⟨callR_imp h fun vs H Q ⟨W, S, ds, d, S', e, s, r, eg, k⟩ => by subst e; exact i W S ds d S' vs Q s r eg k⟩
theorem callR_or {f : Value} {r r' : List V → Hp → VK → Prop} (h : CallR X f r) (h' : CallR X f r') : CallR X f (fun xs H Q => r xs H Q ∨ r' xs H Q) :=
  fun pins s σ H xs us Q I rx q => q.elim (h pins s σ H xs us Q I rx) (h' pins s σ H xs us Q I rx)
def Res.of2 (o : Option (D × Store)) : Res D := match o with
  | some (d, S) => .ok d S
  | none => .bad
@[simp] theorem of2_some (d : D) (S : Store) : Res.of2 (some (d, S)) = .ok d S := rfl
@[simp] theorem of2_none : Res.of2 none = .bad := rfl
theorem of2_go {K : PySem.W.Frag} {W : Wd} {Q : VK} {E : XK} {o : Option (D × Store)} (q : VQ K W Q E (.of2 o)) : ∃ d S', o = some (d, S') ∧ ∀ W' v, W.le W' → SRep K W' S' → Rep K W' d v → Q v W'.H := by
  cases o with
  | none => exact q.elim
  | some p => exact ⟨p.1, p.2, rfl, q⟩
def callE (g : List D → Store → Option (D × Store)) (ml : EM (List D)) : EM D := fun st S => (ml st S).bind fun ds S1 => .of2 (g ds S1)
theorem call_go {g : List D → Store → Option (D × Store)} {W : Wd} {st : DSt} {S : Store} {σ : St} {Q : VK} (at_ : At X.K W st S σ W.H) (q : VQ X.K W Q (fun c d H' => Wx c d σ H') (callE g ml st S)) : tDL X.K Wx ml σ W.H fun vs H1 => rDL X.K g vs H1 Q := by
  refine goAE at_ q fun W1 ds S1 vs l a1 r q1 => ?_
  obtain ⟨d, S', e, k⟩ := of2_go q1
  exact ⟨W1, S1, ds, d, S', rfl, a1.s, r, e, k⟩
theorem de_callB {id : String} {x : Str} {p : Pos} {g : List D → Store → Option (D × Store)} (hc : CallD X (.builtin id) g) (hg : Gl X x) (hm : X.mg x = none) (hv : bootBuiltins x = some (.builtin id)) (ha : DA X Wx (e :: es) ml) (hn : x ≠ "__name__" := by decide) (hdb : (x == ("__debug__" : Str)) = false := by decide)
    (he : starEach (e :: es) X.env = (false, eval e X.env) :: starEach es X.env := by rfl) (hpl : (backTo pos (starEach es X.env)).any (·.1) = false := by rfl) : DE X Wx (.Call (.Name x p) (e :: es) [] pos) (callE g ml) :=
  de_of (pe_callB hc.p hg hm hv ha.p hn hdb he hpl) fun W st S σ Q at_ q => call_go at_ q
theorem de_callT {id : String} {x : Str} {p : Pos} {g : List D → Store → Option (D × Store)} (hc : CallD X (.type id) g) (hg : Gl X x) (hm : X.mg x = none) (hv : bootBuiltins x = some (.type id)) (ha : DA X Wx (e :: es) ml) (hn : x ≠ "__name__" := by decide) (hdb : (x == ("__debug__" : Str)) = false := by decide)
    (he : starEach (e :: es) X.env = (false, eval e X.env) :: starEach es X.env := by rfl) (hpl : (backTo pos (starEach es X.env)).any (·.1) = false := by rfl) : DE X Wx (.Call (.Name x p) (e :: es) [] pos) (callE g ml) :=
  de_of (pe_callTy hc.p hg hm hv ha.p hn hdb he hpl) fun W st S σ Q at_ q => call_go at_ q
/-- one argument, the store as it was -/
def g1 (f : D → Store → Option D) : List D → Store → Option (D × Store) := fun ds S => match ds with
  | [x] => (f x S).map fun d => (d, S)
  | _ => none
def g2 (f : D → D → Store → Option D) : List D → Store → Option (D × Store) := fun ds S => match ds with
  | [x, y] => (f x y S).map fun d => (d, S)
  | _ => none
theorem repL_1 {K : PySem.W.Frag} {W : Wd} {x : D} {vs : List V} (h : RepL K W [x] vs) : ∃ v, vs = [v] ∧ Rep K W x v := by
  simp only [RepL] at h
  obtain ⟨v, r, rfl, h1, rfl⟩ := h
  exact ⟨v, rfl, h1⟩
theorem repL_2 {K : PySem.W.Frag} {W : Wd} {x y : D} {vs : List V} (h : RepL K W [x, y] vs) : ∃ v u, vs = [v, u] ∧ Rep K W x v ∧ Rep K W y u := by
  simp only [RepL] at h
  obtain ⟨v, r, rfl, h1, u, r', rfl, h2, rfl⟩ := h
  exact ⟨v, u, rfl, h1, h2⟩
theorem call1 {f : Value} {r : List V → Hp → VK → Prop} {g : D → Store → Option D} (h : CallR X f r)
    (i : ∀ W S x d v Q, SRep X.K W S → Rep X.K W x v → g x S = some d → (∀ W' v, W.le W' → SRep X.K W' S → Rep X.K W' d v → Q v W'.H) → r [v] W.H Q) : CallD X f (g1 g) := by
  refine callD_of h fun W S ds d S' vs Q s rl e k => ?_
  match ds, e with
  | [x], e =>
    obtain ⟨v, rfl, rx⟩ := repL_1 rl
    unfold g1 at e
    cases hg : g x S with
    | none => simp [hg] at e
    | some d' =>
      simp only [hg, Option.map_some, Option.some.injEq, Prod.mk.injEq] at e
      obtain ⟨rfl, rfl⟩ := e
      exact i W S x d' v Q s rx hg k
  | [], e => cases e
  | _ :: _ :: _, e => cases e
theorem call2 {f : Value} {r : List V → Hp → VK → Prop} {g : D → D → Store → Option D} (h : CallR X f r)
    (i : ∀ W S x y d v u Q, SRep X.K W S → Rep X.K W x v → Rep X.K W y u → g x y S = some d → (∀ W' v, W.le W' → SRep X.K W' S → Rep X.K W' d v → Q v W'.H) → r [v, u] W.H Q) : CallD X f (g2 g) := by
  refine callD_of h fun W S ds d S' vs Q s rl e k => ?_
  match ds, e with
  | [x, y], e =>
    obtain ⟨v, u, rfl, rx, ry⟩ := repL_2 rl
    unfold g2 at e
    cases hg : g x y S with
    | none => simp [hg] at e
    | some d' =>
      simp only [hg, Option.map_some, Option.some.injEq, Prod.mk.injEq] at e
      obtain ⟨rfl, rfl⟩ := e
      exact i W S x y d' v u Q s rx ry hg k
  | [], e => cases e
  | [_], e => cases e
  | _ :: _ :: _ :: _, e => cases e
/-- len -/
def gLen (x : D) (S : Store) : Option D := match x with
  | .str z => if z.length ≤ sizeLine then some (.int z.length) else none
  | x => (asQ S x).map fun xs => .int xs.length
theorem call_lenK : CallD X (.builtin "len") (g1 gLen) := by
  refine call1 (callR_or call_len_seq call_len) fun W S x d v Q s rx e k => ?_
  have sq : ∀ x, (asQ S x).map (fun xs => D.int xs.length) = some d → Rep X.K W x v → ∃ p ys, [v] = [V.ref p] ∧ (SqL X.K W.H p ys ∨ SqT X.K W.H p ys) ∧ Q (.int ys.length) W.H := by
    intro x e rx
    cases h : asQ S x with
    | none => rw [h] at e; cases e
    | some xs =>
      rw [h] at e
      cases e
      cases x <;> simp only [asQ] at h
      case tup zs =>
        cases h
        obtain ⟨p, vs, rfl, q1, r1⟩ := asT_rep (d := .tup xs) rx rfl
        exact ⟨p, vs, rfl, .inr q1, by rw [← r1.length]; exact k W _ (.refl W) s rep_iI⟩
      all_goals
        obtain ⟨p, vs, rfl, q1, r1⟩ := asL_rep s rx h
        exact ⟨p, vs, rfl, .inl q1, by rw [← r1.length]; exact k W _ (.refl W) s rep_iI⟩
  unfold gLen at e
  cases x <;> simp only at e
  case str z =>
    split at e
    · rename_i hz
      cases e
      obtain rfl := rep_s rx
      exact .inr ⟨_, z.length, rfl, ⟨hz, rfl⟩, k W _ (.refl W) s rep_iI⟩
    · cases e
  all_goals exact .inl (sq _ e rx)
end
end KF

set_option Elab.async false
set_option linter.all false
set_option maxRecDepth 100000
set_option maxHeartbeats 4000000
/-! KFF: more built-in functions and methods. -/
namespace KF
open PySem PySem.Spec PyProof.Rows L2
section
variable {X : Cx} {Wx : WX} {a b c e o : Expr} {ma mb mc mo : EM D} {pos : Pos} {es : List Expr} {ml : EM (List D)}
/-! ### isinstance -/
def tys : List String := ["int", "bool", "str", "tuple", "list", "dict", "NoneType"]
/-- what the written part says of the own classes cs -/
structure Kits (K : PySem.W.Frag) (cs : List Addr) : Prop where
  a : ∀ C ∈ cs, ∀ T ∈ tys, PySem.W.kitOne K (.ref C) (.type T) = some false
  b : ∀ C ∈ cs, ∀ T ∈ tys, PySem.W.kitOne K (.type T) (.ref C) = some false
  c : ∀ C ∈ cs, ∀ C' ∈ cs, C ≠ C' → PySem.W.kitOne K (.ref C) (.ref C') = some false
  cl : ∀ C ∈ cs, Cls K C
  d : ∀ C ∈ cs, PySem.W.findIn K (.ref C) "__class__" = some (some (.builtin "object.__class__"))
  e : PySem.W.specialIn K (.builtin "object.__class__") "__get__" = some (some (.builtin "getset_descriptor.__get__"))
  f : PySem.W.takesIn K (.builtin "object.__class__") = some true
  g : ∀ C ∈ cs, PySem.W.mroIn K C (.type "object") = some true
/-- the class: a built-in one's name, or an own one -/
inductive Ty where
  | b (n : String) | o (C : Addr)
def tyD (S : Store) : D → Option Ty
  | .non => some (.b "NoneType")
  | .bl _ => some (.b "bool")
  | .int _ => some (.b "int")
  | .str _ => some (.b "str")
  | .tup _ => some (.b "tuple")
  | .lst _ => some (.b "list")
  | .dct _ _ => some (.b "dict")
  | .ins C _ _ => some (.o C)
  | .cell n => match S[n]? with
    | some (.lst _) => some (.b "list")
    | some (.fro _) => some (.b "list")
    | some (.ins C _ _) => some (.o C)
    | some (.fins C _ _) => some (.o C)
    | _ => none
  | _ => none
def isiTy (cs : List Addr) (t u : Ty) : Option Bool := match t, u with
  | .b n, .b m => kitB n m
  | .o C, .b m => if C ∈ cs ∧ m ∈ tys then some false else none
  | .b n, .o C => if C ∈ cs ∧ n ∈ tys then some false else none
  | .o C, .o C' => if C = C' then some true else if C ∈ cs ∧ C' ∈ cs then some false else none
def clsTy : D → Option Ty
  | .ty n => some (.b n)
  | .obj C => some (.o C)
  | _ => none
def tyIn (cs : List Addr) : Ty → Bool
  | .o C => decide (C ∈ cs)
  | _ => true
def gIsi (cs : List Addr) (x c : D) (S : Store) : Option D := match tyD S x, clsTy c with
  | some t, some u => if tyIn cs t then (isiTy cs t u).map .bl else none
  | _, _ => none
def tyV (t : Ty) : Value := match t with
  | .b n => .type n
  | .o C => .ref C
theorem kit_isi {K : PySem.W.Frag} {cs : List Addr} (k : Kits K cs) {t u : Ty} {b : Bool} (h : isiTy cs t u = some b) : PySem.W.kitOne K (tyV t) (tyV u) = some b := by
  cases t <;> cases u <;> simp only [isiTy] at h
  · exact kit_ty h
  · split at h
    · rename_i hh; cases h; exact k.b _ hh.1 _ hh.2
    · cases h
  · split at h
    · rename_i hh; cases h; exact k.a _ hh.1 _ hh.2
    · cases h
  · split at h
    · rename_i hh
      subst hh
      cases h
      unfold PySem.W.kitOne
      rw [if_pos (beq_self_eq_true _)]
    · split at h
      · rename_i h1 hh; cases h; exact k.c _ hh.1 _ hh.2 h1
      · cases h
theorem tyX_of {K : PySem.W.Frag} {cs : List Addr} (k : Kits K cs) {W : Wd} {S : Store} {x : D} {v : V} {t : Ty} (s : SRep K W S) (r : Rep K W x v) (h : tyD S x = some t) (hc : tyIn cs t = true) : TyX K W.H v (tyV t) := by
  have ins : ∀ {a dx C : Addr} {fs : List (Str × V)}, t = .o C → W.H a = some (.ins C dx fs) → TyX K W.H (.ref a) (tyV t) := by
    intro a dx C fs ht e
    subst ht
    have hc := of_decide_eq_true hc
    exact .base (.ins e (k.cl C hc) (k.d C hc) k.e k.f (k.g C hc))
  cases x <;> simp only [tyD, Rep] at h r
  case non => cases h; subst r; exact .base .non
  case bl => cases h; subst r; exact .base (.bl _)
  case int => cases h; subst r; exact .base (.int _)
  case str => cases h; subst r; exact .base (.str _)
  case tup xs =>
    cases h
    obtain ⟨a, vs, rfl, q, _⟩ := r
    rcases q with ⟨q | ⟨o, q⟩, _⟩ | ⟨o, its, n, h1, h2, _⟩
    · exact .base (.tup q)
    · exact .fTuple q
    · exact .kTuple h1 h2
  case lst xs =>
    cases h
    obtain ⟨a, vs, rfl, q, _⟩ := r
    exact .base (.lst q)
  case dct ks xs =>
    cases h
    obtain ⟨a, vs, rfl, q, _⟩ := r
    rcases q with q | ⟨o, q⟩
    · exact .base (.dK q)
    · exact .fDict q
  case ins C ks xs =>
    obtain ⟨a, dx, vs, rfl, q, _⟩ := r
    exact ins (Option.some.inj h).symm q
  case cell n =>
    obtain ⟨a, rfl, h2⟩ := r
    split at h <;> try cases h
    · rename_i xs hs
      obtain ⟨vs, q, _⟩ := s.at_ _ _ _ h2 hs
      exact .base (.lst q)
    · rename_i xs hs
      obtain ⟨vs, q, _⟩ := s.at_ _ _ _ h2 hs
      exact .base (.lst q)
    · rename_i C ks xs hs
      obtain ⟨dx, vs, q, _⟩ := s.at_ _ _ _ h2 hs
      exact ins rfl q
    · rename_i C ks xs hs
      obtain ⟨dx, vs, q, _⟩ := s.at_ _ _ _ h2 hs
      exact ins rfl q
  all_goals cases h
theorem call_isiK {cs : List Addr} (k : Kits X.K cs) : CallD X (.builtin "isinstance") (g2 (gIsi cs)) := by
  refine call2 call_isi fun W S x c d v u Q s rx rc e kk => ?_
  unfold gIsi at e
  cases h1 : tyD S x with
  | none => rw [h1] at e; cases e
  | some t =>
    cases h2 : clsTy c with
    | none => rw [h1, h2] at e; cases e
    | some w =>
      rw [h1, h2] at e
      simp only at e
      split at e
      · rename_i hc
        cases h3 : isiTy cs t w with
        | none => rw [h3] at e; cases e
        | some b =>
          rw [h3] at e
          cases e
          refine ⟨v, u, tyV t, tyV w, b, rfl, ?_, tyX_of k s rx h1 hc, kit_isi k h3, kk W _ (.refl W) s (rep_blI b)⟩
          cases c <;> simp only [clsTy] at h2 <;> cases h2
          · obtain rfl : u = .ty _ := by simpa [Rep] using rc
            exact .ty _
          · obtain rfl : u = .ref _ := by simpa [Rep] using rc
            exact .own _
      · cases e
/-! ### numbers -/
def gInt (x : D) (_ : Store) : Option D := match x with
  | .int i => some (.int i)
  | .bl k => some (.int (if k then 1 else 0))
  | _ => none
theorem call_intK : CallD X (.type "int") (g1 gInt) := by
  refine call1 call_int1 fun W S x d v Q s rx e k => ?_
  unfold gInt at e
  cases x <;> simp only at e <;> cases e
  · obtain rfl := rep_b rx
    exact .inr ⟨_, rfl, k W _ (.refl W) s rep_iI⟩
  · obtain rfl := rep_i rx
    exact .inl ⟨_, rfl, k W _ (.refl W) s rep_iI⟩
def gAbs (x : D) (_ : Store) : Option D := match x with
  | .int i => some (.int (if i < 0 then -i else i))
  | _ => none
theorem call_absK : CallD X (.builtin "abs") (g1 gAbs) := by
  refine call1 call_abs fun W S x d v Q s rx e k => ?_
  unfold gAbs at e
  cases x <;> simp only at e <;> cases e
  obtain rfl := rep_i rx
  exact ⟨_, rfl, k W _ (.refl W) s rep_iI⟩
def gStr (x : D) (_ : Store) : Option D := match x with
  | .int i => if i.natAbs.log2 < 1920 then some (.str (toString i)) else none
  | _ => none
theorem call_strK : CallD X (.type "str") (g1 gStr) := by
  refine call1 call_str_int fun W S x d v Q s rx e k => ?_
  unfold gStr at e
  cases x <;> simp only at e <;> try cases e
  split at e
  · rename_i hh
    cases e
    obtain rfl := rep_i rx
    exact ⟨_, rfl, hh, k W _ (.refl W) s rep_sI⟩
  · cases e
abbrev gMax := g2I fun i j => some (.int (if j > i then j else i))
abbrev gMin := g2I fun i j => some (.int (if j < i then j else i))
theorem call_maxK (hc : X.calm = true) : CallD X (.builtin "max") (g2 gMax) := by
  refine call2 (call_max2 hc) fun W S x y d v u Q s rx ry e k => ?_
  unfold gMax g2I at e
  cases x <;> cases y <;> simp only at e <;> cases e
  obtain rfl := rep_i rx
  obtain rfl := rep_i ry
  exact ⟨_, _, rfl, k W _ (.refl W) s rep_iI⟩
theorem call_minK (hc : X.calm = true) : CallD X (.builtin "min") (g2 gMin) := by
  refine call2 (call_min2 hc) fun W S x y d v u Q s rx ry e k => ?_
  unfold gMin g2I at e
  cases x <;> cases y <;> simp only at e <;> cases e
  obtain rfl := rep_i rx
  obtain rfl := rep_i ry
  exact ⟨_, _, rfl, k W _ (.refl W) s rep_iI⟩
def gDivmod (x y : D) (_ : Store) : Option D := match x, y with
  | .int i, .int j => if 0 < j ∧ j.natAbs.log2 < 9000 then some (.tup [.int (i / j), .int (i % j)]) else none
  | _, _ => none
theorem call_divmodK : CallD X (.builtin "divmod") (g2 gDivmod) := by
  refine call2 call_divmodW fun W S x y d v u Q s rx ry e k => ?_
  unfold gDivmod at e
  cases x <;> cases y <;> simp only at e <;> try cases e
  split at e
  · rename_i hh
    cases e
    obtain rfl := rep_i rx
    obtain rfl := rep_i ry
    exact ⟨_, _, rfl, ⟨hh.1, PyProof.noPylong_of_log2 hh.2⟩, new_tup s (repL_cons rep_iI (repL_cons rep_iI repL_nil)) (kp k)⟩
  · cases e
/-! ### lists of ints, of truths, of texts -/
def intsD : List D → Option (List Int)
  | [] => some []
  | .int i :: ds => (intsD ds).map (i :: ·)
  | _ :: _ => none
def boolsD : List D → Option (List Bool)
  | [] => some []
  | .bl i :: ds => (boolsD ds).map (i :: ·)
  | _ :: _ => none
def strsD : List D → Option (List Str)
  | [] => some []
  | .str i :: ds => (strsD ds).map (i :: ·)
  | _ :: _ => none
theorem ints_rep {K : PySem.W.Frag} {W : Wd} : ∀ {ds : List D} {vs : List V} {ns : List Int}, RepL K W ds vs → intsD ds = some ns → vs = ns.map V.int
  | [], vs, ns, r, h => by
    simp only [intsD] at h
    cases h
    simpa [RepL] using r
  | d :: ds, vs, ns, r, h => by
    simp only [RepL] at r
    obtain ⟨v, u, rfl, r1, r2⟩ := r
    cases d <;> simp only [intsD] at h <;> try cases h
    cases hh : intsD ds with
    | none => rw [hh] at h; cases h
    | some ms =>
      rw [hh] at h
      cases h
      rw [rep_i r1, ints_rep r2 hh]
      rfl
theorem bools_rep {K : PySem.W.Frag} {W : Wd} : ∀ {ds : List D} {vs : List V} {ns : List Bool}, RepL K W ds vs → boolsD ds = some ns → vs = ns.map V.bl
  | [], vs, ns, r, h => by
    simp only [boolsD] at h
    cases h
    simpa [RepL] using r
  | d :: ds, vs, ns, r, h => by
    simp only [RepL] at r
    obtain ⟨v, u, rfl, r1, r2⟩ := r
    cases d <;> simp only [boolsD] at h <;> try cases h
    cases hh : boolsD ds with
    | none => rw [hh] at h; cases h
    | some ms =>
      rw [hh] at h
      cases h
      rw [rep_b r1, bools_rep r2 hh]
      rfl
theorem strs_rep {K : PySem.W.Frag} {W : Wd} : ∀ {ds : List D} {vs : List V} {ns : List Str}, RepL K W ds vs → strsD ds = some ns → vs = ns.map V.str
  | [], vs, ns, r, h => by
    simp only [strsD] at h
    cases h
    simpa [RepL] using r
  | d :: ds, vs, ns, r, h => by
    simp only [RepL] at r
    obtain ⟨v, u, rfl, r1, r2⟩ := r
    cases d <;> simp only [strsD] at h <;> try cases h
    cases hh : strsD ds with
    | none => rw [hh] at h; cases h
    | some ms =>
      rw [hh] at h
      cases h
      rw [rep_s r1, strs_rep r2 hh]
      rfl
theorem strs_repI {K : PySem.W.Frag} {W : Wd} : ∀ ns : List Str, RepL K W (ns.map D.str) (ns.map V.str)
  | [] => repL_nil
  | n :: ns => repL_cons rep_sI (strs_repI ns)
def gSum (x : D) (S : Store) : Option D := ((asL S x).bind intsD).map fun ns => .int ns.sum
def gAll (x : D) (S : Store) : Option D := ((asL S x).bind boolsD).map fun bs => .bl (bs.all id)
def gAny (x : D) (S : Store) : Option D := ((asL S x).bind boolsD).map fun bs => .bl (bs.any id)
theorem bind_map {α β γ : Type} {o : Option α} {f : α → Option β} {g : β → γ} {d : γ} (h : (o.bind f).map g = some d) : ∃ x y, o = some x ∧ f x = some y ∧ g y = d := by
  cases o with
  | none => cases h
  | some x =>
    simp only [Option.bind_some] at h
    cases e : f x with
    | none => rw [e] at h; cases h
    | some y =>
      rw [e] at h
      exact ⟨x, y, rfl, e, Option.some.inj h⟩
theorem call_sumK (hc : X.calm = true) : CallD X (.builtin "sum") (g1 gSum) := by
  refine call1 (cr_sum hc) fun W S x d v Q s rx e k => ?_
  obtain ⟨ds, ns, h1, h2, rfl⟩ := bind_map e
  obtain ⟨p, vs, rfl, q, r⟩ := asL_rep s rx h1
  obtain rfl := ints_rep r h2
  exact ⟨p, ns, rfl, q, k W _ (.refl W) s rep_iI⟩
theorem call_allK (hc : X.calm = true) : CallD X (.builtin "all") (g1 gAll) := by
  refine call1 (cr_all hc) fun W S x d v Q s rx e k => ?_
  obtain ⟨ds, ns, h1, h2, rfl⟩ := bind_map e
  obtain ⟨p, vs, rfl, q, r⟩ := asL_rep s rx h1
  obtain rfl := bools_rep r h2
  exact ⟨p, ns, rfl, q, k W _ (.refl W) s (rep_blI _)⟩
theorem call_anyK (hc : X.calm = true) : CallD X (.builtin "any") (g1 gAny) := by
  refine call1 (cr_any hc) fun W S x d v Q s rx e k => ?_
  obtain ⟨ds, ns, h1, h2, rfl⟩ := bind_map e
  obtain ⟨p, vs, rfl, q, r⟩ := asL_rep s rx h1
  obtain rfl := bools_rep r h2
  exact ⟨p, ns, rfl, q, k W _ (.refl W) s (rep_blI _)⟩
/-- list(x), tuple(x) -/
def gList (x : D) (S : Store) : Option D := (asQ S x).map .lst
def gTuple (x : D) (S : Store) : Option D := (asQ S x).map .tup
def gListC : List D → Store → Option (D × Store) := fun ds S => match ds with
  | [x] => (asQ S x).map fun xs => (.cell S.length, S ++ [.lst xs])
  | _ => none
theorem asQ_cases {K : PySem.W.Frag} {W : Wd} {S : Store} {x : D} {v : V} {xs : List D} (s : SRep K W S) (r : Rep K W x v) (h : asQ S x = some xs) : ∃ p vs, v = .ref p ∧ RepL K W xs vs ∧ ((SqL K W.H p vs) ∨ (SqT K W.H p vs ∧ x = .tup xs)) := by
  cases x <;> simp only [asQ] at h
  case tup zs =>
    cases h
    obtain ⟨p, vs, rfl, q1, r1⟩ := asT_rep (d := .tup xs) r rfl
    exact ⟨p, vs, rfl, r1, .inr ⟨q1, rfl⟩⟩
  all_goals
    obtain ⟨p, vs, rfl, q1, r1⟩ := asL_rep s r h
    exact ⟨p, vs, rfl, r1, .inl q1⟩
theorem call_listK : CallD X (.type "list") (g1 gList) := by
  refine call1 call_list_of fun W S x d v Q s rx e k => ?_
  unfold gList at e
  cases h : asQ S x with
  | none => rw [h] at e; cases e
  | some xs =>
    rw [h] at e
    cases e
    obtain ⟨p, vs, rfl, r1, q⟩ := asQ_cases s rx h
    exact ⟨p, vs, rfl, q.imp id fun z => z.1, new_lst s r1 (kp k)⟩
theorem call_listC : CallD X (.type "list") gListC := by
  refine callD_of call_list_of fun W S ds d S' vs Q s rl e k => ?_
  unfold gListC at e
  match ds, e with
  | [x], e =>
    obtain ⟨v, rfl, rx⟩ := repL_1 rl
    cases h : asQ S x with
    | none => simp [h] at e
    | some xs =>
      simp only [h, Option.map_some, Option.some.injEq, Prod.mk.injEq] at e
      obtain ⟨rfl, rfl⟩ := e
      obtain ⟨p, vs, rfl, r1, q⟩ := asQ_cases s rx h
      exact ⟨p, vs, rfl, q.imp id fun z => z.1, new_cel (Q := Q) (E := fun _ _ _ => False) s r1 k⟩
  | [], e => cases e
  | _ :: _ :: _, e => cases e
theorem call_tupleK : CallD X (.type "tuple") (g1 gTuple) := by
  refine call1 call_tuple_of fun W S x d v Q s rx e k => ?_
  unfold gTuple at e
  cases h : asQ S x with
  | none => rw [h] at e; cases e
  | some xs =>
    rw [h] at e
    cases e
    obtain ⟨p, vs, rfl, r1, q⟩ := asQ_cases s rx h
    refine ⟨p, vs, rfl, ?_⟩
    rcases q with q | ⟨q, rfl⟩
    · exact .inl ⟨q, new_tup s r1 (kp k)⟩
    · exact .inr ⟨q, k W _ (.refl W) s rx⟩

/-! ### methods -/
def rDM (K : PySem.W.Frag) (g : D → List D → Store → Option (D × Store)) : V → List V → Hp → VK → Prop := fun x vs H Q => ∃ W S dx ds d S', W.H = H ∧ SRep K W S ∧ Rep K W dx x ∧ RepL K W ds vs ∧ g dx ds S = some (d, S') ∧ ∀ W' v, W.le W' → SRep K W' S' → Rep K W' d v → Q v W'.H
structure MethD (X : Cx) (id : String) (g : D → List D → Store → Option (D × Store)) : Prop where
  p : MtR X id (rDM X.K g)
theorem mtR_imp {id : String} {r r' : V → List V → Hp → VK → Prop} (h : MtR X id r) (i : ∀ x xs H Q, r' x xs H Q → r x xs H Q) : MtR X id r' :=
  fun pins s σ H x xs v us Q I rx r q => h pins s σ H x xs v us Q I rx r (i x xs H Q q)
theorem methD_of {id : String} {r : V → List V → Hp → VK → Prop} {g : D → List D → Store → Option (D × Store)} (h : MtR X id r)
    (i : ∀ W S dx ds d S' x vs Q, SRep X.K W S → Rep X.K W dx x → RepL X.K W ds vs → g dx ds S = some (d, S') → (∀ W' v, W.le W' → SRep X.K W' S' → Rep X.K W' d v → Q v W'.H) → r x vs W.H Q) : MethD X id g :=
  ⟨mtR_imp h fun x vs H Q ⟨W, S, dx, ds, d, S', e, s, rx, r, eg, k⟩ => by subst e; exact i W S dx ds d S' x vs Q s rx r eg k⟩
def methE (ok : Store → D → Bool) (g : D → List D → Store → Option (D × Store)) (o : EM D) (ml : EM (List D)) : EM D := fun st S => (o st S).bind fun x S1 => if ok S1 x then (ml st S1).bind fun ds S2 => .of2 (g x ds S2) else .bad
/-- the receiver is a text, a list -/
def okS : Store → D → Bool
  | _, .str _ => true
  | _, _ => false
def okL (S : Store) (d : D) : Bool := (asL S d).isSome
theorem okS_ty {K : PySem.W.Frag} {W : Wd} {S : Store} {d : D} {v : V} (s : SRep K W S) (r : Rep K W d v) (h : okS S d = true) : L2.tyV K "str" v W.H := by
  cases d <;> simp only [okS] at h <;> try cases h
  obtain rfl := rep_s r
  exact rfl
theorem okL_ty {K : PySem.W.Frag} {W : Wd} {S : Store} {d : D} {v : V} (s : SRep K W S) (r : Rep K W d v) (h : okL S d = true) : L2.tyV K "list" v W.H := by
  unfold okL at h
  obtain ⟨xs, hx⟩ := Option.isSome_iff_exists.mp h
  obtain ⟨p, vs, rfl, q, _⟩ := asL_rep s r hx
  exact .inl ⟨rfl, vs, q⟩
theorem de_m {T id : String} {name : Str} {apos cpos : Pos} {ok : Store → D → Bool} {g : D → List D → Store → Option (D × Store)} (pa : PlainAttrs T) (slot : Slot T name id) (hty : typeOf (.builtin id) = pure (.type "method_descriptor")) (hm : MethD X id g)
    (hok : ∀ {K : PySem.W.Frag} {W : Wd} {S : Store} {d : D} {v : V}, SRep K W S → Rep K W d v → ok S d = true → L2.tyV K T v W.H)
    {t : TE} (ho : DE X Wx o mo) (ha : DA X Wx (e :: es) ml) (hp : PE X (.Call (.Attribute o name apos) (e :: es) [] cpos) (tBM X.K T (rDM X.K g) (tD X.K Wx mo) (tDL X.K Wx ml))) :
    DE X Wx (.Call (.Attribute o name apos) (e :: es) [] cpos) (methE ok g mo ml) := by
  refine de_of hp fun W st S σ Q at_ q => ?_
  refine goE at_ q fun W1 dx S1 x l1 a1 r1 q1 => ?_
  by_cases h : ok S1 dx = true
  · rw [if_pos h] at q1
    refine ⟨hok a1.s r1 h, ?_⟩
    refine goAE a1 q1 fun W2 ds S2 vs l2 a2 r2 q2 => ?_
    obtain ⟨d, S', e, k⟩ := of2_go q2
    exact ⟨W2, S2, dx, ds, d, S', rfl, a2.s, r1.mono l2 _ _, r2, e, k⟩
  · rw [if_neg h] at q1
    exact q1.elim
theorem de_m0 {T id : String} {name : Str} {apos cpos : Pos} {ok : Store → D → Bool} {g : D → List D → Store → Option (D × Store)} (hm : MethD X id g)
    (hok : ∀ {K : PySem.W.Frag} {W : Wd} {S : Store} {d : D} {v : V}, SRep K W S → Rep K W d v → ok S d = true → L2.tyV K T v W.H)
    (ho : DE X Wx o mo) (hp : PE X (.Call (.Attribute o name apos) [] [] cpos) (tBM0 X.K T (rDM X.K g) (tD X.K Wx mo))) :
    DE X Wx (.Call (.Attribute o name apos) [] [] cpos) (methE ok g mo (seqE [])) := by
  refine de_of hp fun W st S σ Q at_ q => ?_
  refine goE at_ q fun W1 dx S1 x l1 a1 r1 q1 => ?_
  by_cases h : ok S1 dx = true
  · rw [if_pos h] at q1
    refine ⟨hok a1.s r1 h, ?_⟩
    obtain ⟨d, S', e, k⟩ := of2_go (o := g dx [] S1) q1
    exact ⟨W1, S1, dx, [], d, S', rfl, a1.s, r1, repL_nil, e, k⟩
  · rw [if_neg h] at q1
    exact q1.elim
/-- the list at a cell that may be changed -/
def mutL (S : Store) : D → Option (Nat × List D)
  | .cell n => match S[n]? with
    | some (.lst xs) => some (n, xs)
    | _ => none
  | _ => none
theorem mutL_rep {K : PySem.W.Frag} {W : Wd} {S : Store} {d : D} {v : V} {n : Nat} {xs : List D} (s : SRep K W S) (r : Rep K W d v) (h : mutL S d = some (n, xs)) : ∃ a vs, v = .ref a ∧ W.N[n]? = some a ∧ W.M a ∧ W.H a = some (.lst vs) ∧ RepL K W xs vs := by
  cases d <;> simp only [mutL] at h <;> try cases h
  simp only [Rep] at r
  obtain ⟨a, rfl, h2⟩ := r
  split at h <;> cases h
  rename_i hs
  obtain ⟨vs, q1, q2, q3⟩ := s.at_ _ _ _ h2 hs
  exact ⟨a, vs, rfl, h2, q2, q1, q3⟩
/-- the cell's list is another one now -/
theorem put_lst {K : PySem.W.Frag} {W : Wd} {S : Store} {n : Nat} {a : Addr} {ds : List D} {vs : List V} {d : D} {v : V} {Q : VK} (s : SRep K W S) (hn : W.N[n]? = some a) (hm : W.M a) (r : RepL K W ds vs) (rd : Rep K W d v)
    (k : ∀ W' v, W.le W' → SRep K W' (S.set n (.lst ds)) → Rep K W' d v → Q v W'.H) : Q v (upd W.H a (.lst vs)) := by
  have l := Wd.wr_le (W := W) (o := .lst vs) (b := True) hm (s.nl hn)
  refine k (W.wr a (.lst vs) True) v l (s.wr hn hm ⟨vs, upd_same, ⟨hm, fun _ => trivial⟩, r.mono l _ _⟩) (rd.mono l _ _)
def mAppend (x : D) (ds : List D) (S : Store) : Option (D × Store) := match mutL S x, ds with
  | some (n, xs), [d] => if xs.length < sizeLine then some (.non, S.set n (.lst (xs ++ [d]))) else none
  | _, _ => none
theorem mt_appendK : MethD X "list.append" mAppend := by
  refine methD_of mt_append fun W S dx ds d S' x vs Q s rx r e k => ?_
  unfold mAppend at e
  split at e
  · rename_i n xs y h1
    split at e
    · rename_i hl
      cases e
      obtain ⟨a, vs', rfl, h2, h3, h4, h5⟩ := mutL_rep s rx h1
      obtain ⟨u, rfl, ru⟩ := repL_1 r
      exact ⟨a, vs', u, rfl, rfl, h4, by rw [← h5.length]; exact hl, put_lst s h2 h3 (repL_append h5 (repL_cons ru repL_nil)) rep_nI k⟩
    · cases e
  · cases e
def mInsert (x : D) (ds : List D) (S : Store) : Option (D × Store) := match mutL S x, ds with
  | some (n, xs), [.int i, d] => if xs.length < sizeLine ∧ 0 ≤ i ∧ i < 2 ^ 63 then some (.non, S.set n (.lst (xs.take i.toNat ++ [d] ++ xs.drop i.toNat))) else none
  | _, _ => none
theorem mt_insertK : MethD X "list.insert" mInsert := by
  refine methD_of mt_insert fun W S dx ds d S' x vs Q s rx r e k => ?_
  unfold mInsert at e
  split at e
  · rename_i n xs i y h1
    split at e
    · rename_i hl
      cases e
      obtain ⟨a, vs', rfl, h2, h3, h4, h5⟩ := mutL_rep s rx h1
      obtain ⟨u, w, rfl, ru, rw'⟩ := repL_2 r
      obtain rfl := rep_i ru
      exact ⟨a, vs', i, w, rfl, rfl, h4, by rw [← h5.length]; exact hl.1, hl.2.1, hl.2.2, put_lst s h2 h3 (repL_append (repL_append (h5.take _) (repL_cons rw' repL_nil)) (h5.drop _)) rep_nI k⟩
    · cases e
  · cases e
def mSplit (x : D) (ds : List D) (S : Store) : Option (D × Store) := match x, ds with
  | .str a, [.str b] => if (b.length == 0) = false ∧ a.length + 2 ≤ sizeLine then some (.lst ((Txt.split a b).map .str), S) else none
  | _, _ => none
theorem mt_splitK : MethD X "str.split" mSplit := by
  refine methD_of mt_split fun W S dx ds d S' x vs Q s rx r e k => ?_
  unfold mSplit at e
  split at e
  · rename_i a b
    split at e
    · rename_i hl
      cases e
      obtain rfl := rep_s rx
      obtain ⟨u, rfl, ru⟩ := repL_1 r
      obtain rfl := rep_s ru
      exact ⟨a, b, rfl, rfl, hl.1, hl.2, new_lst s (strs_repI _) (kp k)⟩
    · cases e
  · cases e
def mJoin (x : D) (ds : List D) (S : Store) : Option (D × Store) := match x, ds with
  | .str a, [y] => ((asQ S y).bind strsD).bind fun ys => if (ys.map (·.length)).sum + ys.length * a.length ≤ 16777216 then some (.str (Txt.join a ys), S) else none
  | _, _ => none
theorem mt_joinK : MethD X "str.join" mJoin := by
  refine methD_of mt_join fun W S dx ds d S' x vs Q s rx r e k => ?_
  unfold mJoin at e
  split at e
  · rename_i a y
    cases h : asQ S y with
    | none => rw [h] at e; cases e
    | some xs =>
      rw [h] at e
      simp only [Option.bind_some] at e
      cases h2 : strsD xs with
      | none => rw [h2] at e; cases e
      | some ys =>
        rw [h2] at e
        simp only [Option.bind_some] at e
        split at e
        · rename_i hl
          cases e
          obtain rfl := rep_s rx
          obtain ⟨u, rfl, ru⟩ := repL_1 r
          obtain ⟨p, vs, rfl, r1, q⟩ := asQ_cases s ru h
          obtain rfl := strs_rep r1 h2
          exact ⟨a, p, ys, rfl, rfl, q.imp id fun z => z.1, hl, k W _ (.refl W) s rep_sI⟩
        · cases e
  · cases e
def mStarts (x : D) (ds : List D) (S : Store) : Option (D × Store) := match x, ds with
  | .str a, [.str b] => some (.bl (Txt.startswith a b), S)
  | _, _ => none
theorem mt_startsK : MethD X "str.startswith" mStarts := by
  refine methD_of mt_startswith fun W S dx ds d S' x vs Q s rx r e k => ?_
  unfold mStarts at e
  split at e
  · cases e
    obtain rfl := rep_s rx
    obtain ⟨u, rfl, ru⟩ := repL_1 r
    obtain rfl := rep_s ru
    exact ⟨_, _, rfl, rfl, k W _ (.refl W) s (rep_blI _)⟩
  · cases e
end
end KF

set_option Elab.async false
set_option linter.all false
set_option maxRecDepth 100000
set_option maxHeartbeats 4000000
/-! KFG: statements, targets, loops, comprehensions. -/
namespace KF
open PySem PySem.Spec PyProof.Rows L2
section
variable {X : Cx} {Wx : WX} {a b c e o : Expr} {ma mb mc me mo : EM D} {pos : Pos} {es : List Expr} {ml : EM (List D)} {s1 : Stmt} {ss : List Stmt} {m1 m2 : SM}
/-! ### statements -/
def nextS : SM := fun st S => .nx st S
def seqS (a b : SM) : SM := fun st S => match a st S with
  | .nx st1 S1 => b st1 S1
  | r => r
theorem dss_nil : DSs X Wx [] nextS := dss_of pss_nil fun W st S σ D at_ q => q W σ (.refl W) at_.s at_.e
theorem dss_cons (h1 : DS X Wx s1 m1) (h2 : DSs X Wx ss m2) : DSs X Wx (s1 :: ss) (seqS m1 m2) := by
  refine dss_of (pss_cons h1.p h2.p) fun W st S σ D at_ q => ?_
  refine ⟨W, st, S, at_, ?_⟩
  unfold seqS at q
  cases h : m1 st S with
  | nx st1 S1 =>
    rw [h] at q
    exact fun W' σ' l s e => ⟨W', st1, S1, ⟨rfl, s, e⟩, SQ.mono l q⟩
  | rt d S1 => rw [h] at q; exact q
  | bk st1 S1 => rw [h] at q; exact q
  | ct st1 S1 => rw [h] at q; exact q
  | err x st1 S1 => rw [h] at q; exact q
  | bad => rw [h] at q; exact q
theorem dss_one (h1 : DS X Wx s1 m1) : DSs X Wx [s1] m1 := ⟨pss_one h1.p⟩
/-- an expression in a statement -/
def exS (m : EM D) (f : D → DSt → Store → SRes) : SM := fun st S => match m st S with
  | .ok d S1 => f d st S1
  | .err e S1 => .err e st S1
  | .bad => .bad
def setS (i : Nat) (m : EM D) : SM := exS m fun d st S => .nx (st.set i (some d)) S
def retS (m : EM D) : SM := exS m fun d _ S => .rt d S
def exprS (m : EM D) : SM := exS m fun _ st S => .nx st S
theorem ds_ret (h : DE X Wx e me) : DS X Wx (.Return (some e) pos) (retS me) := by
  refine ds_of (ps_ret h.p) fun W st S σ D at_ q => ?_
  exact goS at_ q fun W1 d S1 v l a1 r q1 => q1 W1 v (.refl W1) a1.s r
theorem ds_expr (h : DE X Wx e me) (hs : swapsWith e none pos.line X.env = pure false := by rfl) : DS X Wx (.Expr e pos) (exprS me) := by
  refine ds_of (ps_expr h.p hs) fun W st S σ D at_ q => ?_
  exact goS at_ q fun W1 d S1 v l a1 r q1 => q1 W1 σ (.refl W1) a1.s a1.e
theorem ds_set {i : Nat} {x : Str} {pos' : Pos} (hN : X.N.Nodup) (h : DE X Wx e me) (hi : X.N[i]? = some x := by rfl) (hx : Loc X.env.scope x := by first | exact Or.inl rfl | exact Or.inr rfl) (hs : swapsWith e (some (.Name x pos')) pos.line X.env = pure false := by rfl)
    (hf : X.fn x = true ∨ X.env.scope.names.lookup x = some .local := by first | exact .inl rfl | exact .inr rfl | assumption) : DS X Wx (.Assign [.Name x pos'] e pos) (setS i me) := by
  refine ds_of (ps_set hN hi hx h.p hs hf) fun W st S σ D at_ q => ?_
  exact goS at_ q fun W1 d S1 v l a1 r q1 => q1 W1 _ (.refl W1) a1.s (a1.e.set i r)
def ifS (c : EM Bool) (a b : SM) : SM := fun st S => match c st S with
  | .ok k S1 => if k then a st S1 else b st S1
  | .err e S1 => .err e st S1
  | .bad => .bad
theorem ds_if {tc : EM Bool} {aa bb : List Stmt} (hc : DT X Wx c tc) (ha : DSs X Wx aa m1) (hb : DSs X Wx bb m2) : DS X Wx (.If c aa bb pos) (ifS tc m1 m2) := by
  refine ds_of (ps_if hc.p ha.p hb.p) fun W st S σ D at_ q => ?_
  refine goTS at_ q fun W1 k S1 l a1 q1 => ?_
  cases k with
  | true => exact ⟨W1, st, S1, a1, q1⟩
  | false => exact ⟨W1, st, S1, a1, q1⟩
theorem ds_pass : DS X Wx (.Pass pos) nextS := ds_of ps_pass fun W st S σ D at_ q => q W σ (.refl W) at_.s at_.e
def breakS : SM := fun st S => .bk st S
def contS : SM := fun st S => .ct st S
def badS : SM := fun _ _ => .bad
theorem ds_break : DS X Wx (.Break pos) breakS := ds_of ps_break fun W st S σ D at_ q => q W σ (.refl W) at_.s at_.e
theorem ds_cont : DS X Wx (.Continue pos) contS := ds_of ps_continue fun W st S σ D at_ q => q W σ (.refl W) at_.s at_.e
/-- a statement that is never reached -/
theorem ds_never {s : Stmt} : DS X Wx s badS := ds_of ps_never fun W st S σ D at_ q => q
/-! ### targets -/
abbrev GM := D → DSt → Store → SRes
def tDG (K : PySem.W.Frag) (Wx : WX) (g : GM) : TG := fun v σ H Q => ∃ W st S d, At K W st S σ H ∧ Rep K W d v ∧ SQ K W { nx := Q, rt := fun _ _ => False } Wx (g d st S)
structure DG (X : Cx) (Wx : WX) (e : Expr) (g : GM) : Prop where
  p : PG X e (tDG X.K Wx g)
def tDGs (K : PySem.W.Frag) (Wx : WX) (g : List D → DSt → Store → SRes) : TGs := fun vs σ H Q => ∃ W st S ds, At K W st S σ H ∧ RepL K W ds vs ∧ SQ K W { nx := Q, rt := fun _ _ => False } Wx (g ds st S)
structure DGs (X : Cx) (Wx : WX) (es : List Expr) (g : List D → DSt → Store → SRes) : Prop where
  p : PGs X es (tDGs X.K Wx g)
theorem pg_imp {e : Expr} {t t' : TG} (h : PG X e t) (i : ∀ v σ H Q, t' v σ H Q → t v σ H Q) : PG X e t' := ⟨fun pins s σ H v u Q I r q => h.run pins s σ H v u Q I r (i v σ H Q q)⟩
theorem pgs_imp {e : List Expr} {t t' : TGs} (h : PGs X e t) (i : ∀ v σ H Q, t' v σ H Q → t v σ H Q) : PGs X e t' := ⟨fun pins s σ H v u Q I r q => h.run pins s σ H v u Q I r (i v σ H Q q)⟩
def nameG (i : Nat) : GM := fun d st S => .nx (st.set i (some d)) S
theorem dg_name (i : Nat) {x : Str} (hN : X.N.Nodup) (hi : X.N[i]? = some x := by rfl) (hx : Loc X.env.scope x := by first | exact Or.inl rfl | exact Or.inr rfl) (hf : X.fn x = true ∨ X.env.scope.names.lookup x = some .local := by first | exact .inl rfl | exact .inr rfl | assumption) : DG X Wx (.Name x pos) (nameG i) :=
  ⟨pg_imp (pg_name hN hi hx hf) fun v σ H Q ⟨W, st, S, d, at_, r, q⟩ => by
    obtain ⟨rfl, s, e⟩ := at_
    exact q W _ (.refl W) s (e.set i r)⟩
def nilG : List D → DSt → Store → SRes := fun ds st S => match ds with
  | [] => .nx st S
  | _ => .bad
def consG (g : GM) (gs : List D → DSt → Store → SRes) : List D → DSt → Store → SRes := fun ds st S => match ds with
  | [] => .bad
  | d :: ds => match g d st S with
    | .nx st1 S1 => gs ds st1 S1
    | .err e st1 S1 => .err e st1 S1
    | _ => .bad
theorem dgs_nil : DGs X Wx [] nilG :=
  ⟨pgs_imp pgs_nil fun v σ H Q ⟨W, st, S, ds, at_, r, q⟩ => by
    obtain ⟨rfl, s, e⟩ := at_
    match ds, q with
    | [], q =>
      simp only [RepL] at r
      exact ⟨r, q W σ (.refl W) s e⟩
    | _ :: _, q => exact q.elim⟩
theorem dgs_cons {g : GM} {gs : List D → DSt → Store → SRes} (h1 : DG X Wx e g) (h2 : DGs X Wx es gs) (hs : (assignEach (e :: es) X.env).map (·.2) = assign e X.env :: (assignEach es X.env).map (·.2) := by rfl) : DGs X Wx (e :: es) (consG g gs) :=
  ⟨pgs_imp (pgs_cons h1.p h2.p hs) fun v σ H Q ⟨W, st, S, ds, at_, r, q⟩ => by
    obtain ⟨rfl, s, e⟩ := at_
    match ds, q with
    | [], q => exact q.elim
    | d :: ds, q =>
      simp only [RepL] at r
      obtain ⟨u, us, rfl, r1, r2⟩ := r
      refine ⟨u, us, rfl, W, st, S, d, ⟨rfl, s, e⟩, r1, ?_⟩
      unfold consG at q
      simp only at q
      cases h : g d st S with
      | nx st1 S1 =>
        rw [h] at q
        exact fun W' σ' l s' e' => ⟨W', st1, S1, ds, ⟨rfl, s', e'⟩, r2.mono l _ _, SQ.mono l q⟩
      | err x st1 S1 => rw [h] at q; exact q
      | rt _ _ => rw [h] at q; exact q.elim
      | bk _ _ => rw [h] at q; exact q.elim
      | ct _ _ => rw [h] at q; exact q.elim
      | bad => rw [h] at q; exact q.elim⟩
def tupG (n : Nat) (gs : List D → DSt → Store → SRes) : GM := fun d st S => match d with
  | .tup ds => if ds.length = n then gs ds st S else .bad
  | _ => .bad
theorem dg_tup {k : Nat} {gs : List D → DSt → Store → SRes} {n : Nat} (hc : X.calm = true) (h : DGs X Wx es gs) (hn : (assignEach es X.env).length = n := by rfl) (hst : (assignEach es X.env).findIdx? (·.1) = none := by rfl) : DG X Wx (.Tuple es k pos) (tupG n gs) :=
  ⟨pg_imp (pg_tup hc h.p hn hst) fun v σ H Q ⟨W, st, S, d, at_, r, q⟩ => by
    obtain ⟨rfl, s, e⟩ := at_
    cases d <;> try exact q.elim
    rename_i ds
    unfold tupG at q
    simp only at q
    split at q
    · rename_i hl
      obtain ⟨p, vs, rfl, q1, r1⟩ := asT_rep (d := .tup ds) r rfl
      exact ⟨p, vs, rfl, q1, by rw [← r1.length]; exact hl, W, st, S, ds, ⟨rfl, s, e⟩, r1, q⟩
    · exact q.elim⟩
/-- o[i] = v -/
def setIt (o i v : D) (S : Store) : Option Store := match mutL S o, i with
  | some (n, xs), .int k => (ixN xs.length k).map fun j => S.set n (.lst (xs.set j v))
  | _, _ => none
def subG (o i : EM D) : GM := fun v st S => match o st S with
  | .ok x S1 => match i st S1 with
    | .ok y S2 => match setIt x y v S2 with
      | some S3 => .nx st S3
      | none => .bad
    | .err e S2 => .err e st S2
    | .bad => .bad
  | .err e S1 => .err e st S1
  | .bad => .bad
theorem SQ.imp {K : PySem.W.Frag} {W : Wd} {D D' : Ends} {r : SRes} (hn : ∀ σ H, D.nx σ H → D'.nx σ H) (hr : ∀ v H, D.rt v H → D'.rt v H) (hb : ∀ σ H, D.bk σ H → D'.bk σ H) (hc : ∀ σ H, D.ct σ H → D'.ct σ H) (h : SQ K W D Wx r) : SQ K W D' Wx r := by
  cases r with
  | nx st S => exact fun W' σ l s q => hn _ _ (h W' σ l s q)
  | bk st S => exact fun W' σ l s q => hb _ _ (h W' σ l s q)
  | ct st S => exact fun W' σ l s q => hc _ _ (h W' σ l s q)
  | rt d S => exact fun W' v l s q => hr _ _ (h W' v l s q)
  | err e st S => exact h
  | bad => exact h
theorem dg_sub (ho : DE X Wx o mo) (hi : DE X Wx e me) (ha : ∀ v, assign (.Subscript o e pos) X.env v = (do
      let ov ← holding [v] (eval o X.env)
      let iv ← holding [v, ov] (eval e X.env)
      standAt pos
      holding [v, ov, iv] (setItem ov iv v)
      release [v, ov, iv] []) := by intro _; rfl) : DG X Wx (.Subscript o e pos) (subG mo me) :=
  ⟨pg_imp (pg_sub ho.p hi.p set_list ha) fun v σ H Q ⟨W, st, S, d, at_, r, q⟩ => by
    obtain ⟨rfl, s, ee⟩ := at_
    unfold subG at q
    refine goS (f := fun x S1 => match me st S1 with | .ok y S2 => (match setIt x y d S2 with | some S3 => .nx st S3 | none => .bad) | .err e S2 => .err e st S2 | .bad => .bad) ⟨rfl, s, ee⟩ q fun W1 x S1 xv l1 a1 r1 q1 => ?_
    refine goS (f := fun y S2 => match setIt x y d S2 with | some S3 => .nx st S3 | none => .bad) a1 q1 fun W2 y S2 yv l2 a2 r2 q2 => ?_
    cases h : setIt x y d S2 with
    | none => rw [h] at q2; exact q2.elim
    | some S3 =>
      rw [h] at q2
      unfold setIt at h
      split at h
      · rename_i n xs k hm
        cases hx : ixN xs.length k with
        | none => rw [hx] at h; cases h
        | some j =>
          rw [hx] at h
          cases h
          obtain ⟨p, vs, rfl, h2, h3, h4, h5⟩ := mutL_rep a2.s (r1.mono l2 _ _) hm
          obtain rfl := rep_i r2
          have l := Wd.wr_le (W := W2) (o := .lst (vs.set j v)) (b := True) h3 (a2.s.nl h2)
          have rd := (r.mono l1 _ _).mono l2 _ _
          refine ⟨p, vs, k, j, rfl, rfl, h4, by rw [← h5.length]; exact hx, ?_⟩
          exact q2 (W2.wr p (.lst (vs.set j v)) True) σ l (a2.s.wr h2 h3 ⟨_, upd_same, ⟨h3, fun _ => trivial⟩, (RepL.set rd j h5).mono l _ _⟩) (a2.e.mono l)
      · cases h⟩
def onlyNx : SRes → SRes
  | .nx st S => .nx st S
  | .err e st S => .err e st S
  | _ => .bad
def asgS (m : EM D) (g : GM) : SM := exS m fun d st S => onlyNx (g d st S)
theorem ds_asg {tg : Expr} {g : GM} (h : DE X Wx e me) (hg : DG X Wx tg g) (hs : swapsWithSole [tg] e pos.line X.env = pure false := by rfl) (hw : swappedStores [tg] e X.env = pure none := by rfl)
    (h1 : (assignEach [tg] X.env).map (·.2) = [assign tg X.env] := by rfl) : DS X Wx (.Assign [tg] e pos) (asgS me g) := by
  refine ds_of (ps_asg h.p hg.p hs hw h1) fun W st S σ D at_ q => ?_
  refine goS at_ q fun W1 d S1 v l a1 r q1 => ?_
  refine ⟨W1, st, S1, d, a1, r, ?_⟩
  replace q1 : SQ X.K W1 D Wx (onlyNx (g d st S1)) := q1
  generalize g d st S1 = rr at q1 ⊢
  cases rr <;> first | exact q1 | exact q1.elim
/-- a, b = e1, e2; a, b, c = e1, e2, e3: names -/
def exL (m : EM (List D)) (f : List D → DSt → Store → SRes) : SM := fun st S => match m st S with
  | .ok d S1 => f d st S1
  | .err e S1 => .err e st S1
  | .bad => .bad
def setsS (is : List Nat) (m : EM (List D)) : SM := exL m fun ds st S => if ds.length = is.length then .nx ((is.zip ds).foldl (fun st p => st.set p.1 (some p.2)) st) S else .bad
theorem goLS {K : PySem.W.Frag} {σ : St} {W : Wd} {st : DSt} {S : Store} {ml : EM (List KF.D)} {D : Ends} {f : List KF.D → Store → SRes} {R : List V → Hp → Prop} (a : At K W st S σ W.H)
    (q : SQ K W D Wx (match ml st S with | .ok d S1 => f d S1 | .err e S1 => .err e st S1 | .bad => .bad))
    (h : ∀ W1 ds S1 vs, W.le W1 → At K W1 st S1 σ W1.H → RepL K W1 ds vs → SQ K W1 D Wx (f ds S1) → R vs W1.H) : tDL K Wx ml σ W.H R := by
  refine ⟨W, st, S, a, ?_⟩
  cases e : ml st S with
  | ok d S1 =>
    rw [e] at q
    exact fun W1 v l s r => h W1 d S1 v l (a.to l s) r (SQ.mono l q)
  | err x S1 =>
    rw [e] at q
    exact fun W' od l s z => q W' σ od l s (a.e.mono l) z
  | bad =>
    rw [e] at q
    exact q
theorem ds_par {i j : Nat} {x y : Str} {ms : List (EM D)} {px py pt : Pos} {kt k2 pt2} (hc : X.calm = true) (hN : X.N.Nodup) (ha : DA X Wx [a, b] (seqE ms)) (hi : X.N[i]? = some x := by rfl) (hj : X.N[j]? = some y := by rfl) (hij : i ≠ j := by decide)
    (hx : X.env.scope.names.lookup x = some .local := by rfl) (hy : X.env.scope.names.lookup y = some .local := by rfl)
    (hw : swappedStores [.Tuple [.Name x px, .Name y py] kt pt] (.Tuple [a, b] k2 pt2) X.env = pure (some [x, y]) := by rfl)
    (hs : swapsWithSole [.Tuple [.Name x px, .Name y py] kt pt] (.Tuple [a, b] k2 pt2) pos.line X.env = pure false := by rfl) :
    DS X Wx (.Assign [.Tuple [.Name x px, .Name y py] kt pt] (.Tuple [a, b] k2 pt2) pos) (setsS [i, j] (seqE ms)) := by
  refine ds_of (ps_par hc hN hi hj hij hx hy ha.p hw hs) fun W st S σ D at_ q => ?_
  refine goLS at_ q fun W1 ds S1 vs l a1 r q1 => ?_
  match ds, q1 with
  | [d, d'], q1 =>
    obtain ⟨v, u, rfl, r1, r2⟩ := repL_2 r
    exact ⟨v, u, rfl, q1 W1 _ (.refl W1) a1.s ((a1.e.set i r1).set j r2)⟩
  | [], q1 => exact q1.elim
  | [_], q1 => exact q1.elim
  | _ :: _ :: _ :: _, q1 => exact (by simpa using q1 : SQ X.K W1 D Wx .bad).elim
theorem ds_par3 {i j l : Nat} {x y z : Str} {ms : List (EM D)} {px py pz pt : Pos} {kt k2 pt2} (hc : X.calm = true) (hN : X.N.Nodup) (ha : DA X Wx [a, b, c] (seqE ms)) (hi : X.N[i]? = some x := by rfl) (hj : X.N[j]? = some y := by rfl) (hl : X.N[l]? = some z := by rfl)
    (hij : i ≠ j := by decide) (hil : i ≠ l := by decide) (hjl : j ≠ l := by decide)
    (hx : X.env.scope.names.lookup x = some .local := by rfl) (hy : X.env.scope.names.lookup y = some .local := by rfl) (hz : X.env.scope.names.lookup z = some .local := by rfl)
    (hw : swappedStores [.Tuple [.Name x px, .Name y py, .Name z pz] kt pt] (.Tuple [a, b, c] k2 pt2) X.env = pure (some [x, y, z]) := by rfl)
    (hs : swapsWithSole [.Tuple [.Name x px, .Name y py, .Name z pz] kt pt] (.Tuple [a, b, c] k2 pt2) pos.line X.env = pure false := by rfl) :
    DS X Wx (.Assign [.Tuple [.Name x px, .Name y py, .Name z pz] kt pt] (.Tuple [a, b, c] k2 pt2) pos) (setsS [i, j, l] (seqE ms)) := by
  refine ds_of (ps_par3 hc hN hi hj hl hij hil hjl hx hy hz ha.p hw hs) fun W st S σ D at_ q => ?_
  refine goLS at_ q fun W1 ds S1 vs l0 a1 r q1 => ?_
  match ds, q1 with
  | [d, d', d2], q1 =>
    simp only [RepL] at r
    obtain ⟨v, _, rfl, r1, u, _, rfl, r2, t, _, rfl, r3, rfl⟩ := r
    exact ⟨v, u, t, rfl, q1 W1 _ (.refl W1) a1.s (((a1.e.set i r1).set j r2).set l r3)⟩
  | [], q1 => exact q1.elim
  | [_], q1 => exact q1.elim
  | [_, _], q1 => exact q1.elim
  | _ :: _ :: _ :: _ :: _, q1 => exact (by simpa using q1 : SQ X.K W1 D Wx .bad).elim
/-- x op= e, ints -/
def augS (i : Nat) (f : Int → Int → Int) (m : EM D) : SM := fun st S => match st[i]? with
  | some (some (.int x)) => match m st S with
    | .ok (.int y) S1 => .nx (st.set i (some (.int (f x y)))) S1
    | .ok _ _ => .bad
    | .err e S1 => .err e st S1
    | .bad => .bad
  | _ => .bad
theorem ds_aug {i : Nat} {x : Str} {op : Operator} {f : Int → Int → Int} {pos' : Pos} (hN : X.N.Nodup) (h : DE X Wx e me) (ho : PIp X op (ipI f)) (hi : X.N[i]? = some x := by rfl) (hx : Loc X.env.scope x := by first | exact Or.inl rfl | exact Or.inr rfl)
    (hf : X.fn x = true ∨ X.env.scope.names.lookup x = some .local := by first | exact .inl rfl | exact .inr rfl | assumption) : DS X Wx (.AugAssign (.Name x pos') op e pos) (augS i f me) := by
  refine ds_of (ps_aug hN hi hx h.p ho hf) fun W st S σ D at_ q => ?_
  unfold augS at q
  split at q
  · rename_i x hx
    obtain ⟨v, e1, r1⟩ := at_.e.2 i _ hx
    obtain rfl := rep_i r1
    refine ⟨_, e1, ?_⟩
    refine goS (D := D) (f := fun d S1 => match d with | .int y => .nx (st.set i (some (.int (f x y)))) S1 | _ => .bad) at_ ?_ fun W1 d S1 v l a1 r q1 => ?_
    · cases hm : me st S with
      | ok d S1 => rw [hm] at q; cases d <;> exact q
      | err _ _ => rw [hm] at q; exact q
      | bad => rw [hm] at q; exact q
    · cases d <;> try exact q1.elim
      obtain rfl := rep_i r
      exact ⟨_, _, rfl, rfl, q1 W1 _ (.refl W1) a1.s (a1.e.set i rep_iI)⟩
  · exact q.elim
/-! ### what is walked -/
/-- the walk gives these data, from the world W1 on -/
structure Wk (K : PySem.W.Frag) (W1 : Wd) (J : It) (ds : List D) : Prop where
  w : ∃ G Y, Walk J ds.length G Y ∧ (∀ W2, W1.le W2 → G W2.H) ∧
    ∀ W2 S2 (i : Nat) (x : V) (H' : Hp) (d : KF.D), W1.le W2 → SRep K W2 S2 → ds[i]? = some d → Y i W2.H x H' → ∃ W3, W3.H = H' ∧ W2.le W3 ∧ SRep K W3 S2 ∧ Rep K W3 d x
/-- what is wanted of an iterable's items -/
def IQ (K : PySem.W.Frag) (W : Wd) (σ : St) (st : DSt) (R : It → Hp → Prop) (E : XK) : Res (List D) → Prop
  | .ok ds S' => ∀ W' J, W.le W' → At K W' st S' σ W'.H → Wk K W' J ds → R J W'.H
  | .err e S' => ∀ W' od, W.le W' → SRep K W' S' → ERep K W' e od → E e.c od W'.H
  | .bad => False
def tDI (K : PySem.W.Frag) (Wx : WX) (m : EM (List D)) : TI := fun σ H R => ∃ W st S, At K W st S σ H ∧ IQ K W σ st R (fun c d H' => Wx c d σ H') (m st S)
structure DI (X : Cx) (Wx : WX) (tg iter : Expr) (m : EM (List D)) : Prop where
  p : PI X tg iter (tDI X.K Wx m)
theorem pi_imp {tg iter : Expr} {t t' : TI} (h : PI X tg iter t) (i : ∀ σ H R, t' σ H R → t σ H R) : PI X tg iter t' := ⟨fun pins s σ H R I q => h.run pins s σ H R I (i σ H R q)⟩
theorem di_of {tg iter : Expr} {t : TI} {m : EM (List D)} (h : PI X tg iter t) (i : ∀ W st S σ R, At X.K W st S σ W.H → IQ X.K W σ st R (fun c d H' => Wx c d σ H') (m st S) → t σ W.H R) : DI X Wx tg iter m :=
  ⟨pi_imp h fun σ H R ⟨W, st, S, at_, q⟩ => by
    obtain ⟨rfl, s, e⟩ := at_
    exact i W st S σ R ⟨rfl, s, e⟩ q⟩
/-- a value, then its items: a cell's list is frozen by it -/
def seqOf (d : D) (S : Store) : Res (List D) := match d with
  | .tup xs => .ok xs S
  | .lst xs => .ok xs S
  | .scr xs => .ok xs S
  | .str z => .ok (z.cps.toList.map fun c => .str ⟨#[c]⟩) S
  | .cell n => match S[n]? with
    | some (.lst xs) => .ok xs (S.set n (.fro xs))
    | some (.fro xs) => .ok xs S
    | _ => .bad
  | _ => .bad
def itE (m : EM D) : EM (List D) := fun st S => (m st S).bind seqOf
theorem goI {K : PySem.W.Frag} {σ : St} {W : Wd} {st : DSt} {S : Store} {m : EM D} {R' : It → Hp → Prop} {f : KF.D → Store → Res (List KF.D)} {R : VK} (a : At K W st S σ W.H) (q : IQ K W σ st R' (fun c d H' => Wx c d σ H') ((m st S).bind f))
    (h : ∀ W1 d S1 v, m st S = .ok d S1 → W.le W1 → At K W1 st S1 σ W1.H → Rep K W1 d v → IQ K W1 σ st R' (fun c d H' => Wx c d σ H') (f d S1) → R v W1.H) : tD K Wx m σ W.H R := by
  refine runE a ?_
  cases e : m st S with
  | ok d S1 =>
    rw [e] at q
    intro W1 v l s r
    refine h W1 d S1 v e l (a.to l s) r ?_
    have q2 : IQ K W σ st R' (fun c d H' => Wx c d σ H') (f d S1) := q
    generalize f d S1 = rr at q2
    cases rr with
    | ok ds S2 => exact fun W' J l' at2 k => q2 W' J (l.trans l') at2 k
    | err x S2 => exact fun W' od l' s' z => q2 W' od (l.trans l') s' z
    | bad => exact q2
  | err x S1 =>
    rw [e] at q
    exact q
  | bad =>
    rw [e] at q
    exact q
theorem wk_list {K : PySem.W.Frag} {W1 : Wd} {a : Addr} {vs : List V} {ds : List D} (hq : ∀ W2, W1.le W2 → SqL K W2.H a vs) (r : RepL K W1 ds vs) : Wk K W1 (Itl K a) ds := by
  refine ⟨_, _, by rw [r.length]; exact walk_list (K := K) (a := a) (xs := vs), hq, fun W2 S2 i x H' d l s e y => ?_⟩
  obtain ⟨rfl, hx⟩ := y
  obtain ⟨v, h1, h2⟩ := r.get e
  rw [hx] at h1
  cases h1
  exact ⟨W2, rfl, .refl W2, s, h2.mono l _ _⟩
theorem wk_tup {K : PySem.W.Frag} {W1 : Wd} {a : Addr} {vs : List V} {ds : List D} (hq : ∀ W2, W1.le W2 → SqT K W2.H a vs) (r : RepL K W1 ds vs) : Wk K W1 (Itt K a) ds := by
  refine ⟨_, _, by rw [r.length]; exact walk_tup (K := K) (a := a) (xs := vs), hq, fun W2 S2 i x H' d l s e y => ?_⟩
  obtain ⟨rfl, hx⟩ := y
  obtain ⟨v, h1, h2⟩ := r.get e
  rw [hx] at h1
  cases h1
  exact ⟨W2, rfl, .refl W2, s, h2.mono l _ _⟩
theorem upd_id {H : Hp} {a : Addr} {o : HO} (h : H a = some o) : upd H a o = H := by
  funext b
  by_cases e : b = a
  · subst e; rw [upd_same, h]
  · rw [upd_ne e]
/-- a list's items, and that they stay: the cell is frozen -/
theorem fro_at {K : PySem.W.Frag} {σ : St} {W : Wd} {st : DSt} {S S' : Store} {d : D} {v : V} {xs : List D} (a : At K W st S σ W.H) (r : Rep K W d v) (h : seqOf d S = .ok xs S') (hn : ∀ ys, d ≠ .tup ys) (hs : ∀ z, d ≠ .str z) :
    ∃ W' p vs, W.le W' ∧ W'.H = W.H ∧ At K W' st S' σ W'.H ∧ v = .ref p ∧ (∀ W2, W'.le W2 → SqL K W2.H p vs) ∧ RepL K W' xs vs := by
  cases d <;> simp only [seqOf] at h <;> try cases h
  case tup => exact absurd rfl (hn _)
  case lst =>
    simp only [Rep] at r
    obtain ⟨p, vs, rfl, q, m, rl⟩ := r
    exact ⟨W, p, vs, .refl W, rfl, a, rfl, fun W2 l => .inl (.inl (l.h _ _ q m).1), rl⟩
  case scr =>
    simp only [Rep] at r
    obtain ⟨p, vs, rfl, q, rl⟩ := r
    exact ⟨W, p, vs, .refl W, rfl, a, rfl, fun W2 l => (q.mono l).sq, rl⟩
  case str => exact absurd rfl (hs _)
  case cell n =>
    simp only [Rep] at r
    obtain ⟨p, rfl, hp⟩ := r
    split at h <;> try cases h
    · rename_i ys hc
      obtain ⟨vs, q1, q2, q3⟩ := a.s.at_ _ _ _ hp hc
      have l := Wd.wr_le (W := W) (o := .lst vs) (b := False) q2 (a.s.nl hp)
      have hH : (W.wr p (.lst vs) False).H = W.H := upd_id q1
      have nm : ¬ (W.wr p (.lst vs) False).M p := fun z => z.2 rfl
      refine ⟨W.wr p (.lst vs) False, p, vs, l, hH, ⟨rfl, a.s.wr hp q2 ⟨vs, by rw [hH]; exact q1, nm, q3.mono l _ _⟩, a.e.mono l⟩, rfl, fun W2 l2 => ?_, q3.mono l _ _⟩
      exact .inl (.inl (l2.h _ _ (by rw [hH]; exact q1) nm).1)
    · rename_i ys hc
      obtain ⟨vs, q1, q2, q3⟩ := a.s.at_ _ _ _ hp hc
      exact ⟨W, p, vs, .refl W, rfl, a, rfl, fun W2 l => .inl (.inl (l.h _ _ q1 q2).1), q3⟩
theorem pi_or {tg iter : Expr} {t t' : TI} (h : PI X tg iter t) (h' : PI X tg iter t') : PI X tg iter (fun σ H R => t σ H R ∨ t' σ H R) :=
  ⟨fun pins s σ H R I q => q.elim (h.run pins s σ H R I) (h'.run pins s σ H R I)⟩
/-- the items of a str, a tuple, a list -/
theorem di_val {tg : Expr} (h : DE X Wx e me) : DI X Wx tg e (itE me) := by
  refine di_of (pi_or (pi_tup h.p) (pi_or (pi_str h.p) (pi_list h.p))) fun W st S σ R at_ q => ?_
  cases hm : me st S with
  | bad =>
    unfold itE at q
    rw [hm] at q
    exact q.elim
  | err x S1 =>
    unfold itE at q
    rw [hm] at q
    exact .inl ⟨W, st, S, at_, by rw [hm]; exact q⟩
  | ok d0 S0 =>
    by_cases ht : ∃ ys, d0 = .tup ys
    · obtain ⟨ys, rfl⟩ := ht
      refine .inl (goI at_ q fun W1 d S1 v e l a1 r q1 => ?_)
      rw [hm] at e
      cases e
      simp only [Rep] at r
      obtain ⟨p, vs, rfl, q2, r2⟩ := r
      exact ⟨p, rfl, ⟨_, q2.sq⟩, q1 W1 _ (.refl W1) a1 (wk_tup (fun W2 l2 => (q2.mono l2).sq) r2)⟩
    · by_cases hs : ∃ z, d0 = .str z
      · obtain ⟨z, rfl⟩ := hs
        refine .inr (.inl (goI at_ q fun W1 d S1 v e l a1 r q1 => ?_))
        rw [hm] at e
        cases e
        obtain rfl := rep_s r
        refine ⟨z, rfl, q1 W1 _ (.refl W1) a1 ⟨_, _, by rw [List.length_map, Array.length_toList]; exact walk_str (z := z), fun W2 l2 => trivial, fun W2 S2 i x H' d l2 s2 e2 y => ?_⟩⟩
        obtain ⟨rfl, c, hc, rfl⟩ := y
        rw [List.getElem?_map] at e2
        have hc' : z.cps.toList[i]? = some c := by simpa using hc
        rw [hc'] at e2
        cases e2
        exact ⟨W2, rfl, .refl W2, s2, rep_sI⟩
      · refine .inr (.inr (goI at_ q fun W1 d S1 v e l a1 r q1 => ?_))
        rw [hm] at e
        cases e
        cases hq : seqOf d0 S0 with
        | bad => rw [hq] at q1; exact q1.elim
        | err x S2 =>
          exfalso
          cases d0 <;> simp only [seqOf] at hq <;> try cases hq
          split at hq <;> cases hq
        | ok xs S2 =>
          rw [hq] at q1
          obtain ⟨W', p, vs, l', hH, a', rfl, hl, rl⟩ := fro_at a1 r hq (fun ys e => ht ⟨ys, e⟩) (fun z e => hs ⟨z, e⟩)
          refine ⟨p, rfl, ⟨vs, by rw [← hH]; exact hl W' (.refl W')⟩, ?_⟩
          rw [← hH]
          exact q1 W' _ l' a' (wk_list hl rl)
/-- range -/
def rangeI (lo hi : Int) : List D := (List.range (hi - lo).toNat).map fun (i : Nat) => .int (lo + i)
def rng1E (m : EM D) : EM (List D) := fun st S => (m st S).bind fun d S1 => match d with
  | .int n => if -(2 ^ 62) ≤ n ∧ n < 2 ^ 62 then .ok (rangeI 0 n) S1 else .bad
  | _ => .bad
def rng2E (ml : EM (List D)) : EM (List D) := fun st S => (ml st S).bind fun ds S1 => match ds with
  | [.int a, .int b] => if (-(2 ^ 62) ≤ a ∧ a < 2 ^ 62) ∧ (-(2 ^ 62) ≤ b ∧ b < 2 ^ 62) then .ok (rangeI a b) S1 else .bad
  | _ => .bad
theorem wk_range {K : PySem.W.Frag} {W1 : Wd} {lo hi : Int} : Wk K W1 (Itr lo (hi - lo).toNat) (rangeI lo hi) := by
  refine ⟨_, _, by unfold rangeI; rw [List.length_map, List.length_range]; exact walk_range (lo := lo) (n := (hi - lo).toNat), fun W2 l => trivial, fun W2 S2 i x H' d l s e y => ?_⟩
  obtain ⟨rfl, rfl⟩ := y
  unfold rangeI at e
  rw [List.getElem?_map] at e
  cases hr : (List.range (hi - lo).toNat)[i]? with
  | none => rw [hr] at e; cases e
  | some j =>
    rw [hr] at e
    cases e
    have : j = i := by
      have := List.getElem?_eq_some_iff.mp hr
      obtain ⟨h1, h2⟩ := this
      simpa using h2.symm
    subst this
    exact ⟨W2, rfl, .refl W2, s, rep_iI⟩
theorem goIA {K : PySem.W.Frag} {σ : St} {W : Wd} {st : DSt} {S : Store} {ml : EM (List KF.D)} {R' : It → Hp → Prop} {f : List KF.D → Store → Res (List KF.D)} {R : List V → Hp → Prop} (a : At K W st S σ W.H) (q : IQ K W σ st R' (fun c d H' => Wx c d σ H') ((ml st S).bind f))
    (h : ∀ W1 ds S1 vs, ml st S = .ok ds S1 → W.le W1 → At K W1 st S1 σ W1.H → RepL K W1 ds vs → IQ K W1 σ st R' (fun c d H' => Wx c d σ H') (f ds S1) → R vs W1.H) : tDL K Wx ml σ W.H R := by
  refine ⟨W, st, S, a, ?_⟩
  cases e : ml st S with
  | ok ds S1 =>
    rw [e] at q
    intro W1 vs l s r
    refine h W1 ds S1 vs e l (a.to l s) r ?_
    have q2 : IQ K W σ st R' (fun c d H' => Wx c d σ H') (f ds S1) := q
    generalize f ds S1 = rr at q2
    cases rr with
    | ok ds S2 => exact fun W' J l' at2 k => q2 W' J (l.trans l') at2 k
    | err x S2 => exact fun W' od l' s' z => q2 W' od (l.trans l') s' z
    | bad => exact q2
  | err x S1 =>
    rw [e] at q
    exact q
  | bad =>
    rw [e] at q
    exact q
theorem di_range1 {tg : Expr} {p : Pos} (hg : Gl X "range") (hm : X.mg "range" = none) (ha : DE X Wx a ma) (hs : starEach [a] X.env = [(false, eval a X.env)] := by rfl) (hn : starEach [a] X.env = (false, eval a X.env) :: starEach [] X.env := by rfl) : DI X Wx tg (.Call (.Name "range" p) [a] [] pos) (rng1E ma) := by
  refine di_of (pi_range1 hg hm (pa_cons ha.p pa_nil hn) hs) fun W st S σ R at_ q => ?_
  refine goI at_ q fun W1 d S1 v e l a1 r q1 => ?_
  cases d <;> try exact q1.elim
  rename_i n
  obtain rfl := rep_i r
  simp only at q1
  split at q1
  · rename_i hh
    refine ⟨n, rfl, hh.1, hh.2, q1 W1 _ (.refl W1) a1 ?_⟩
    have := wk_range (K := X.K) (W1 := W1) (lo := 0) (hi := n)
    rw [Int.sub_zero] at this
    exact this
  · exact q1.elim
theorem di_range2 {tg : Expr} {p : Pos} {ms : List (EM D)} (hg : Gl X "range") (hm : X.mg "range" = none) (ha : DA X Wx [a, b] (seqE ms)) (hs : starEach [a, b] X.env = [(false, eval a X.env), (false, eval b X.env)] := by rfl) (hs2 : starEach [b] X.env = [(false, eval b X.env)] := by rfl) :
    DI X Wx tg (.Call (.Name "range" p) [a, b] [] pos) (rng2E (seqE ms)) := by
  refine di_of (pi_range2 hg hm ha.p hs hs2) fun W st S σ R at_ q => ?_
  refine goIA at_ q fun W1 ds S1 vs e l a1 r q1 => ?_
  split at q1
  · split at q1
    · rename_i hh
      obtain ⟨v, u, rfl, r1, r2⟩ := repL_2 r
      obtain rfl := rep_i r1
      obtain rfl := rep_i r2
      exact ⟨_, _, rfl, ⟨hh.1.1, hh.1.2, hh.2.1, hh.2.2⟩, q1 W1 _ (.refl W1) a1 wk_range⟩
    · exact q1.elim
  · exact q1.elim
/-! ### for -/
/-- behind a target; behind a turn -/
def thenG (r : SRes) (f : DSt → Store → SRes) : SRes := match r with
  | .nx st S => f st S
  | .err e st S => .err e st S
  | _ => .bad
def loopK (r : SRes) (f : DSt → Store → SRes) : SRes := match r with
  | .nx st S => f st S
  | .ct st S => f st S
  | .bk st S => .nx st S
  | r => r
/-- turn by turn -/
def forL (g : GM) (b : SM) : List D → SM
  | [] => nextS
  | d :: ds => fun st S => thenG (g d st S) fun st1 S1 => loopK (b st1 S1) (forL g b ds)
def forS (mi : EM (List D)) (g : GM) (b : SM) : SM := exL mi fun ds st S => forL g b ds st S
theorem thenG_go {K : PySem.W.Frag} {W : Wd} {Q : St → Hp → Prop} {D : Ends} {r : SRes} {f : DSt → Store → SRes} (h : SQ K W D Wx (thenG r f))
    (hf : ∀ W' σ st S, W.le W' → SRep K W' S → RepE K W' st σ → SQ K W' D Wx (f st S) → Q σ W'.H) : SQ K W { nx := Q, rt := fun _ _ => False } Wx r := by
  cases r with
  | nx st S => exact fun W' σ l s e => hf W' σ st S l s e (SQ.mono l h)
  | err e st S => exact h
  | bk _ _ => exact h.elim
  | ct _ _ => exact h.elim
  | rt _ _ => exact h.elim
  | bad => exact h.elim
theorem loopK_go {K : PySem.W.Frag} {W : Wd} {N : St → Hp → Prop} {D : Ends} {r : SRes} {f : DSt → Store → SRes} (h : SQ K W D Wx (loopK r f))
    (hf : ∀ W' σ st S, W.le W' → SRep K W' S → RepE K W' st σ → SQ K W' D Wx (f st S) → N σ W'.H) : SQ K W { D with nx := N, ct := N, bk := D.nx } Wx r := by
  cases r with
  | nx st S => exact fun W' σ l s e => hf W' σ st S l s e (SQ.mono l h)
  | ct st S => exact fun W' σ l s e => hf W' σ st S l s e (SQ.mono l h)
  | bk st S => exact h
  | err e st S => exact h
  | rt _ _ => exact h
  | bad => exact h.elim
theorem ds_for {tg iter : Expr} {body : List Stmt} {mi : EM (List D)} {g : GM} {mb : SM} (hp : PassesOwn (model X.prog X.w) X.A X.env X.xe) (hc : X.calm = true) (hi : DI X Wx tg iter mi) (hg : DG X Wx tg g) (hb : DSs X Wx body mb)
    (hs : ∀ x, foldedSetIterable iter X.env x = pure x := by intro _; rfl) : DS X Wx (.For tg iter body [] pos) (forS mi g mb) := by
  refine ds_of (ps_for hp hc hi.p hg.p hb.p hs) fun W st S σ D at_ q => ?_
  refine ⟨W, st, S, at_, ?_⟩
  unfold forS exL at q
  cases e : mi st S with
  | bad => rw [e] at q; exact q.elim
  | err x S1 =>
    rw [e] at q
    exact fun W' od l s z => q W' σ od l s (at_.e.mono l) z
  | ok ds S1 =>
    rw [e] at q
    intro W1 J l a1 k
    obtain ⟨G, Y, w, hG, hY⟩ := k.w
    refine for_it w (fun i σ H => ∃ W2 st2 S2, W1.le W2 ∧ At X.K W2 st2 S2 σ H ∧ SQ X.K W2 D Wx (forL g mb (ds.drop i) st2 S2)) ⟨W1, st, S1, .refl W1, a1, SQ.mono l q⟩ ?_ ?_ ?_
    · rintro i σ H hi ⟨W2, st2, S2, l2, a2, _⟩
      rw [← a2.h]
      exact hG W2 l2
    · rintro i x σ H H' hi ⟨W2, st2, S2, l2, a2, q2⟩ y
      obtain ⟨rfl, s2, e2⟩ := a2
      have hd : ds[i]? = some ds[i] := List.getElem?_eq_getElem hi
      obtain ⟨W3, rfl, l3, s3, r3⟩ := hY W2 S2 i x H' _ l2 s2 hd y
      refine ⟨W3, st2, S2, ds[i], ⟨rfl, s3, e2.mono l3⟩, r3, ?_⟩
      rw [List.drop_eq_getElem_cons hi] at q2
      refine thenG_go (SQ.mono l3 q2) fun W4 σ4 st4 S4 l4 s4 e4 q4 => ?_
      refine ⟨W4, st4, S4, ⟨rfl, s4, e4⟩, loopK_go q4 fun W5 σ5 st5 S5 l5 s5 e5 q5 => ⟨W5, st5, S5, ((l2.trans l3).trans l4).trans l5, ⟨rfl, s5, e5⟩, q5⟩⟩
    · rintro σ H ⟨W2, st2, S2, l2, a2, q2⟩
      obtain ⟨rfl, s2, e2⟩ := a2
      rw [List.drop_of_length_le (Nat.le_refl _)] at q2
      exact q2 W2 σ (.refl W2) s2 e2
end
end KF

set_option Elab.async false
set_option linter.all false
set_option maxRecDepth 100000
set_option maxHeartbeats 4000000
/-! KFH: comprehensions. -/
namespace KF
open PySem PySem.Spec PyProof.Rows L2
section
variable {X : Cx} {Wx : WX} {a b c e o : Expr} {ma mb mc me mo : EM D} {pos : Pos} {es : List Expr}
/-! ### targets that are names, or tuples of such -/
abbrev TP := D → DSt → Option DSt
abbrev TPs := List D → DSt → Option DSt
def tDX (K : PySem.W.Frag) (vs : List Nat) (g : TP) : TG := fun v σ H Q => ∃ W st S d st', At K W st S σ H ∧ Rep K W d v ∧ g d st = some st' ∧ ∀ σ', RepE K W st' σ' → σ'.length = σ.length → (∀ j, j ∉ vs → σ'[j]? = σ[j]?) → Q σ' H
structure DX (X : Cx) (vs : List Nat) (e : Expr) (g : TP) : Prop where
  p : PG X e (tDX X.K vs g)
def tDXs (K : PySem.W.Frag) (vs : List Nat) (g : TPs) : TGs := fun us σ H Q => ∃ W st S ds st', At K W st S σ H ∧ RepL K W ds us ∧ g ds st = some st' ∧ ∀ σ', RepE K W st' σ' → σ'.length = σ.length → (∀ j, j ∉ vs → σ'[j]? = σ[j]?) → Q σ' H
structure DXs (X : Cx) (vs : List Nat) (es : List Expr) (g : TPs) : Prop where
  p : PGs X es (tDXs X.K vs g)
def nameP (i : Nat) : TP := fun d st => some (st.set i (some d))
def nilP : TPs := fun ds st => match ds with
  | [] => some st
  | _ => none
def consP (g : TP) (gs : TPs) : TPs := fun ds st => match ds with
  | [] => none
  | d :: ds => (g d st).bind fun st1 => gs ds st1
def tupP (n : Nat) (gs : TPs) : TP := fun d st => match d with
  | .tup ds => if ds.length = n then gs ds st else none
  | _ => none
theorem dx_name (i : Nat) {vs : List Nat} {x : Str} (hN : X.N.Nodup) (hv : i ∈ vs := by decide) (hi : X.N[i]? = some x := by rfl) (hx : Loc X.env.scope x := by first | exact Or.inl rfl | exact Or.inr rfl) (hf : X.fn x = true ∨ X.env.scope.names.lookup x = some .local := by first | exact .inl rfl | exact .inr rfl | assumption) : DX X vs (.Name x pos) (nameP i) :=
  ⟨pg_imp (pg_name hN hi hx hf) fun v σ H Q ⟨W, st, S, d, st', at_, r, eg, q⟩ => by
    cases eg
    exact q _ (at_.e.set i r) (by simp) fun j hj => List.getElem?_set_ne (fun e : i = j => hj (by rw [← e]; exact hv))⟩
theorem dxs_nil {vs : List Nat} : DXs X vs [] nilP :=
  ⟨pgs_imp pgs_nil fun v σ H Q ⟨W, st, S, ds, st', at_, r, eg, q⟩ => by
    match ds, eg with
    | [], eg =>
      cases eg
      simp only [RepL] at r
      exact ⟨r, q σ at_.e rfl fun _ _ => rfl⟩
    | _ :: _, eg => cases eg⟩
theorem dxs_cons {vs : List Nat} {g : TP} {gs : TPs} (h1 : DX X vs e g) (h2 : DXs X vs es gs) (hs : (assignEach (e :: es) X.env).map (·.2) = assign e X.env :: (assignEach es X.env).map (·.2) := by rfl) : DXs X vs (e :: es) (consP g gs) :=
  ⟨pgs_imp (pgs_cons h1.p h2.p hs) fun v σ H Q ⟨W, st, S, ds, st', at_, r, eg, q⟩ => by
    obtain ⟨rfl, s, e⟩ := at_
    match ds, eg with
    | [], eg => cases eg
    | d :: ds, eg =>
      simp only [RepL] at r
      obtain ⟨u, us, rfl, r1, r2⟩ := r
      unfold consP at eg
      simp only at eg
      cases h : g d st with
      | none => rw [h] at eg; cases eg
      | some st1 =>
        rw [h] at eg
        exact ⟨u, us, rfl, W, st, S, d, st1, ⟨rfl, s, e⟩, r1, h, fun σ1 e1 z1 k1 => ⟨W, st1, S, ds, st', ⟨rfl, s, e1⟩, r2, eg, fun σ2 e2 z2 k2 => q σ2 e2 (z2.trans z1) fun j hj => (k2 j hj).trans (k1 j hj)⟩⟩⟩
theorem dx_tup {vs : List Nat} {k : Nat} {gs : TPs} {n : Nat} (hc : X.calm = true) (h : DXs X vs es gs) (hn : (assignEach es X.env).length = n := by rfl) (hst : (assignEach es X.env).findIdx? (·.1) = none := by rfl) : DX X vs (.Tuple es k pos) (tupP n gs) :=
  ⟨pg_imp (pg_tup hc h.p hn hst) fun v σ H Q ⟨W, st, S, d, st', at_, r, eg, q⟩ => by
    cases d <;> try cases eg
    rename_i ds
    unfold tupP at eg
    simp only at eg
    split at eg
    · rename_i hl
      obtain ⟨p, vs', rfl, q1, r1⟩ := asT_rep (d := .tup ds) r rfl
      rw [at_.h] at q1
      exact ⟨p, vs', rfl, q1, by rw [← r1.length]; exact hl, W, st, S, ds, st', at_, r1, eg, q⟩
    · cases eg⟩
/-! ### the loop -/
def wipeD (st : DSt) : List Nat → DSt
  | [] => st
  | v :: vs => (wipeD st vs).set v none
theorem wipe_rep {K : PySem.W.Frag} {W : Wd} {st : DSt} {σ : St} (h : RepE K W st σ) : ∀ vs : List Nat, RepE K W (wipeD st vs) (wipe σ vs)
  | [] => h
  | v :: vs => (wipe_rep h vs).unset v
theorem wipe_get (σ : St) (j : Nat) : ∀ vs : List Nat, (wipe σ vs)[j]? = if j ∈ vs then (if j < σ.length then some none else none) else σ[j]?
  | [] => by simp [wipe]
  | v :: vs => by
    unfold wipe
    by_cases h : v = j
    · subst h
      rw [if_pos List.mem_cons_self]
      by_cases hl : v < (wipe σ vs).length
      · rw [List.getElem?_set_self hl, if_pos (by rw [wipe_length] at hl; exact hl)]
      · rw [List.getElem?_eq_none (by simpa using hl), if_neg (by rw [wipe_length] at hl; exact hl)]
    · rw [List.getElem?_set_ne h, wipe_get σ j vs]
      by_cases hm : j ∈ vs
      · rw [if_pos hm, if_pos (List.mem_cons_of_mem _ hm)]
      · rw [if_neg hm, if_neg (fun z => (List.mem_cons.mp z).elim (fun e => h e.symm) hm)]
theorem wipe_same {σ σ2 : St} {vs : List Nat} (hl : σ2.length = σ.length) (h : ∀ j, j ∉ vs → σ2[j]? = (wipe σ vs)[j]?) : wipe σ2 vs = wipe σ vs := by
  apply List.ext_getElem?
  intro j
  rw [wipe_get, wipe_get]
  by_cases hj : j ∈ vs
  · rw [if_pos hj, if_pos hj, hl]
  · rw [if_neg hj, if_neg hj, h j hj, wipe_get, if_neg hj]
/-- item by item; st: the slots with the own names wiped -/
def lcL (g : TP) (t : EM Bool) (m : EM D) : List D → DSt → Store → Res (List D)
  | [], _, S => .ok [] S
  | d :: ds, st, S => match g d st with
    | some st1 => match t st1 S with
      | .ok true S2 => (m st1 S2).bind fun y S3 => (lcL g t m ds st S3).bind fun ys S4 => .ok (y :: ys) S4
      | .ok false S2 => lcL g t m ds st S2
      | .err e S2 => .err e S2
      | .bad => .bad
    | none => .bad
def noErr {α : Type} : Res α → Res α
  | .ok a S => .ok a S
  | _ => .bad
def yesT : EM Bool := fun _ S => .ok true S
/-- the new list: nobody changes it | a cell -/
def lcE (mi : EM (List D)) (g : TP) (t : EM Bool) (m : EM D) (vs : List Nat) : EM D := fun st S => (mi st S).bind fun ds S1 => if ds.length ≤ sizeLine then (noErr (lcL g t m ds (wipeD st vs) S1)).bind fun ys S2 => .ok (.lst ys) S2 else .bad
def lcC (mi : EM (List D)) (g : TP) (t : EM Bool) (m : EM D) (vs : List Nat) : EM D := fun st S => (mi st S).bind fun ds S1 => if ds.length ≤ sizeLine then (noErr (lcL g t m ds (wipeD st vs) S1)).bind fun ys S2 => .ok (.cell S2.length) (S2 ++ [.lst ys]) else .bad
/-- nothing is raised within -/
abbrev W0 : WX := fun _ _ _ _ => False
structure DTs (X : Cx) (ifs : List Expr) (m : EM Bool) : Prop where
  p : PTs X ifs (tDB X.K W0 m)
theorem dts_nil : DTs X [] yesT := ⟨⟨fun pins s σ H Q I q => pts_nil.run pins s σ H Q I (by
  obtain ⟨W, st, S, at_, q⟩ := q
  obtain ⟨rfl, s, e⟩ := at_
  exact q W (.refl W) s)⟩⟩
theorem dts_one {m : EM Bool} (h : DT X W0 c m) : DTs X [c] m := ⟨pts_one h.p⟩
/-- the state of the loop: the world ahead of the turn, the list so far -/
structure LcAt (K : PySem.W.Frag) (W1 : Wd) (D : Addr) (W : Wd) (S : Store) (acc : List KF.D) (H : Hp) : Prop where
  le : W1.le W
  h : W.H = H
  s : SRep K W S
  m : W.M D
  l : ¬ W.L D
  n : D ∉ W.N
  at_ : ∃ vs, H D = some (.lst vs) ∧ RepL K W acc vs
theorem le_unlock {W1 W4 : Wd} {D : Addr} (l : W1.le W4) (h : W1.H D = none) : W1.le (W4.unlock D) :=
  ⟨l.toev.trans Wd.unlock_ev, fun b o hl ho => ⟨⟨(l.l b o hl ho).1, ne_of_none ho h⟩, (l.l b o hl ho).2⟩⟩
theorem le_wrD {W1 W5 : Wd} {D : Addr} {o : HO} {b : Prop} (l : W1.le W5) (h : W1.H D = none) (hm : W5.M D) : W1.le ((W5.unlock D).wr D o b) :=
  ⟨(l.toev.trans Wd.unlock_ev).trans (Wd.wr_ev hm), fun x u hl ho => ⟨⟨(l.l x u hl ho).1, ne_of_none ho h⟩, by
    show upd W5.H D o x = some u
    rw [upd_ne (ne_of_none ho h)]
    exact (l.l x u hl ho).2⟩⟩
/-- the rule's heart: E is what is shown of the list at the end -/
theorem lc_go {tg iter : Expr} {mi : EM (List D)} {g : TP} {t : EM Bool} {m : EM D} {vs : List Nat} {W : Wd} {st : DSt} {S : Store} {σ : St} {R : V → Hp → Prop} (at_ : At X.K W st S σ W.H)
    (hin : match mi st S with
      | .ok ds S1 => ds.length ≤ sizeLine ∧ ∃ out S2, lcL g t m ds (wipeD st vs) S1 = .ok out S2 ∧
          ∀ W2 D us, W.le W2 → SRep X.K W2 S2 → W2.M D → ¬ W2.L D → D ∉ W2.N → W2.H D = some (.lst us) → RepL X.K W2 out us → R (.ref D) W2.H
      | .err e S1 => ∀ W' od, W.le W' → SRep X.K W' S1 → ERep X.K W' e od → Wx e.c od σ W'.H
      | .bad => False) :
    tLc (tDI X.K Wx mi) (tDX X.K vs g) (tDB X.K W0 t) (tD X.K W0 m) vs σ W.H R := by
  refine ⟨W, st, S, at_, ?_⟩
  cases e : mi st S with
  | bad => rw [e] at hin; exact hin.elim
  | err x S1 => rw [e] at hin; exact hin
  | ok ds S1 =>
    rw [e] at hin
    obtain ⟨hlen, out, S2, hlc, hend⟩ := hin
    intro W1 J l a1 k D hD
    obtain ⟨G, Y, w, hG, hY⟩ := k.w
    have nL : ¬ W1.L D := fun z => a1.s.mn D (a1.s.lk D z).1 hD
    refine lc_it w (fun i H => ∃ W2 S3 acc ys, LcAt X.K W1 D W2 S3 acc H ∧ lcL g t m (ds.drop i) (wipeD st vs) S3 = .ok ys S2 ∧ acc ++ ys = out ∧ acc.length ≤ i)
      ⟨W1.anon D (.lst []), S1, [], out, ⟨Wd.anon_le hD, rfl, a1.s.anon hD, .inr rfl, nL, a1.s.noN hD, [], upd_same, repL_nil⟩, hlc, rfl, Nat.le_refl _⟩ ?_ ?_ ?_
    · rintro i H hi ⟨W2, S3, acc, ys, A, _⟩
      rw [← A.h]
      exact hG W2 A.le
    · rintro i x H H' hi ⟨W2, S3, acc, ys, A, hlc2, hout, hacc⟩ y
      obtain ⟨le, rfl, s2, m2, l2, n2, us, hus, racc⟩ := A
      have hd : ds[i]? = some ds[i] := List.getElem?_eq_getElem hi
      have leL : W1.le (W2.lock D) := le.trans Wd.lock_le
      obtain ⟨W3, rfl, l3, s3, r3⟩ := hY (W2.lock D) S3 i x H' _ leL (s2.lock n2 m2) hd y
      have D3 := l3.l D _ (.inr rfl) hus
      rw [List.drop_eq_getElem_cons hi] at hlc2
      unfold lcL at hlc2
      cases hg : g ds[i] (wipeD st vs) with
      | none => rw [hg] at hlc2; cases hlc2
      | some st1 =>
        rw [hg] at hlc2
        simp only at hlc2
        have e3 : RepE X.K W3 (wipeD st vs) (wipe σ vs) := (wipe_rep a1.e vs).mono (leL.trans l3)
        refine ⟨W3, wipeD st vs, S3, ds[i], st1, ⟨rfl, s3, e3⟩, r3, hg, fun σ2 e2 z2 k2 => ⟨wipe_same (by rw [z2, wipe_length]) k2, W3, st1, S3, ⟨rfl, s3, e2⟩, ?_⟩⟩
        cases ht : t st1 S3 with
        | bad => rw [ht] at hlc2; cases hlc2
        | err _ _ => rw [ht] at hlc2; cases hlc2
        | ok b S4 =>
          rw [ht] at hlc2
          intro W4 l4 s4
          have D4 := l4.l D _ D3.1 D3.2
          have le4 : W1.le W4 := (leL.trans l3).trans l4
          have lk4 := s4.lk D D4.1
          have ev24 : W2.ev W4 := ((Wd.lock_le (W := W2) (a := D)).trans (l3.trans l4)).toev
          cases b with
          | false =>
            simp only at hlc2
            rw [if_neg (by decide)]
            exact ⟨W4.unlock D, S4, acc, ys, ⟨le_unlock le4 hD, rfl, s4.unlock, lk4.1, fun z => z.2 rfl, lk4.2, us, D4.2, racc.monoE (ev24.trans Wd.unlock_ev) _ _⟩, hlc2, hout, Nat.le_succ_of_le hacc⟩
          | true =>
            simp only at hlc2
            rw [if_pos rfl]
            refine ⟨W4, st1, S4, ⟨rfl, s4, e2.mono l4⟩, ?_⟩
            cases hm : m st1 S4 with
            | bad => rw [hm] at hlc2; cases hlc2
            | err _ _ => rw [hm] at hlc2; cases hlc2
            | ok yd S5 =>
              rw [hm] at hlc2
              simp only [bind_ok] at hlc2
              intro W5 v l5 s5 r5
              have D5 := l5.l D _ D4.1 D4.2
              have lk5 := s5.lk D D5.1
              have hacc2 : us.length < sizeLine := by
                rw [← racc.length]
                omega
              refine ⟨us, D5.2, hacc2, ?_⟩
              cases hr : lcL g t m (ds.drop (i + 1)) (wipeD st vs) S5 with
              | bad => rw [hr] at hlc2; cases hlc2
              | err _ _ => rw [hr] at hlc2; cases hlc2
              | ok ys' S6 =>
                rw [hr] at hlc2
                simp only [bind_ok, Res.ok.injEq] at hlc2
                obtain ⟨h1, h2⟩ := hlc2
                subst h1 h2
                have ev5 : W5.ev ((W5.unlock D).wr D (.lst (us ++ [v])) True) := Wd.unlock_ev.trans (Wd.wr_ev lk5.1)
                refine ⟨(W5.unlock D).wr D (.lst (us ++ [v])) True, S5, acc ++ [yd], ys', ⟨le_wrD (le4.trans l5) hD lk5.1, rfl, s5.unlock.wrA lk5.2 lk5.1 (fun z => z.2 rfl), ⟨lk5.1, fun _ => trivial⟩, fun z => z.2 rfl, lk5.2, us ++ [v], upd_same, ?_⟩, hr, by rw [List.append_assoc]; exact hout, by rw [List.length_append, List.length_singleton]; omega⟩
                exact repL_append (racc.monoE ((ev24.trans l5.toev).trans ev5) _ _) (repL_cons (r5.monoE ev5 _ _) repL_nil)
    · rintro H ⟨W2, S3, acc, ys, A, hlc2, hout, hacc⟩
      obtain ⟨le, rfl, s2, m2, l2, n2, us, hus, racc⟩ := A
      rw [List.drop_of_length_le (Nat.le_refl _)] at hlc2
      simp only [lcL, Res.ok.injEq] at hlc2
      obtain ⟨h1, h2⟩ := hlc2
      subst h1 h2
      rw [List.append_nil] at hout
      subst hout
      exact hend W2 D us (l.trans le) s2 m2 l2 n2 hus racc
theorem lc_frz {mi : EM (List D)} {g : TP} {t : EM Bool} {m : EM D} {vs : List Nat} {W : Wd} {st : DSt} {S : Store} {σ : St} {R : VK} (q : VQ X.K W R (fun c d H' => Wx c d σ H') (lcE mi g t m vs st S)) :
    match mi st S with
      | .ok ds S1 => ds.length ≤ sizeLine ∧ ∃ out S2, lcL g t m ds (wipeD st vs) S1 = .ok out S2 ∧
          ∀ W2 D us, W.le W2 → SRep X.K W2 S2 → W2.M D → ¬ W2.L D → D ∉ W2.N → W2.H D = some (.lst us) → RepL X.K W2 out us → R (.ref D) W2.H
      | .err e S1 => ∀ W' od, W.le W' → SRep X.K W' S1 → ERep X.K W' e od → Wx e.c od σ W'.H
      | .bad => False := by
  unfold lcE at q
  cases e : mi st S with
  | bad => rw [e] at q; exact q
  | err x S1 => rw [e] at q; exact q
  | ok ds S1 =>
    rw [e] at q
    simp only [bind_ok] at q
    obtain ⟨hl, q⟩ := size_if q
    refine ⟨hl, ?_⟩
    cases h : lcL g t m ds (wipeD st vs) S1 with
    | bad => rw [h] at q; exact q.elim
    | err _ _ => rw [h] at q; exact q.elim
    | ok out S2 =>
      rw [h] at q
      refine ⟨out, S2, rfl, fun W2 D us l s hm hl hn hD r => ?_⟩
      have l2 := Wd.wr_le (W := W2) (a := D) (o := .lst us) (b := False) hm hl
      have hH : (W2.wr D (.lst us) False).H = W2.H := upd_id hD
      have := q (W2.wr D (.lst us) False) (.ref D) (l.trans l2) (s.wrA hn hm hl) (by
        simp only [Rep]
        exact ⟨D, us, rfl, by rw [hH]; exact hD, fun z => z.2 rfl, r.mono l2 _ _⟩)
      rw [hH] at this
      exact this
theorem lc_cel {mi : EM (List D)} {g : TP} {t : EM Bool} {m : EM D} {vs : List Nat} {W : Wd} {st : DSt} {S : Store} {σ : St} {R : VK} (q : VQ X.K W R (fun c d H' => Wx c d σ H') (lcC mi g t m vs st S)) :
    match mi st S with
      | .ok ds S1 => ds.length ≤ sizeLine ∧ ∃ out S2, lcL g t m ds (wipeD st vs) S1 = .ok out S2 ∧
          ∀ W2 D us, W.le W2 → SRep X.K W2 S2 → W2.M D → ¬ W2.L D → D ∉ W2.N → W2.H D = some (.lst us) → RepL X.K W2 out us → R (.ref D) W2.H
      | .err e S1 => ∀ W' od, W.le W' → SRep X.K W' S1 → ERep X.K W' e od → Wx e.c od σ W'.H
      | .bad => False := by
  unfold lcC at q
  cases e : mi st S with
  | bad => rw [e] at q; exact q
  | err x S1 => rw [e] at q; exact q
  | ok ds S1 =>
    rw [e] at q
    simp only [bind_ok] at q
    obtain ⟨hl, q⟩ := size_if q
    refine ⟨hl, ?_⟩
    cases h : lcL g t m ds (wipeD st vs) S1 with
    | bad => rw [h] at q; exact q.elim
    | err _ _ => rw [h] at q; exact q.elim
    | ok out S2 =>
      rw [h] at q
      refine ⟨out, S2, rfl, fun W2 D us l s hm hl hn hD r => ?_⟩
      refine q (W2.name D) (.ref D) (l.trans Wd.name_le) (s.name hn hm hl ⟨us, hD, hm, r.mono Wd.name_le _ _⟩) ?_
      simp only [Rep]
      refine ⟨D, rfl, ?_⟩
      show (W2.N ++ [D])[S2.length]? = some D
      rw [← s.len]
      simp
variable {elt tg iter : Expr} {ifs : List Expr} {scope : Scope} {own : List (Str × Nat)} {mi : EM (List D)} {g : TP} {t : EM Bool} {m : EM D}
/-- [e for x in xs if t] -/
theorem de_lc (hc : X.calm = true) (hN : X.N.Nodup) (hi : DI X Wx tg iter mi) (ok : BlkOk X.N X.env.scope scope own)
    (hg : ∀ (s : Shared) (H : Hp) (C : Addr) (cl : List (Str × Addr)) (fp : List Addr), DX (X.blk s H scope (compEnvC scope cl C X.env) fp) (own.map (·.2)) tg g)
    (ht : ∀ (s : Shared) (H : Hp) (C : Addr) (cl : List (Str × Addr)) (fp : List Addr), DTs (X.blk s H scope (compEnvC scope cl C X.env) fp) ifs t)
    (he : ∀ (s : Shared) (H : Hp) (C : Addr) (cl : List (Str × Addr)) (fp : List Addr), DE (X.blk s H scope (compEnvC scope cl C X.env) fp) W0 elt m) (hs : ∀ x, foldedSetIterable iter X.env x = pure x := by intro _; rfl) :
    DE X Wx (.ListComp elt [⟨tg, iter, ifs, 0⟩] scope pos) (lcE mi g t m (own.map (·.2))) :=
  de_of (pe_lc hc hN hi.p ok (fun s H C cl fp => (hg s H C cl fp).p) (fun s H C cl fp => (ht s H C cl fp).p) (fun s H C cl fp => (he s H C cl fp).p) hs) fun W st S σ Q at_ q => lc_go (tg := tg) (iter := iter) at_ (lc_frz q)
theorem de_lcC (hc : X.calm = true) (hN : X.N.Nodup) (hi : DI X Wx tg iter mi) (ok : BlkOk X.N X.env.scope scope own)
    (hg : ∀ (s : Shared) (H : Hp) (C : Addr) (cl : List (Str × Addr)) (fp : List Addr), DX (X.blk s H scope (compEnvC scope cl C X.env) fp) (own.map (·.2)) tg g)
    (ht : ∀ (s : Shared) (H : Hp) (C : Addr) (cl : List (Str × Addr)) (fp : List Addr), DTs (X.blk s H scope (compEnvC scope cl C X.env) fp) ifs t)
    (he : ∀ (s : Shared) (H : Hp) (C : Addr) (cl : List (Str × Addr)) (fp : List Addr), DE (X.blk s H scope (compEnvC scope cl C X.env) fp) W0 elt m) (hs : ∀ x, foldedSetIterable iter X.env x = pure x := by intro _; rfl) :
    DE X Wx (.ListComp elt [⟨tg, iter, ifs, 0⟩] scope pos) (lcC mi g t m (own.map (·.2))) :=
  de_of (pe_lc hc hN hi.p ok (fun s H C cl fp => (hg s H C cl fp).p) (fun s H C cl fp => (ht s H C cl fp).p) (fun s H C cl fp => (he s H C cl fp).p) hs) fun W st S σ Q at_ q => lc_go (tg := tg) (iter := iter) at_ (lc_cel q)
theorem set_vq {i : Nat} {K : PySem.W.Frag} {W : Wd} {st : DSt} {σ : St} {S : Store} {r : Res KF.D} {D : Ends} (a : At K W st S σ W.H) (q : SQ K W D Wx (match r with | .ok d S1 => .nx (st.set i (some d)) S1 | .err e S1 => .err e st S1 | .bad => .bad)) :
    VQ K W (fun x H1 => gName i x σ H1 D.nx) (fun c d H' => Wx c d σ H') r := by
  cases r with
  | ok d S1 => exact fun W' v l s r => q W' _ l s ((a.e.mono l).set i r)
  | err e S1 => exact fun W' od l s z => q W' σ od l s (a.e.mono l) z
  | bad => exact q
/-- y = [..] on one line -/
theorem ds_setLc {i : Nat} {y : Str} {py spos : Pos} (hc : X.calm = true) (hN : X.N.Nodup) (hi : DI X Wx tg iter mi) (ok : BlkOk X.N X.env.scope scope own)
    (hg : ∀ (s : Shared) (H : Hp) (C : Addr) (cl : List (Str × Addr)) (fp : List Addr), DX (X.blk s H scope (compEnvC scope cl C X.env) fp) (own.map (·.2)) tg g)
    (ht : ∀ (s : Shared) (H : Hp) (C : Addr) (cl : List (Str × Addr)) (fp : List Addr), DTs (X.blk s H scope (compEnvC scope cl C X.env) fp) ifs t)
    (he : ∀ (s : Shared) (H : Hp) (C : Addr) (cl : List (Str × Addr)) (fp : List Addr), DE (X.blk s H scope (compEnvC scope cl C X.env) fp) W0 elt m)
    (hsw : swapsWith (.ListComp elt [⟨tg, iter, ifs, 0⟩] scope pos) (some (.Name y py)) spos.line X.env = pure true)
    (hy : X.N[i]? = some y := by rfl) (hyl : X.env.scope.names.lookup y = some .local := by rfl) (hs : ∀ x, foldedSetIterable iter X.env x = pure x := by intro _; rfl) :
    DS X Wx (.Assign [.Name y py] (.ListComp elt [⟨tg, iter, ifs, 0⟩] scope pos) spos) (setS i (lcE mi g t m (own.map (·.2)))) :=
  ds_of (ps_setLc hc hN hy hyl hsw hi.p ok (fun s H C cl fp => (hg s H C cl fp).p) (fun s H C cl fp => (ht s H C cl fp).p) (fun s H C cl fp => (he s H C cl fp).p) hs) fun W st S σ D at_ q => lc_go (tg := tg) (iter := iter) at_ (lc_frz (set_vq at_ q))
theorem ds_setLcC {i : Nat} {y : Str} {py spos : Pos} (hc : X.calm = true) (hN : X.N.Nodup) (hi : DI X Wx tg iter mi) (ok : BlkOk X.N X.env.scope scope own)
    (hg : ∀ (s : Shared) (H : Hp) (C : Addr) (cl : List (Str × Addr)) (fp : List Addr), DX (X.blk s H scope (compEnvC scope cl C X.env) fp) (own.map (·.2)) tg g)
    (ht : ∀ (s : Shared) (H : Hp) (C : Addr) (cl : List (Str × Addr)) (fp : List Addr), DTs (X.blk s H scope (compEnvC scope cl C X.env) fp) ifs t)
    (he : ∀ (s : Shared) (H : Hp) (C : Addr) (cl : List (Str × Addr)) (fp : List Addr), DE (X.blk s H scope (compEnvC scope cl C X.env) fp) W0 elt m)
    (hsw : swapsWith (.ListComp elt [⟨tg, iter, ifs, 0⟩] scope pos) (some (.Name y py)) spos.line X.env = pure true)
    (hy : X.N[i]? = some y := by rfl) (hyl : X.env.scope.names.lookup y = some .local := by rfl) (hs : ∀ x, foldedSetIterable iter X.env x = pure x := by intro _; rfl) :
    DS X Wx (.Assign [.Name y py] (.ListComp elt [⟨tg, iter, ifs, 0⟩] scope pos) spos) (setS i (lcC mi g t m (own.map (·.2)))) :=
  ds_of (ps_setLc hc hN hy hyl hsw hi.p ok (fun s H C cl fp => (hg s H C cl fp).p) (fun s H C cl fp => (ht s H C cl fp).p) (fun s H C cl fp => (he s H C cl fp).p) hs) fun W st S σ D at_ q => lc_go (tg := tg) (iter := iter) at_ (lc_cel (set_vq at_ q))
end
end KF

set_option Elab.async false
set_option linter.all false
set_option maxRecDepth 100000
set_option maxHeartbeats 4000000
/-! KFI: defs, their promises, their calls. -/
namespace KF
open PySem PySem.Spec PyProof.Rows L2
/-- as FnOk, where no repr is being made around -/
structure FnG (P : Program) (w : World) (K : PySem.W.Frag) (mg : Str → Option Value) (base : Heap) (k : Nat) (f : Addr) (fd : FuncData) (ps : List Str) (sp : Sp) : Prop where
  len : ∀ vs H Q E, sp vs H Q E → vs.length = ps.length
  run : ∀ (A : Around) (outer : List Env) (s : Shared) (H : Hp) (args : Args) (us : List Value) (vs : List V) (Q : VK) (E : XK), A.guards = some [] → Room k A → Env0 P w K mg base A outer s H →
    BindsTo s fd args (ps.zip us) → Vals vs us → sp vs H Q E → codeAny (model P w) A (.call (.ref f) args) (CR (L2.CX P w) outer P w H s Q E) s
theorem FnG.mono {P : Program} {w : World} {K : PySem.W.Frag} {mg : Str → Option Value} {base : Heap} {j k : Nat} {f : Addr} {fd : FuncData} {ps : List Str} {sp : Sp} (F : FnG P w K mg base j f fd ps sp) (h : j ≤ k) : FnG P w K mg base k f fd ps sp :=
  ⟨F.len, fun A outer s H args us vs Q E g r => F.run A outer s H args us vs Q E g (r.mono h)⟩
/-- the promise of a def by its denotation -/
def spD (K : PySem.W.Frag) (m : List D → Store → Res D) (n : Nat) : Sp := fun vs H Q E => ∃ W ds S, W.H = H ∧ SRep K W S ∧ RepL K W ds vs ∧ ds.length = n ∧ VQ K W Q E (m ds S)
def runF (n : Nat) (m : SM) : List D → Store → Res D := fun ds S => match m (ds.map some ++ List.replicate (n - ds.length) none) S with
  | .nx _ S1 => .ok .non S1
  | .rt d S1 => .ok d S1
  | .err e _ S1 => .err e S1
  | _ => .bad
theorem startE {K : PySem.W.Frag} {W : Wd} {ds : List D} {vs : List V} {N : List Str} (r : RepL K W ds vs) : RepE K W (ds.map some ++ List.replicate (N.length - ds.length) none) (L2.start N vs) := by
  have hl := r.length
  unfold L2.start
  refine ⟨by simp [hl], fun i d e => ?_⟩
  by_cases hi : i < ds.length
  · rw [List.getElem?_append_left (by simpa using hi), List.getElem?_map] at e
    cases h : ds[i]? with
    | none => rw [h] at e; cases e
    | some x =>
      rw [h] at e
      cases e
      obtain ⟨v, h1, h2⟩ := r.get h
      exact ⟨v, by rw [List.getElem?_append_left (by rw [List.length_map, ← hl]; exact hi), List.getElem?_map, h1]; rfl, h2⟩
  · rw [List.getElem?_append_right (by simpa using hi), List.getElem?_replicate] at e
    split at e <;> cases e
/-- THE RULE of a def -/
theorem fnD {P : Program} {w : World} {K : PySem.W.Frag} {mg : Str → Option Value} {base : Heap} {k : Nat} {f : Addr} {x qual : Str} {st : Stmt} {fd : FuncData} {N ps : List Str} {m : SM} (F : Fun K x qual st f fd) (S : FnScope N ps (defScope st))
    (hB : ∀ (cdv : Value) (A : Around) (outer : List Env) (s : Shared) (H : Hp) (E : XK), (A.deeper (envOfC qual (defScope st) s.heap.objs.size f cdv)).guards = some [] → Room k (A.deeper (envOfC qual (defScope st) s.heap.objs.size f cdv)) →
      DSs (cxOf (L2.CX P w) P w K mg base N qual (defScope st) f cdv A outer s H E) (fun c d _ H' => E c d H') (defBody st) m) :
    FnG P w K mg base (k + 1) f fd ps (spD K (runF N.length m) ps.length) := by
  obtain ⟨oc, od, kV, doc, pm, an, cdv, ct, osl, rfl, lk, hcd⟩ := F.ex
  refine ⟨fun vs H Q E ⟨W, ds, S0, _, _, r, hl, _⟩ => by rw [← r.length]; exact hl, ?_⟩
  intro A outer s H args us vs Q E hg hroom env0 hbind rv hsp
  obtain ⟨W, ds, S0, rfl, sr, rds, hlen, hq⟩ := hsp
  have hl : vs.length = ps.length := by rw [← rds.length]; exact hlen
  have kin : K.In s.heap := env0.mod.kin.keeps fun b o e => (env0.bs b o e).1
  have nol : s.heap.NoLimit := env0.mod.nolimit.keeps fun b o e => (env0.bs b o e).1
  have kinds : ∀ y ∈ ps.zip us, (defScope st).names.lookup y.1 = some .local ∨ ((defScope st).names.lookup y.1 = some .cell ∧ ((cellsFrom (s.heap.objs.size + 1) (defScope st).names []).lookup y.1).isSome = true) := by
    rintro ⟨n, v⟩ hy
    exact (S.par n (List.of_mem_zip hy).1).imp id fun q => ⟨q, PySem.W.cellsFrom_some _ _ _ (.inl q)⟩
  refine codeAny_call_function hroom.depth (kin _ _ lk) rfl S.co S.gen rfl (PySem.W.codeRec_of kin hcd) (hbind _ _ _ _ (wpAny_newFunctionEnv_cells S.kind kinds fun env he s1 x => ?_))
  subst he
  refine ⟨nol.keeps x.toInCall.keep, codeAny_func ?_⟩
  have body := hB cdv A outer s W.H E hg (hroom.deeper _)
  have I : Inv (cxOf (L2.CX P w) P w K mg base N qual (defScope st) f cdv A outer s W.H E) [] (L2.start N vs) W.H s1 := inv_start S hroom.hd env0 hl rv x
  have go : tDS K (fun c d _ H' => E c d H') m { nx := fun _ H' => Q .non H', rt := Q } (L2.start N vs) W.H := by
    refine ⟨W, _, S0, ⟨rfl, sr, startE rds⟩, ?_⟩
    unfold runF at hq
    generalize m (ds.map some ++ List.replicate (N.length - ds.length) none) S0 = rr at hq
    cases rr with
    | nx st1 S1 => exact fun W' σ l s e => hq W' .non l s rep_nI
    | rt d S1 => exact hq
    | err e st1 S1 => exact fun W' σ od l s e z => hq W' od l s z
    | bk _ _ => exact hq.elim
    | ct _ _ => exact hq.elim
    | bad => exact hq.elim
  refine wpAny_mono (body.p.run [] s1 (L2.start N vs) W.H _ I go) (fun fl s' hs => ?_) fun e s' hs => hs
  cases fl with
  | ret u =>
    obtain ⟨v, σ', H', J, r, q⟩ := hs
    exact ⟨v, H', J.os, J.bare, J.base, J.hok, r, q⟩
  | next =>
    obtain ⟨σ', H', J, q⟩ := hs
    exact ⟨.non, H', J.os, J.bare, J.base, J.hok, rfl, q⟩
  | brk => obtain ⟨σ', H', J, q⟩ := hs; exact q.elim
  | cont => obtain ⟨σ', H', J, q⟩ := hs; exact q.elim
section
variable {X : Cx} {Wx : WX} {k : Nat} {f : Addr} {fd : FuncData} {ps : List Str} {m : List D → Store → Res D} {x : Str} {p pos : Pos} {e : Expr} {es : List Expr} {ml : EM (List D)}
/-- the callee runs -/
theorem run_fnG {sp : Sp} {pins : List (Addr × Obj)} {σ : St} {H : Hp} {s : Shared} {Q : VK} {args : Args} {us : List Value} {vs : List V} (F : FnG X.prog X.w X.K X.mg X.base k f fd ps sp) (hr : Room k X.A) (gd : X.A.guards = some []) (tk : Takes X Wx)
    (I : Inv X pins σ H s) (hb : BindsTo s fd args (ps.zip us)) (r : Vals vs us) (h : sp vs H Q (fun c d H' => Wx c d σ H')) : codeAny (model X.prog X.w) X.A (.call (.ref f) args) (fun r s' => match r with
      | .ok (.ret u) => EP X pins σ Q u s'
      | .ok _ => False
      | .error e => X.xe e s') s := by
  refine codeAny_mono (F.run X.A X.stack s H args us vs Q _ gd hr I.env0 hb r h) fun r s' hq => ?_
  match r, hq with
  | .error e, hq => exact passAt tk σ pins H s e s' I hq
  | .ok (.ret u), hq => exact I.after hq
  | .ok .next, hq => exact False.elim hq
  | .ok .brk, hq => exact False.elim hq
  | .ok .cont, hq => exact False.elim hq
end
end KF

set_option Elab.async false
set_option linter.all false
set_option maxRecDepth 100000
set_option maxHeartbeats 4000000
/-! KFJ: calls of defs, classes, methods; fields, properties. -/
namespace KF
open PySem PySem.Spec PyProof.Rows L2
/-! ### what a callee value does -/
structure CalD (X : Cx) (Wx : WX) (fv : Value) (ks : List Str) (g : List D → List D → Store → Res D) : Prop where
  run : ∀ (pins : List (Addr × Obj)) (σ : St) (s : Shared) (W : Wd) (S : Store) (ds es : List D) (vs zs : List V) (us ws : List Value) (Q : VK), Inv X pins σ W.H s → SRep X.K W S → RepL X.K W ds vs → RepL X.K W es zs → Vals vs us → Vals zs ws →
    VQ X.K W Q (fun c d H' => Wx c d σ H') (g ds es S) → wpAny (model X.prog X.w) X.A (call fv us (ks.zip ws)) (EP X pins σ Q) X.xe s
/-- how a def's parameters are bound: nP values by place, the names ks; gD puts all in the parameters' order -/
structure BD (K : PySem.W.Frag) (fd : FuncData) (ps ks : List Str) (nP : Nat) (gD : List D → List D → List D) : Prop where
  len : ∀ ds es : List D, ds.length = nP → es.length = ks.length → (gD ds es).length = ps.length
  to : ∀ (s : Shared) (W : Wd) (ds es : List D) (vs zs : List V) (us ws : List Value), K.In s.heap → RepL K W ds vs → RepL K W es zs → Vals vs us → Vals zs ws → ds.length = nP → es.length = ks.length →
    ∃ us' vs', BindsTo s fd ⟨us, ks.zip ws⟩ (ps.zip us') ∧ Vals vs' us' ∧ RepL K W (gD ds es) vs'
def bnd (nP nk : Nat) (gD : List D → List D → List D) (m : List D → Store → Res D) : List D → List D → Store → Res D := fun ds es S => if ds.length = nP ∧ es.length = nk then m (gD ds es) S else .bad
theorem bd_all {K : PySem.W.Frag} {fd : FuncData} {ps : List Str} {n : Nat} (hn : ps.length = n) (b : Binds K fd ps []) : BD K fd ps [] n (fun ds _ => ds) :=
  ⟨fun ds es h _ => h.trans hn.symm, fun s W ds es vs zs us ws kin r _ rv _ h h0 => by
    have hl : us.length = ps.length := by rw [← rv.length, ← r.length, h, hn]
    have q := b s us kin (by rw [List.append_nil]; exact hl)
    rw [List.append_nil] at q
    exact ⟨us, vs, by simpa using q, rv, r⟩⟩
/-- with defaults dd that fill up -/
theorem bd_dfl {K : PySem.W.Frag} {fd : FuncData} {ps : List Str} {n : Nat} {dvs : List V} {dus : List Value} {dd : List D} (hn : ps.length = n + dd.length) (b : Binds K fd ps dus) (hv : Vals dvs dus) (hd : ∀ W, RepL K W dd dvs) : BD K fd ps [] n (fun ds _ => ds ++ dd) :=
  ⟨fun ds es h _ => by rw [List.length_append, h, hn], fun s W ds es vs zs us ws kin r _ rv _ h h0 => by
    have e1 : dus.length = dd.length := by rw [← hv.length, ← (hd W).length]
    have q := b s us kin (by rw [List.length_append, e1, ← rv.length, ← r.length, h, hn])
    exact ⟨us ++ dus, vs ++ dvs, by simpa using q, rv.append hv, repL_append r (hd W)⟩⟩
/-- all by name, or some -/
theorem bd_kw {K : PySem.W.Frag} {fd : FuncData} {ps ks : List Str} {n : Nat} (g : {α : Type} → List α → List α → List α) (hl : ∀ {α : Type} (us ws : List α), us.length = n → ws.length = ks.length → (g us ws).length = ps.length)
    (hr : ∀ {W : Wd} {ds es : List D} {vs zs : List V}, ds.length = n → es.length = ks.length → RepL K W ds vs → RepL K W es zs → RepL K W (g ds es) (g vs zs))
    (hv : ∀ {vs zs : List V} {us ws : List Value}, us.length = n → ws.length = ks.length → Vals vs us → Vals zs ws → Vals (g vs zs) (g us ws))
    (hb : ∀ us ws : List Value, us.length = n → ws.length = ks.length → bindArgs fd ⟨us, ks.zip ws⟩ = pure (ps.zip (g us ws))) : BD K fd ps ks n (fun ds es => g ds es) :=
  ⟨fun ds es h1 h2 => hl ds es h1 h2, fun s W ds es vs zs us ws kin r1 r2 v1 v2 h1 h2 => by
    have l1 : us.length = n := by rw [← v1.length, ← r1.length, h1]
    have l2 : ws.length = ks.length := by rw [← v2.length, ← r2.length, h2]
    exact ⟨g us ws, g vs zs, .of_eq (hb us ws l1 l2), hv l1 l2 v1 v2, hr h1 h2 r1 r2⟩⟩
section
variable {X : Cx} {Wx : WX} {k : Nat} {f : Addr} {fd : FuncData} {ps ks : List Str} {m : List D → Store → Res D} {nP n : Nat} {gD : List D → List D → List D}
theorem run_spG {pins : List (Addr × Obj)} {σ : St} {A : Around} {W : Wd} {S : Store} {ds : List D} {Q : VK} {E : XK} {s : Shared} {args : Args} {us : List Value} {vs : List V} (F : FnG X.prog X.w X.K X.mg X.base k f fd ps (spD X.K m ps.length)) (hr : Room k A) (gd : A.guards = some [])
    (e0 : Env0 X.prog X.w X.K X.mg X.base A X.stack s W.H) (sr : SRep X.K W S) (hb : BindsTo s fd args (ps.zip us)) (r : Vals vs us) (rd : RepL X.K W ds vs) (hl : ds.length = ps.length) (q : VQ X.K W Q E (m ds S)) : codeAny (model X.prog X.w) A (.call (.ref f) args) (CR (L2.CX X.prog X.w) X.stack X.prog X.w W.H s Q E) s :=
  F.run A X.stack s W.H args us vs Q E gd hr e0 hb r ⟨W, ds, S, rfl, sr, rd, hl, q⟩
theorem cal_fn (F : FnG X.prog X.w X.K X.mg X.base k f fd ps (spD X.K m ps.length)) (hr : Room k X.A) (gd : X.A.guards = some []) (tk : Takes X Wx) (b : BD X.K fd ps ks nP gD) : CalD X Wx (.ref f) ks (bnd nP ks.length gD m) :=
  ⟨fun pins σ s W S ds es vs zs us ws Q I sr rd re rv rz q => by
    unfold bnd at q
    split at q
    · rename_i hl
      obtain ⟨us', vs', b1, b2, b3⟩ := b.to s W ds es vs zs us ws I.kIn rd re rv rz hl.1 hl.2
      refine wpAny_call (run_fnG F hr gd tk I b1 b2 ⟨W, _, S, rfl, sr, b3, b.len ds es hl.1 hl.2, q⟩)
    · exact q.elim⟩
/-! ### the call -/
structure DK (X : Cx) (Wx : WX) (kws : List Keyword) (m : EM (List D)) : Prop where
  p : PK X kws (tDL X.K Wx m)
variable {x : Str} {p pos kpos apos : Pos} {e o : Expr} {es : List Expr} {kws : List Keyword} {ml mk : EM (List D)} {me mo : EM D} {ms : List (EM D)} {g : List D → List D → Store → Res D} {fv : Value} {nm : Option Str}
theorem pk_imp {t t' : TA} (h : PK X kws t) (i : ∀ σ H Q, t' σ H Q → t σ H Q) : PK X kws t' := ⟨fun pos pins s σ H Q I q => h.run pos pins s σ H Q I (i σ H Q q)⟩
theorem dk_nil : DK X Wx [] (seqE []) := ⟨pk_imp pk_nil fun σ H Q ⟨W, st, S, at_, q⟩ => by
  obtain ⟨rfl, s, e⟩ := at_
  exact q W [] (.refl W) s repL_nil⟩
theorem dk_cons (he : DE X Wx e me) (hr : DK X Wx kws (seqE ms)) : DK X Wx (⟨nm, e, kpos⟩ :: kws) (seqE (me :: ms)) := ⟨pk_imp (pk_cons he.p hr.p) fun σ H Q ⟨W, st, S, at_, q⟩ => by
  obtain ⟨rfl, s, e⟩ := at_
  refine goL ⟨rfl, s, e⟩ q fun W1 d S1 v l a1 r q1 => ?_
  refine goAL a1 q1 fun W2 ds S2 vs l2 a2 r2 q2 => ?_
  exact q2 W2 _ (.refl W2) a2.s (repL_cons (r.mono l2 _ _) r2)⟩
def callF (g : List D → List D → Store → Res D) (ml : EM (List D)) : EM D := fun st S => (ml st S).bind fun ds S1 => g ds [] S1
def callG (g : List D → List D → Store → Res D) (ml mk : EM (List D)) : EM D := fun st S => (ml st S).bind fun ds S1 => (mk st S1).bind fun es S2 => g ds es S2
theorem de_fn (c : CalD X Wx fv [] g) (hk : PySem.W.keepIn X.K fv = true) (hg : Gl X x) (hm : X.mg x = some fv) (ha : DA X Wx (e :: es) ml) (hdb : (x == ("__debug__" : Str)) = false := by decide) (he : starEach (e :: es) X.env = (false, eval e X.env) :: starEach es X.env := by rfl)
    (hpl : (backTo pos (starEach es X.env)).any (·.1) = false := by rfl) : DE X Wx (.Call (.Name x p) (e :: es) [] pos) (callF g ml) := ⟨⟨fun pins s σ H Q I ⟨W, st, S, at_, q⟩ => by
  obtain ⟨rfl, sr, re⟩ := at_
  refine wpAny_Call_Name_kw (ld_glob I hg hm (PySem.W.callWith_K (h₀ := X.base) I.ok.mod.kin hk ?_ he hpl) hdb)
  refine thn (ha.p.run pos pins s σ W.H (fun vs H1 => ∃ W1 ds S1, W1.H = H1 ∧ SRep X.K W1 S1 ∧ RepL X.K W1 ds vs ∧ VQ X.K W1 Q (fun c d H' => Wx c d σ H') (g ds [] S1)) I (goAE ⟨rfl, sr, re⟩ q fun W1 ds S1 vs l a1 r q1 => ⟨W1, ds, S1, rfl, a1.s, r, q1⟩)) ?_
  rintro us s1 ⟨vs, _, I1, rv, W1, ds, S1, rfl, sr1, r, q1⟩
  exact ⟨I1.kIn, c.run pins σ s1 W1 S1 ds [] vs [] us [] Q I1 sr1 r repL_nil rv .nil q1⟩⟩⟩
theorem de_fn0 (c : CalD X Wx fv [] g) (hk : PySem.W.keepIn X.K fv = true) (hg : Gl X x) (hm : X.mg x = some fv) (hdb : (x == ("__debug__" : Str)) = false := by decide) : DE X Wx (.Call (.Name x p) [] [] pos) (callF g (seqE [])) := ⟨⟨fun pins s σ H Q I ⟨W, st, S, at_, q⟩ => by
  obtain ⟨rfl, sr, re⟩ := at_
  refine wpAny_Call_Name_kw (ld_glob I hg hm (PySem.W.callWith_K0 I.kIn hk ?_) hdb)
  exact c.run pins σ s W S [] [] [] [] [] [] Q I sr repL_nil repL_nil .nil .nil q⟩⟩
theorem de_fnK (c : CalD X Wx fv ks g) (hk : PySem.W.keepIn X.K fv = true) (hg : Gl X x) (hm : X.mg x = some fv) (ha : DA X Wx (e :: es) ml) (hw : DK X Wx kws mk) (hall : (backToKw pos (keywordEach kws X.env)).all (·.1.isSome) = true := by rfl)
    (hks : (backToKw pos (keywordEach kws X.env)).filterMap (·.1) = ks := by rfl) (hdb : (x == ("__debug__" : Str)) = false := by decide) (he : starEach (e :: es) X.env = (false, eval e X.env) :: starEach es X.env := by rfl)
    (hpl : ((backTo pos (starEach (e :: es) X.env)).any (·.1) || (backToKw pos (keywordEach kws X.env)).any (·.1.isNone)) = false := by rfl) : DE X Wx (.Call (.Name x p) (e :: es) kws pos) (callG g ml mk) := ⟨⟨fun pins s σ H Q I ⟨W, st, S, at_, q⟩ => by
  obtain ⟨rfl, sr, re⟩ := at_
  refine wpAny_Call_Name_kw (ld_glob I hg hm (PySem.W.callWith_KW (h₀ := X.base) I.ok.mod.kin hk hall ?_ hpl he) hdb)
  refine thn (ha.p.run pos pins s σ W.H (fun vs H1 => ∃ W1 ds S1, W1.H = H1 ∧ At X.K W1 st S1 σ W1.H ∧ RepL X.K W1 ds vs ∧ VQ X.K W1 Q (fun c d H' => Wx c d σ H') ((mk st S1).bind fun es S2 => g ds es S2)) I (goAE ⟨rfl, sr, re⟩ q fun W1 ds S1 vs l a1 r q1 => ⟨W1, ds, S1, rfl, a1, r, q1⟩)) ?_
  rintro us s1 ⟨vs, _, I1, rv, W1, ds, S1, rfl, a1, r, q1⟩
  refine thn (hw.p.run pos pins s1 σ W1.H (fun zs H1 => ∃ W2 es' S2, W2.H = H1 ∧ SRep X.K W2 S2 ∧ RepL X.K W2 ds vs ∧ RepL X.K W2 es' zs ∧ VQ X.K W2 Q (fun c d H' => Wx c d σ H') (g ds es' S2)) I1 (goAE a1 q1 fun W2 es' S2 zs l2 a2 r2 q2 => ⟨W2, es', S2, rfl, a2.s, r.mono l2 _ _, r2, q2⟩)) ?_
  rintro ws s2 ⟨zs, _, I2, rz, W2, es', S2, rfl, sr2, r1, r2, q2⟩
  rw [hks]
  exact ⟨I2.kIn, c.run pins σ s2 W2 S2 ds es' vs zs us ws Q I2 sr2 r1 r2 rv rz q2⟩⟩⟩
theorem de_fnK0 (c : CalD X Wx fv ks g) (hk : PySem.W.keepIn X.K fv = true) (hg : Gl X x) (hm : X.mg x = some fv) (hw : DK X Wx kws mk) (hall : (backToKw pos (keywordEach kws X.env)).all (·.1.isSome) = true := by rfl)
    (hks : (backToKw pos (keywordEach kws X.env)).filterMap (·.1) = ks := by rfl) (hdb : (x == ("__debug__" : Str)) = false := by decide)
    (hpl : ((backTo pos (starEach [] X.env)).any (·.1) || (backToKw pos (keywordEach kws X.env)).any (·.1.isNone)) = false := by rfl) : DE X Wx (.Call (.Name x p) [] kws pos) (callG g (seqE []) mk) := ⟨⟨fun pins s σ H Q I ⟨W, st, S, at_, q⟩ => by
  obtain ⟨rfl, sr, re⟩ := at_
  refine wpAny_Call_Name_kw (ld_glob I hg hm (PySem.W.callWith_KW0 (h₀ := X.base) I.ok.mod.kin hk hall ?_ hpl) hdb)
  refine thn (hw.p.run pos pins s σ W.H (fun zs H1 => ∃ W2 es' S2, W2.H = H1 ∧ SRep X.K W2 S2 ∧ RepL X.K W2 es' zs ∧ VQ X.K W2 Q (fun c d H' => Wx c d σ H') (g [] es' S2)) I (goAE ⟨rfl, sr, re⟩ q fun W2 es' S2 zs l2 a2 r2 q2 => ⟨W2, es', S2, rfl, a2.s, r2, q2⟩)) ?_
  rintro ws s2 ⟨zs, _, I2, rz, W2, es', S2, rfl, sr2, r2, q2⟩
  rw [hks]
  exact ⟨I2.kIn, c.run pins σ s2 W2 S2 [] es' [] zs [] ws Q I2 sr2 repL_nil r2 .nil rz q2⟩⟩⟩
/-! ### instances -/
/-- what stands behind an instance -/
def insOf (S : Store) : D → Option (Addr × List Str × List D)
  | .ins C ks xs => some (C, ks, xs)
  | .cell n => match S[n]? with
    | some (.ins C ks xs) => some (C, ks, xs)
    | some (.fins C ks xs) => some (C, ks, xs)
    | _ => none
  | _ => none
theorem insOf_rep {K : PySem.W.Frag} {W : Wd} {S : Store} {d : D} {v : V} {C : Addr} {ks : List Str} {xs : List D} (s : SRep K W S) (r : Rep K W d v) (h : insOf S d = some (C, ks, xs)) : ∃ a dx vs, v = .ref a ∧ W.H a = some (.ins C dx (ks.zip vs)) ∧ ks.length = vs.length ∧ RepL K W xs vs := by
  cases d <;> simp only [insOf] at h <;> try cases h
  · simp only [Rep] at r
    obtain ⟨a, dx, vs, e, q, _, z, rl⟩ := r
    exact ⟨a, dx, vs, e, q, z, rl⟩
  · simp only [Rep] at r
    obtain ⟨a, rfl, hn⟩ := r
    split at h <;> cases h
    · rename_i hs
      obtain ⟨dx, vs, q, _, z, rl⟩ := s.at_ _ _ _ hn hs
      exact ⟨a, dx, vs, rfl, q, z, rl⟩
    · rename_i hs
      obtain ⟨dx, vs, q, _, z, rl⟩ := s.at_ _ _ _ hn hs
      exact ⟨a, dx, vs, rfl, q, z, rl⟩
theorem zip_lookup {K : PySem.W.Frag} {W : Wd} {fn : Str} : ∀ {ks : List Str} {xs : List D} {vs : List V} {d : D}, RepL K W xs vs → (ks.zip xs).lookup fn = some d → ∃ v, (ks.zip vs).lookup fn = some v ∧ Rep K W d v
  | [], xs, vs, d, r, h => by simp at h
  | k :: ks, [], vs, d, r, h => by simp at h
  | k :: ks, x :: xs, vs, d, r, h => by
    simp only [RepL] at r
    obtain ⟨v, vs', rfl, r1, r2⟩ := r
    rw [List.zip_cons_cons, List.lookup_cons] at h ⊢
    cases hk : fn == k
    · rw [hk] at h
      exact zip_lookup r2 h
    · rw [hk] at h
      cases h
      exact ⟨v, rfl, r1⟩
theorem zip_lookup_none {fn : Str} : ∀ {ks : List Str} {xs : List D} {vs : List V}, xs.length = vs.length → (ks.zip xs).lookup fn = none → (ks.zip vs).lookup fn = none
  | [], xs, vs, r, h => by simp
  | k :: ks, [], vs, r, h => by
    cases vs with
    | nil => simp
    | cons => simp at r
  | k :: ks, x :: xs, [], r, h => by simp at r
  | k :: ks, x :: xs, v :: vs, r, h => by
    rw [List.zip_cons_cons, List.lookup_cons] at h ⊢
    cases hk : fn == k
    · rw [hk] at h
      exact zip_lookup_none (by simpa using r) h
    · rw [hk] at h
      cases h
def fldD (C : Addr) (fn : Str) (x : D) (S : Store) : Option D := match insOf S x with
  | some (C', ks, xs) => if C' = C then (ks.zip xs).lookup fn else none
  | none => none
def fldE (C : Addr) (fn : Str) (o : EM D) : EM D := fun st S => (o st S).bind fun x S1 => match fldD C fn x S1 with
  | some d => .ok d S1
  | none => .bad
theorem de_fld {C : Addr} {fn : Str} (c : Cls X.K C) (n : NoAttr X.K C fn) (ho : DE X Wx o mo) (hb : attributeBase o fn X.env (eval o X.env) = eval o X.env := by rfl) : DE X Wx (.Attribute o fn pos) (fldE C fn mo) := by
  refine de_of (pe_fld ho.p hb) fun W st S σ Q at_ q => ?_
  refine goE at_ q fun W1 d S1 v l a1 r q1 => ?_
  unfold fldD at q1
  cases h : insOf S1 d with
  | none => rw [h] at q1; exact q1.elim
  | some t =>
    obtain ⟨C', ks, xs⟩ := t
    rw [h] at q1
    by_cases hc : C' = C
    · subst hc
      simp only [if_true] at q1
      cases hl : (ks.zip xs).lookup fn with
      | none => rw [hl] at q1; exact q1.elim
      | some y =>
        rw [hl] at q1
        obtain ⟨a, dx, vs, rfl, ha, hz, rl⟩ := insOf_rep a1.s r h
        obtain ⟨u, hu, ru⟩ := zip_lookup rl hl
        exact ⟨a, C', dx, _, u, rfl, ha, c, n, hu, q1 W1 u (.refl W1) a1.s ru⟩
    · simp only [if_neg hc] at q1
      exact q1.elim
end
end KF

set_option Elab.async false
set_option linter.all false
set_option maxRecDepth 100000
set_option maxHeartbeats 4000000
/-! KFK: own methods, properties, operators by own defs; making an instance; storing a field. -/
namespace KF
open PySem PySem.Spec PyProof.Rows L2
abbrev E0 : XK := fun _ _ _ => False
theorem cx_no {P : Program} {w : World} {outer : List Env} {H : Hp} {s : Shared} {u : Value} {s' : Shared} (h : L2.CX P w outer H s E0 u s') : False := by
  obtain ⟨_, _, _, _, _, _, _, _, _, _, _, _, z⟩ := h
  exact z
/-- an end without an exception -/
def Res.noE : Res D → Res D
  | .ok d S => .ok d S
  | _ => .bad
@[simp] theorem noE_ok (d : D) (S : Store) : (Res.ok d S).noE = .ok d S := rfl
@[simp] theorem noE_err (e : Exn) (S : Store) : (Res.err (α := D) e S).noE = .bad := rfl
@[simp] theorem noE_bad : (Res.bad : Res D).noE = .bad := rfl
theorem VQ.noE {K : PySem.W.Frag} {W : Wd} {Q : VK} {E E' : XK} {r : Res D} (h : VQ K W Q E r.noE) : VQ K W Q E' r := by
  cases r with
  | ok d S => exact h
  | err e S => exact h.elim
  | bad => exact h.elim
section
variable {X : Cx} {Wx : WX} {k : Nat} {f C : Addr} {fd : FuncData} {ps ks : List Str} {m : List D → Store → Res D} {nP n : Nat} {gD : List D → List D → List D} {pins : List (Addr × Obj)} {σ : St} {s : Shared} {W : Wd} {S : Store} {A : Around} {Q : VK} {ds : List D} {vs : List V} {us : List Value}
def OwnEnd (X : Cx) (pins : List (Addr × Obj)) (σ : St) (Q : VK) : Result → Shared → Prop := fun r s' => match r with
  | .ok (.ret u) => EP X pins σ Q u s'
  | _ => False
/-- a def is called where no exception may come out -/
theorem run_fnA (F : FnG X.prog X.w X.K X.mg X.base k f fd ps (spD X.K m ps.length)) (hr : Room k A) (gd : A.guards = some []) (I : Inv X pins σ W.H s) (e0 : Env0 X.prog X.w X.K X.mg X.base A X.stack s W.H) (b : BD X.K fd ps [] nP gD)
    (sr : SRep X.K W S) (rd : RepL X.K W ds vs) (rv : Vals vs us) (q : VQ X.K W Q E0 (bnd nP 0 gD m ds [] S)) : codeAny (model X.prog X.w) A (.call (.ref f) ⟨us, []⟩) (OwnEnd X pins σ Q) s := by
  unfold bnd at q
  split at q
  · rename_i hl
    obtain ⟨us', vs', b1, b2, b3⟩ := b.to s W ds [] vs [] us [] I.kIn rd repL_nil rv .nil hl.1 hl.2
    refine codeAny_mono (run_spG (pins := pins) (σ := σ) F hr gd e0 sr b1 b2 b3 (b.len ds [] hl.1 hl.2) q) fun r s' hq => ?_
    match r, hq with
    | .error e, hq => exact (cx_no hq).elim
    | .ok (.ret u), hq => exact I.after hq
    | .ok .next, hq => exact False.elim hq
    | .ok .brk, hq => exact False.elim hq
    | .ok .cont, hq => exact False.elim hq
  · exact q.elim
/-- an own def that stands behind a name of the class: a property's getter, a dunder -/
structure Own (X : Cx) (C f : Addr) (g : List D → List D → Store → Res D) : Prop where
  run : ∀ (A : Around) (pins : List (Addr × Obj)) (σ : St) (s : Shared) (W : Wd) (S : Store) (ds : List D) (vs : List V) (us : List Value) (Q : VK), (A = X.A ∨ A = X.A.in1) → Inv X pins σ W.H s → SRep X.K W S → RepL X.K W ds vs → Vals vs us → VQ X.K W Q E0 (g ds [] S) →
    codeAny (model X.prog X.w) A (.call (.ref f) ⟨us, []⟩) (OwnEnd X pins σ Q) s
theorem Own.wp {g : List D → List D → Store → Res D} {E' : Value → Shared → Prop} (F : Own X C f g) (ha : A = X.A ∨ A = X.A.in1) (I : Inv X pins σ W.H s) (sr : SRep X.K W S) (rd : RepL X.K W ds vs) (rv : Vals vs us) (q : VQ X.K W Q E0 (g ds [] S)) : wpAny (model X.prog X.w) A (call (.ref f) us) (EP X pins σ Q) E' s :=
  wpAny_call (codeAny_mono (F.run A pins σ s W S ds vs us Q ha I sr rd rv q) fun r s' hq => by
    match r, hq with
    | .ok (.ret u), hq => exact hq
    | .error e, hq => exact hq.elim
    | .ok .next, hq => exact hq.elim
    | .ok .brk, hq => exact hq.elim
    | .ok .cont, hq => exact hq.elim)
theorem own_of (F : FnG X.prog X.w X.K X.mg X.base k f fd ps (spD X.K m ps.length)) (hr : Room (k + 1) X.A) (gd : X.A.guards = some []) (b : BD X.K fd ps [] nP gD) : Own X C f (bnd nP 0 gD m) :=
  ⟨fun A pins σ s W S ds vs us Q ha I sr rd rv q => by
    rcases ha with rfl | rfl
    · exact run_fnA F (hr.mono (Nat.le_succ k)) gd I I.env0 b sr rd rv q
    · exact run_fnA F hr.in1 gd I I.env0.in1 b sr rd rv q⟩
/-- the class of an instance and what is looked up there -/
structure Dun (K : PySem.W.Frag) (C : Addr) (name : Str) (f : Addr) : Prop where
  at_ : PySem.W.findIn K (.ref C) name = some (some (.ref f))
  fn : PySem.W.isFn K (.ref f) = true
variable {o e a b : Expr} {es : List Expr} {kws : List Keyword} {ml mk : EM (List D)} {me mo ma mb : EM D} {pos apos : Pos} {g : List D → List D → Store → Res D} {fn mn : Str}
theorem inst_at {fs : List (Str × V)} {x dx : Addr} {H : Hp} (I : Inv X pins σ H s) (ha : H x = some (.ins C dx fs)) : ∃ ox od, PySem.W.InstAt s.heap x ox C (some od) := by
  obtain ⟨mA, O, _, _, _, _⟩ := ins_get I.hok ha
  obtain ⟨od, J, _⟩ := O.look
  exact ⟨_, od, J⟩
/-! ### properties -/
def propE (C : Addr) (g : List D → List D → Store → Res D) (o : EM D) : EM D := fun st S => (o st S).bind fun x S1 => match insOf S1 x with
  | some (C', _, _) => if C' = C then (g [x] [] S1).noE else .bad
  | none => .bad
theorem de_prop {p : Addr} (c : Cls X.K C) (hp : PropOf X.K C fn p f) (F : Own X C f g) (ho : DE X Wx o mo) (hb : attributeBase o fn X.env (eval o X.env) = eval o X.env := by rfl) : DE X Wx (.Attribute o fn pos) (propE C g mo) := ⟨⟨fun pins s σ H Q I ⟨W, st, S, at_, q⟩ => by
  obtain ⟨rfl, sr, re⟩ := at_
  refine attr_of hb (thn (ho.p.run pins s σ W.H (fun v H1 => ∃ W1 x S1, W1.H = H1 ∧ SRep X.K W1 S1 ∧ Rep X.K W1 x v ∧ VQ X.K W1 Q (fun c d H' => Wx c d σ H') (match insOf S1 x with | some (C', _, _) => if C' = C then (g [x] [] S1).noE else .bad | none => .bad)) I
    (goE ⟨rfl, sr, re⟩ q fun W1 x S1 v l a1 r q1 => ⟨W1, x, S1, rfl, a1.s, r, q1⟩)) ?_)
  rintro u s1 ⟨v, _, I1, rv, W1, x, S1, rfl, sr1, rx, q1⟩
  cases h : insOf S1 x with
  | none => rw [h] at q1; exact q1.elim
  | some t =>
    obtain ⟨C', ks, xs⟩ := t
    rw [h] at q1
    by_cases hc : C' = C
    · subst hc
      simp only [if_true] at q1
      obtain ⟨y, dx, vs, rfl, ha, hz, rl⟩ := insOf_rep sr1 rx h
      obtain rfl : u = Value.ref y := rv
      obtain ⟨ox, od, J⟩ := inst_at I1 ha
      obtain ⟨rest, hrec⟩ := hp.rec_
      have hc : (PySem.W.clsIn X.K C').isSome = true := by
        obtain ⟨cd, z, _⟩ := PySem.W.any_some c.hd
        rw [z]; rfl
      refine PySem.W.get_bind I1.kIn J (PySem.W.plainGet_of (c.get fn)).1 (PySem.W.findObj_data hc hp.at_ hp.get hp.tak) (PySem.W.plainGet_of (c.get fn)).2 (wpAny_call (PySem.W.prop_get (s := { s1 with toks := s1.toks + 1 }) I1.kIn hrec ?_))
      have R := F.run X.A.in1 pins σ { s1 with toks := s1.toks + 1 } W1 S1 [x] [.ref y] [.ref y] Q (.inr rfl) (I1.tok _) sr1 (repL_cons rx repL_nil) (.cons rfl .nil) (VQ.noE q1)
      refine codeAny_mono R fun r s' hq => ?_
      match r, hq with
      | .error e, hq => exact hq.elim
      | .ok (.ret u), hq =>
        obtain ⟨v, H', I3, rv, q3⟩ := hq
        show wpAny _ _ (handedOut u) _ _ _
        rw [PySem.W.handedOut_of (handed_of rv)]
        exact wpAny_pure ⟨v, H', I3, rv, q3⟩
      | .ok .next, hq => exact False.elim hq
      | .ok .brk, hq => exact False.elim hq
      | .ok .cont, hq => exact False.elim hq
    · simp only [if_neg hc] at q1
      exact q1.elim⟩⟩
end
end KF

set_option Elab.async false
set_option linter.all false
set_option maxRecDepth 100000
set_option maxHeartbeats 4000000
/-! KFL: operators by own defs; own methods; making an instance; storing a field. -/
namespace KF
open PySem PySem.Spec PyProof.Rows L2
def r2S (K : PySem.W.Frag) (g : D → D → Store → Res D) : R2 := fun x y H Q => ∃ W S dx dy, W.H = H ∧ SRep K W S ∧ Rep K W dx x ∧ Rep K W dy y ∧ VQ K W Q E0 (g dx dy S)
/-- an operator that may leave new things behind -/
structure OpS (X : Cx) (f : Value → Value → Sem Value) (g : D → D → Store → Res D) : Prop where
  p : OpR X f (r2S X.K g)
def opS (g : D → D → Store → Res D) (a b : EM D) : EM D := fun st S => (a st S).bind fun x S1 => (b st S1).bind fun y S2 => (g x y S2).noE
section
variable {X : Cx} {Wx : WX} {C f : Addr} {a b e o : Expr} {ma mb me mo : EM D} {pos apos : Pos} {g : D → D → Store → Res D}
theorem opS_go {W : Wd} {st : DSt} {S : Store} {σ : St} {Q : VK} (at_ : At X.K W st S σ W.H) (q : VQ X.K W Q (fun c d H' => Wx c d σ H') (opS g ma mb st S)) :
    tD X.K Wx ma σ W.H fun x H1 => tD X.K Wx mb σ H1 fun y H2 => r2S X.K g x y H2 Q := by
  refine goE at_ q fun W1 dx S1 x l1 a1 r1 q1 => ?_
  refine goE a1 q1 fun W2 dy S2 y l2 a2 r2 q2 => ?_
  exact ⟨W2, S2, dx, dy, rfl, a2.s, r1.mono l2 _ _, r2, VQ.noE q2⟩
theorem de_opS {op : Operator} (ho : OpS X (binaryOp op) g) (ha : DE X Wx a ma) (hb : DE X Wx b mb) : DE X Wx (.BinOp a op b pos) (opS g ma mb) :=
  de_of (pe_op ho.p ha.p hb.p) fun W st S σ Q at_ q => opS_go at_ q
theorem de_cmpS {op : CmpOp} (ho : OpS X (compareOp op) g) (ha : DE X Wx a ma) (hb : DE X Wx b mb) (hm : behindInMarks op b = false) : DE X Wx (.Compare a [op] [b] pos) (opS g ma mb) :=
  de_of (pe_cmpR ho.p ha.p hb.p hm) fun W st S σ Q at_ q => opS_go at_ q
theorem opS_of {f : Value → Value → Sem Value} {g : D → D → Store → Option D} (h : OpD X f g) : OpS X f (fun x y S => Res.of (g x y S) S) :=
  ⟨opR_imp h.p fun x y H Q ⟨W, S, dx, dy, e, sr, r1, r2, q⟩ => by
    obtain ⟨d, e1, k⟩ := of_go q
    exact ⟨W, S, dx, dy, d, e, sr, r1, r2, e1, k⟩⟩
/-- an own class's def where an instance stands, the builtin's way elsewhere -/
def ownOr (C : Addr) (h : D → D → Store → Res D) (g : D → D → Store → Option D) : D → D → Store → Res D := fun x y S => match insOf S y with
  | some (C', _, _) => if C' = C then h x y S else .bad
  | none => .of (g x y S) S
/-- x in y by __contains__ -/
def conD (g : List D → List D → Store → Res D) (neg : Bool) : D → D → Store → Res D := fun x y S => match g [y, x] [] S with
  | .ok (.bl b) S1 => .ok (.bl (b != neg)) S1
  | _ => .bad
theorem con_go {h : List D → List D → Store → Res D} {neg : Bool} {pins : List (Addr × Obj)} {σ : St} {s : Shared} {W : Wd} {S : Store} {Q : VK} {dx dy : D} {x y : V} {u v : Value} {ks : List Str} {xs : List D} (dn : Dun X.K C "__contains__" f) (F : Own X C f h)
    (I : Inv X pins σ W.H s) (sr : SRep X.K W S) (rx : Rep X.K W dx x) (ry : Rep X.K W dy y) (vx : RelV x u) (vy : RelV y v) (hi : insOf S dy = some (C, ks, xs)) (q : VQ X.K W Q E0 (conD h neg dx dy S)) :
    wpAny (model X.prog X.w) X.A (contains v u) (fun b s' => EP X pins σ Q (.bool (b != neg)) s') X.xe s := by
  obtain ⟨a, dd, vs, rfl, ha, hz, rl⟩ := insOf_rep sr ry hi
  obtain rfl : v = Value.ref a := vy
  obtain ⟨ox, od, J⟩ := inst_at I ha
  unfold contains
  refine wpAny_holding ?_
  refine wpAny_bind (wpAny_bind (J.type.here ((PySem.W.looks_findIn I.kIn dn.at_).here ?_)))
  show wpAny _ _ (if (some (Value.ref f) == some .none) = true then _ else _) _ _ _
  rw [if_neg (by simp)]
  unfold callSpecialUnlessNone?
  refine wpAny_bind (wpAny_bind (wpAny_bind (J.type.here ((PySem.W.looks_findIn I.kIn dn.at_).here (wpAny_holding (wpAny_bind ((PySem.W.bind_fn I.kIn _ (beq_iff_eq.mp dn.fn)).here ?_)))))))
  show wpAny _ _ (if (Value.ref f == .none) = true then _ else _) _ _ _
  rw [if_neg (by simp)]
  have e : ∃ b S1, h [dy, dx] [] S = .ok (.bl b) S1 ∧ VQ X.K W Q E0 (.ok (.bl (b != neg)) S1) := by
    unfold conD at q
    split at q
    · rename_i b S1 e
      exact ⟨b, S1, e, q⟩
    · exact q.elim
  obtain ⟨b, S1, e, q⟩ := e
  refine wpAny_bind (wpAny_mono (F.wp (E' := X.xe) (Q := fun v H' => v = .bl b ∧ Q (.bl (b != neg)) H') (.inl rfl) I sr (repL_cons ry (repL_cons rx repL_nil)) (.cons rfl (.cons vx .nil)) ?_) (fun r s' hr => ?_) fun _ _ z => z)
  · rw [e]
    intro W' v l s' r
    exact ⟨by simpa [Rep] using r, q W' _ l s' (rep_blI _)⟩
  · obtain ⟨w, H', I', rw', rfl, q'⟩ := hr
    obtain rfl : r = Value.bool b := rw'
    exact wpAny_pure (wpAny_pure ⟨.bl (b != neg), H', I', rfl, q'⟩)
theorem op_inO {h : List D → List D → Store → Res D} (dn : Dun X.K C "__contains__" f) (F : Own X C f h) (hu : X.A.units + 70 < cLine) : OpS X (compareOp .In) (ownOr C (conD h false) gIn) := ⟨fun pins s σ H x y u v Q I vx vy ⟨W, S, dx, dy, eH, sr, rx, ry, q⟩ => by
  subst eH
  unfold ownOr at q
  cases hi : insOf S dy with
  | none =>
    rw [hi] at q
    exact (opS_of (op_inK hu)).p pins s σ W.H x y u v Q I vx vy ⟨W, S, dx, dy, rfl, sr, rx, ry, q⟩
  | some t =>
    obtain ⟨C', ks, xs⟩ := t
    rw [hi] at q
    by_cases hc : C' = C
    · subst hc
      simp only [if_true] at q
      refine wpAny_bind (wpAny_mono (con_go dn F I sr rx ry vx vy hi q) (fun b s' z => wpAny_pure ?_) fun _ _ z => z)
      cases b <;> exact z
    · simp only [if_neg hc] at q
      exact q.elim⟩
theorem op_notInO {h : List D → List D → Store → Res D} (dn : Dun X.K C "__contains__" f) (F : Own X C f h) (hu : X.A.units + 70 < cLine) : OpS X (compareOp .NotIn) (ownOr C (conD h true) gNotIn) := ⟨fun pins s σ H x y u v Q I vx vy ⟨W, S, dx, dy, eH, sr, rx, ry, q⟩ => by
  subst eH
  unfold ownOr at q
  cases hi : insOf S dy with
  | none =>
    rw [hi] at q
    exact (opS_of (op_notInK hu)).p pins s σ W.H x y u v Q I vx vy ⟨W, S, dx, dy, rfl, sr, rx, ry, q⟩
  | some t =>
    obtain ⟨C', ks, xs⟩ := t
    rw [hi] at q
    by_cases hc : C' = C
    · subst hc
      simp only [if_true] at q
      refine wpAny_bind (wpAny_mono (con_go dn F I sr rx ry vx vy hi q) (fun b s' z => wpAny_pure ?_) fun _ _ z => z)
      cases b <;> exact z
    · simp only [if_neg hc] at q
      exact q.elim⟩
/-! ### a builtin that asks an own def -/
def rDS (K : PySem.W.Frag) (g : List D → Store → Res D) : List V → Hp → VK → Prop := fun vs H Q => ∃ W S ds, W.H = H ∧ SRep K W S ∧ RepL K W ds vs ∧ VQ K W Q E0 (g ds S)
structure CallS (X : Cx) (f : Value) (g : List D → Store → Res D) : Prop where
  p : CallR X f (rDS X.K g)
def callSE (g : List D → Store → Res D) (ml : EM (List D)) : EM D := fun st S => (ml st S).bind fun ds S1 => (g ds S1).noE
theorem de_callBS {id : String} {x : Str} {p : Pos} {es : List Expr} {ml : EM (List D)} {g : List D → Store → Res D} (hc : CallS X (.builtin id) g) (hg : Gl X x) (hm : X.mg x = none) (hv : bootBuiltins x = some (.builtin id)) (ha : DA X Wx (e :: es) ml) (hn : x ≠ "__name__" := by decide) (hdb : (x == ("__debug__" : Str)) = false := by decide)
    (he : starEach (e :: es) X.env = (false, eval e X.env) :: starEach es X.env := by rfl) (hpl : (backTo pos (starEach es X.env)).any (·.1) = false := by rfl) : DE X Wx (.Call (.Name x p) (e :: es) [] pos) (callSE g ml) :=
  de_of (pe_callB hc.p hg hm hv ha.p hn hdb he hpl) fun W st S σ Q at_ q => goAE at_ q fun W1 ds S1 vs l a1 r q1 => ⟨W1, S1, ds, rfl, a1.s, r, VQ.noE q1⟩
theorem callS_of {f : Value} {g : List D → Store → Option (D × Store)} (h : CallD X f g) : CallS X f (fun ds S => .of2 (g ds S)) :=
  ⟨callR_imp h.p fun vs H Q ⟨W, S, ds, e, sr, r, q⟩ => by
    obtain ⟨d, S', e1, k⟩ := of2_go q
    exact ⟨W, S, ds, d, S', e, sr, r, e1, k⟩⟩
def lenD (C : Addr) (h : List D → List D → Store → Res D) : List D → Store → Res D := fun ds S => match ds with
  | [x] => match insOf S x with
    | some (C', _, _) => if C' = C then (match h [x] [] S with
      | .ok (.int n) S1 => if 0 ≤ n ∧ n < 2 ^ 63 then .ok (.int n) S1 else .bad
      | _ => .bad) else .bad
    | none => .of2 (g1 gLen ds S)
  | _ => .bad
theorem call_lenO {h : List D → List D → Store → Res D} (dn : Dun X.K C "__len__" f) (F : Own X C f h) : CallS X (.builtin "len") (lenD C h) := ⟨fun pins s σ H xs us Q I rv ⟨W, S, ds, eH, sr, rl, q⟩ => by
  subst eH
  match ds, q with
  | [], q => exact q.elim
  | _ :: _ :: _, q => exact q.elim
  | [x], q =>
    unfold lenD at q
    simp only at q
    cases hi : insOf S x with
    | none =>
      rw [hi] at q
      exact (callS_of call_lenK).p pins s σ W.H xs us Q I rv ⟨W, S, [x], rfl, sr, rl, q⟩
    | some t =>
      obtain ⟨C', ks, ys⟩ := t
      rw [hi] at q
      by_cases hc : C' = C
      · subst hc
        simp only [if_true] at q
        obtain ⟨v, rfl, rx⟩ := repL_1 rl
        obtain ⟨a, dd, vs, rfl, ha, hz, _⟩ := insOf_rep sr rx hi
        obtain ⟨u, rfl, ru⟩ : ∃ u, us = [u] ∧ RelV (.ref a) u := by
          cases rv with
          | cons h1 h2 => cases h2; exact ⟨_, rfl, h1⟩
        obtain rfl : u = Value.ref a := ru
        obtain ⟨ox, od, J⟩ := inst_at I ha
        have e : ∃ n S1, h [x] [] S = .ok (.int n) S1 ∧ (0 ≤ n ∧ n < 2 ^ 63) ∧ VQ X.K W Q E0 (.ok (.int n) S1) := by
          split at q
          · rename_i n S1 e
            split at q
            · rename_i hn
              exact ⟨n, S1, e, hn, q⟩
            · exact q.elim
          · exact q.elim
        obtain ⟨n, S1, e, hn, q⟩ := e
        have R := F.wp (E' := X.xe) (Q := fun v H' => v = .int n ∧ Q (.int n) H') (.inr rfl) I sr (repL_cons rx repL_nil) (Paired.cons (show RelV (.ref a) (Value.ref a) from rfl) .nil) (by
          rw [e]
          intro W' v l s' r
          exact ⟨rep_i r, q W' _ l s' rep_iI⟩)
        refine PySem.Calls.call_function_entry (id := "len") PySem.kind_len PySem.plain_len PySem.entry_len (PySem.args_len1 _) ?_
        unfold PySem.Builtin.«len»
        refine wpAny_bind (m := PySem.oneArg "len" _) (wpAny_pure (wpAny_bind (m := callSpecial? (.ref a) (Str.ofString "__len__")) (PySem.W.special_fn I.kIn J dn.at_ (beq_iff_eq.mp dn.fn) (wpAny_mono R (fun r s' hr => ?_) fun _ _ y => y))))
        obtain ⟨w, H', I', rw', rfl, q'⟩ := hr
        obtain ⟨tk, rfl⟩ : ∃ t, r = Value.int n t := rw'
        refine wpAny_bind (wpAny_holding (wpAny_pure (wpAny_bind (wpAny_letGo ?_))))
        show wpAny _ _ (if n < 0 then _ else if n ≥ 2 ^ 63 then _ else _) _ _ _
        rw [if_neg (by omega), if_neg (by omega)]
        refine wpAny_bind (wpAny_mkInt (wpAny_pure ?_))
        exact ⟨_, rfl, ⟨.int n, H', I'.tok _, ⟨_, rfl⟩, q'⟩⟩
      · simp only [if_neg hc] at q
        exact q.elim⟩
end
end KF

set_option Elab.async false
set_option linter.all false
set_option maxRecDepth 100000
set_option maxHeartbeats 4000000
/-! KFM: storing a field; making an instance. -/
namespace KF
open PySem PySem.Spec PyProof.Rows L2
def putD (fn : Str) (d : D) : List Str → List D → List Str × List D
  | k :: ks, x :: xs => if k = fn then (k :: ks, d :: xs) else (k :: (putD fn d ks xs).1, x :: (putD fn d ks xs).2)
  | _, _ => ([fn], [d])
theorem putD_rep {K : PySem.W.Frag} {W : Wd} {fn : Str} {d : D} {v : V} (r : Rep K W d v) : ∀ {ks : List Str} {xs : List D} {vs : List V}, ks.length = vs.length → RepL K W xs vs →
    ∃ vs', putF fn v (ks.zip vs) = (putD fn d ks xs).1.zip vs' ∧ (putD fn d ks xs).1.length = vs'.length ∧ RepL K W (putD fn d ks xs).2 vs' ∧ (putD fn d ks xs).1.length ≤ ks.length + 1
  | [], xs, vs, hl, rl => by
    have : vs = [] := List.eq_nil_of_length_eq_zero hl.symm
    subst this
    exact ⟨[v], by simp [putD, putF], by simp [putD], by simp only [putD]; exact repL_cons r repL_nil, by simp [putD]⟩
  | k :: ks, [], vs, hl, rl => by
    simp only [RepL] at rl
    subst rl
    simp at hl
  | k :: ks, x :: xs, vs, hl, rl => by
    simp only [RepL] at rl
    obtain ⟨u, us, rfl, r1, r2⟩ := rl
    by_cases h : k = fn
    · exact ⟨v :: us, by simp [putD, putF, h], by simpa [putD, h] using hl, by simp only [putD, h, if_true]; exact repL_cons r r2, by simp [putD, h]⟩
    · obtain ⟨vs', q1, q2, q3, q4⟩ := putD_rep (fn := fn) r (ks := ks) (xs := xs) (vs := us) (by simpa using hl) r2
      exact ⟨u :: vs', by simp [putD, putF, h, q1], by simp [putD, h, q2], by simp only [putD, h, if_false]; exact repL_cons r1 q3, by simp [putD, h]; omega⟩
def mutI (S : Store) : D → Option (Nat × Addr × List Str × List D)
  | .cell n => match S[n]? with
    | some (.ins C ks xs) => some (n, C, ks, xs)
    | _ => none
  | _ => none
theorem mutI_rep {K : PySem.W.Frag} {W : Wd} {S : Store} {d : D} {v : V} {n : Nat} {C : Addr} {ks : List Str} {xs : List D} (s : SRep K W S) (r : Rep K W d v) (h : mutI S d = some (n, C, ks, xs)) : ∃ a dx vs, v = .ref a ∧ W.N[n]? = some a ∧ W.M a ∧ W.H a = some (.ins C dx (ks.zip vs)) ∧ ks.length = vs.length ∧ RepL K W xs vs := by
  cases d <;> simp only [mutI] at h <;> try cases h
  simp only [Rep] at r
  obtain ⟨a, rfl, h2⟩ := r
  split at h <;> cases h
  rename_i hs
  obtain ⟨dx, vs, q1, q2, q3, q4⟩ := s.at_ _ _ _ h2 hs
  exact ⟨a, dx, vs, rfl, h2, q2, q1, q3, q4⟩
def fsetD (C : Addr) (fn : Str) (x d : D) (st : DSt) (S : Store) : SRes := match mutI S x with
  | some (n, C', ks, xs) => if C' = C ∧ ks.length < 900 then .nx st (S.set n (.ins C (putD fn d ks xs).1 (putD fn d ks xs).2)) else .bad
  | none => .bad
def fsetS (C : Addr) (fn : Str) (mo me : EM D) : SM := exS me fun d st S => exS mo (fun x st S => fsetD C fn x d st S) st S
section
variable {X : Cx} {Wx : WX} {C f : Addr} {a b e o : Expr} {ma mb me mo : EM D} {pos pos' apos : Pos}
theorem ds_fset {fn : Str} (c : Cls X.K C) (nn : NoAttr X.K C fn) (ho : DE X Wx o mo) (he : DE X Wx e me) (hs : swapsWith e (some (.Attribute o fn pos')) pos.line X.env = pure false := by rfl) : DS X Wx (.Assign [.Attribute o fn pos'] e pos) (fsetS C fn mo me) := by
  refine ds_of (ps_fld ho.p he.p hs) fun W st S σ D at_ q => ?_
  refine goS at_ q fun W1 d S1 v l1 a1 r1 q1 => ?_
  refine goS (f := fun x S2 => fsetD C fn x d st S2) a1 q1 fun W2 x S2 xv l2 a2 r2 q2 => ?_
  unfold fsetD at q2
  cases h : mutI S2 x with
  | none => rw [h] at q2; exact q2.elim
  | some t =>
    obtain ⟨n, C', ks, xs⟩ := t
    rw [h] at q2
    simp only at q2
    split at q2
    · rename_i hc
      obtain ⟨rfl, hlen⟩ := hc
      obtain ⟨p, dx, vs, rfl, h2, h3, h4, h5, h6⟩ := mutI_rep a2.s r2 h
      obtain ⟨vs', z1, z2, z3, z4⟩ := putD_rep (r1.mono l2 _ _) (fn := fn) h5 h6
      have l := Wd.wr_le (W := W2) (o := .ins C' dx (putF fn v (ks.zip vs))) (b := True) h3 (a2.s.nl h2)
      refine ⟨p, C', dx, _, rfl, h4, c, nn, ?_, ?_⟩
      · rw [List.length_zip, ← h5, Nat.min_self]; omega
      · refine q2 (W2.wr p (.ins C' dx (putF fn v (ks.zip vs))) True) σ l (a2.s.wr h2 h3 ⟨dx, vs', ?_, ⟨h3, fun _ => trivial⟩, z2, z3.mono l _ _⟩) (a2.e.mono l)
        show upd W2.H p _ p = _
        rw [upd_same, z1]
    · exact q2.elim
/-! ### making an instance -/
/-- a new instance, filled by __init__; kept open -/
def mkC (C : Addr) (m : List D → List D → Store → Res D) : List D → List D → Store → Res D := fun ds es S => match m (.cell S.length :: ds) es (S ++ [.ins C [] []]) with
  | .ok .non S' => .ok (.cell S.length) S'
  | .err e S' => .err e S'
  | _ => .bad
/-- .. and never changed again -/
def frzI (C : Addr) (n : Nat) (S' : Store) : Res D := match S'[n]? with
  | some (.ins C' ks xs) => if C' = C then .ok (.ins C ks xs) (S'.set n (.fins C ks xs)) else .bad
  | _ => .bad
def mkF (C : Addr) (m : List D → List D → Store → Res D) : List D → List D → Store → Res D := fun ds es S => match m (.cell S.length :: ds) es (S ++ [.ins C [] []]) with
  | .ok .non S' => frzI C S.length S'
  | .err e S' => .err e S'
  | _ => .bad
variable {k : Nat} {fd : FuncData} {ps ks : List Str} {m : List D → Store → Res D} {nP : Nat} {gD : List D → List D → List D}
theorem mk_guards {A : Around} {us : List Value} {kw : List (Str × Value)} : (A.under (.builtin "type.__call__" ⟨.ref C :: us, kw⟩)).guards = A.guards := by
  first | rfl | (simp [Around.under, Code.guards, Code.isGuard, guardIds]; done) | skip
/-- a world with a new instance -/
def Wd.inst (W : Wd) (C dx x : Addr) : Wd := (W.put dx (.own x)).cel x (.ins C dx [])
theorem mk_run {pins : List (Addr × Obj)} {σ : St} {s : Shared} {W : Wd} {S : Store} {ds es : List D} {vs zs : List V} {us ws : List Value} {Q : VK} (M : Mk X.K C f) (F : FnG X.prog X.w X.K X.mg X.base k f fd ps (spD X.K m ps.length)) (hr : Room (k + 1) X.A) (gd : X.A.guards = some []) (tk : Takes X Wx) (b : BD X.K fd ps ks (nP + 1) gD)
    (I : Inv X pins σ W.H s) (sr : SRep X.K W S) (rd : RepL X.K W ds vs) (re : RepL X.K W es zs) (rv : Vals vs us) (rz : Vals zs ws)
    (q : ∀ dx x, x ≠ dx → W.H dx = none → W.H x = none → W.le (W.inst C dx x) → Rep X.K (W.inst C dx x) (.cell S.length) (.ref x) → VQ X.K (W.inst C dx x) (fun v H2 => v = .non ∧ Q (.ref x) H2) (fun c d H' => Wx c d σ H') (bnd (nP + 1) ks.length gD m (.cell S.length :: ds) es (S ++ [.ins C [] []]))) :
    wpAny (model X.prog X.w) X.A (call (.ref C) us (ks.zip ws)) (EP X pins σ Q) X.xe s := by
  have n1 : W.H s.heap.objs.size = none := I.hok.fresh (Nat.le_refl _)
  have n2 : W.H (s.heap.objs.size + 1) = none := I.hok.fresh (Nat.le_succ _)
  have I2 := Inv.made (C := C) I
  generalize hx : s.heap.objs.size + 1 = x at I2 n2
  generalize hd : s.heap.objs.size = dx at I2 n1
  have ne : x ≠ dx := by omega
  have n2' : (W.put dx (.own x)).H x = none := by show upd W.H dx _ x = none; rw [upd_ne ne]; exact n2
  have l1 : W.le (W.put dx (.own x)) := Wd.put_le n1
  have l2 : W.le (W.inst C dx x) := l1.trans (Wd.cel_le n2')
  have sr1 : SRep X.K (W.inst C dx x) (S ++ [.ins C [] []]) := (sr.put n1).cel n2' ⟨dx, [], upd_same, .inr rfl, rfl, repL_nil⟩
  have rself : Rep X.K (W.inst C dx x) (.cell S.length) (.ref x) := by
    simp only [Rep]
    refine ⟨x, rfl, ?_⟩
    show (W.N ++ [x])[S.length]? = some x
    rw [← sr.len, List.getElem?_append_right (Nat.le_refl _), Nat.sub_self]
    rfl
  have q := q dx x ne n1 n2 l2 rself
  unfold bnd at q
  split at q
  · rename_i hl
    obtain ⟨us', vs', b1, b2, b3⟩ := b.to { s with heap := (s.heap.push PySem.W.emptyDict).push (PySem.W.instObj C dx) } _ (.cell S.length :: ds) es (.ref x :: vs) zs (.ref x :: us) ws I2.kIn (repL_cons rself (rd.mono l2 _ _)) (re.mono l2 _ _) (.cons rfl rv) rz hl.1 hl.2
    have sp : spD X.K m ps.length vs' (W.inst C dx x).H (fun v H2 => v = .non ∧ Q (.ref x) H2) (fun c d H' => Wx c d σ H') := ⟨_, _, _, rfl, sr1, b3, b.len _ _ hl.1 hl.2, q⟩
    have R := F.run (X.A.under (.builtin "type.__call__" ⟨.ref C :: us, ks.zip ws⟩)) X.stack _ _ ⟨Value.ref x :: us, ks.zip ws⟩ us' vs' _ _ (mk_guards.trans gd) (hr.make C us (ks.zip ws)) (I2.env0.make C us (ks.zip ws)) b1 b2 sp
    subst hd hx
    refine wpAny_call (make_map (f := f) I.kIn M.makes M.init (beq_iff_eq.mp M.fn) (codeAny_mono R fun r s' hq => ?_))
    match r, hq with
    | .error e, hq => exact passAt tk σ pins _ _ e s' I2 hq
    | .ok (.ret u), hq =>
      obtain ⟨v, H', I3, rv, ev, q3⟩ := I2.after hq
      subst ev
      exact ⟨rv, ⟨V.ref (s.heap.objs.size + 1), H', I3, rfl, q3⟩⟩
    | .ok .next, hq => exact False.elim hq
    | .ok .brk, hq => exact False.elim hq
    | .ok .cont, hq => exact False.elim hq
  · exact q.elim
theorem cal_mkC (M : Mk X.K C f) (F : FnG X.prog X.w X.K X.mg X.base k f fd ps (spD X.K m ps.length)) (hr : Room (k + 1) X.A) (gd : X.A.guards = some []) (tk : Takes X Wx) (b : BD X.K fd ps ks (nP + 1) gD) : CalD X Wx (.ref C) ks (mkC C (bnd (nP + 1) ks.length gD m)) :=
  ⟨fun pins σ s W S ds es vs zs us ws Q I sr rd re rv rz q => mk_run M F hr gd tk b I sr rd re rv rz fun dx x ne n1 n2 l2 rself => by
    unfold mkC at q
    generalize bnd (nP + 1) ks.length gD m (.cell S.length :: ds) es (S ++ [.ins C [] []]) = r at q
    match r, q with
    | .ok .non S', q => exact fun W' v l s' r => ⟨by simpa [Rep] using r, q W' _ (l2.trans l) s' (Rep.mono l _ _ rself)⟩
    | .err e S', q => exact fun W' od l s' r => q W' od (l2.trans l) s' r⟩
theorem cal_mkF (M : Mk X.K C f) (F : FnG X.prog X.w X.K X.mg X.base k f fd ps (spD X.K m ps.length)) (hr : Room (k + 1) X.A) (gd : X.A.guards = some []) (tk : Takes X Wx) (b : BD X.K fd ps ks (nP + 1) gD) : CalD X Wx (.ref C) ks (mkF C (bnd (nP + 1) ks.length gD m)) :=
  ⟨fun pins σ s W S ds es vs zs us ws Q I sr rd re rv rz q => mk_run M F hr gd tk b I sr rd re rv rz fun dx x ne n1 n2 l2 rself => by
    unfold mkF at q
    generalize bnd (nP + 1) ks.length gD m (.cell S.length :: ds) es (S ++ [.ins C [] []]) = r at q
    match r, q with
    | .ok .non S', q =>
      intro W' v l s' r
      refine ⟨by simpa [Rep] using r, ?_⟩
      unfold frzI at q
      cases hS : S'[S.length]? with
      | none => simp only [hS] at q; exact q.elim
      | some c =>
        cases c <;> simp only [hS] at q <;> try exact q.elim
        split at q
        · rename_i C' ks' xs hc
          subst hc
          have hN : W'.N[S.length]? = some x := by
            have := Rep.mono l _ _ rself
            simp only [Rep] at this
            obtain ⟨a, e1, e2⟩ := this
            cases e1
            exact e2
          obtain ⟨dd, vs', h1, h2, h3, h4⟩ := s'.at_ _ _ _ hN hS
          have eH : upd W'.H x (.ins C' dd (ks'.zip vs')) = W'.H := funext fun y => by
            by_cases e : y = x
            · subst e; rw [upd_same, h1]
            · rw [upd_ne e]
          have l3 : W'.le (W'.wr x (.ins C' dd (ks'.zip vs')) False) := Wd.wr_le h2 (s'.nl hN)
          have nM : ¬ (W'.wr x (.ins C' dd (ks'.zip vs')) False).M x := fun z => z.2 rfl
          have r4 := RepL.mono l3 _ _ h4
          have Z := q (W'.wr x (.ins C' dd (ks'.zip vs')) False) (.ref x) ((l2.trans l).trans l3) (s'.wr hN h2 ⟨dd, vs', upd_same, nM, h3, r4⟩) (by
            simp only [Rep]
            exact ⟨x, dd, vs', rfl, upd_same, nM, h3, r4⟩)
          have e2 : (W'.wr x (.ins C' dd (ks'.zip vs')) False).H = W'.H := eH
          rw [e2] at Z
          exact Z
        · exact q.elim
    | .err e S', q => exact fun W' od l s' r => q W' od (l2.trans l) s' r⟩
end
end KF

set_option Elab.async false
set_option linter.all false
set_option maxRecDepth 100000
set_option maxHeartbeats 4000000
/-! KFN: repr of data. -/
namespace KF
open PySem PySem.Spec PyProof.Rows L2
mutual
/-- the data as it is shown; n: how deep at most -/
def rpD (S : Store) : Nat → D → Option PyData
  | _, .non => some .none
  | _, .bl b => some (.bool b)
  | _, .int i => some (.int i)
  | _, .str x => some (.str x)
  | n + 1, .tup xs => (rpDs S n xs).map .tuple
  | n + 1, .lst xs => (rpDs S n xs).map .list
  | n + 1, .scr xs => (rpDs S n xs).map .list
  | n + 1, .cell k => match S[k]? with
    | some (.lst xs) => (rpDs S n xs).map .list
    | some (.fro xs) => (rpDs S n xs).map .list
    | _ => none
  | _, _ => none
  termination_by n _ => (n, 0)
def rpDs (S : Store) : Nat → List D → Option (List PyData)
  | _, [] => some []
  | n, x :: xs => match rpD S n x, rpDs S n xs with
    | some d, some ds => some (d :: ds)
    | _, _ => none
  termination_by n xs => (n, xs.length + 1)
end
section
variable {P : Program} {w : World} {K : PySem.W.Frag} {W : Wd} {S : Store} {h : Heap}
theorem rpDs_reads {n : Nat} (ih : ∀ (d : D) (v : V) (u : Value) (p : PyData), rpD S n d = some p → Rep K W d v → RelV v u → (∃ as, Reads h u p as) ∧ p.depth ≤ n ∧ p.hasDict = false) :
    ∀ (ds : List D) (vs : List V) (us : List Value) (ps : List PyData), rpDs S n ds = some ps → RepL K W ds vs → Vals vs us → (∃ as, ReadsAll h us ps as) ∧ PyData.depthAll ps ≤ n ∧ PyData.hasDictAll ps = false
  | [], vs, us, ps, e, r, rv => by
    simp only [rpDs, Option.some.injEq] at e
    simp only [RepL] at r
    subst e r
    cases rv
    exact ⟨⟨_, .nil⟩, by simp [PyData.depthAll], by simp [PyData.hasDictAll]⟩
  | d :: ds, vs, us, ps, e, r, rv => by
    simp only [RepL] at r
    obtain ⟨v, vs', rfl, r1, r2⟩ := r
    cases rv with
    | cons a b =>
      simp only [rpDs] at e
      split at e
      · rename_i p ps' e1 e2
        cases e
        obtain ⟨⟨as, q1⟩, q2, q3⟩ := ih d v _ p e1 r1 a
        obtain ⟨⟨bs, z1⟩, z2, z3⟩ := rpDs_reads ih ds vs' _ ps' e2 r2 b
        exact ⟨⟨_, .cons q1 z1⟩, by simp only [PyData.depthAll]; omega, by simp only [PyData.hasDictAll, q3, z3, Bool.or_self]⟩
      · cases e
theorem rp_list {n : Nat} {x : Addr} {vs : List V} {xs : List D} {p : PyData} (hok : HOk P w W.H h) (KX : K.In h) (ih : ∀ (d : D) (v : V) (u : Value) (p : PyData), rpD S n d = some p → Rep K W d v → RelV v u → (∃ as, Reads h u p as) ∧ p.depth ≤ n ∧ p.hasDict = false)
    (e : (rpDs S n xs).map PyData.list = some p) (q : SqL K W.H x vs) (r : RepL K W xs vs) : (∃ as, Reads h (.ref x) p as) ∧ p.depth ≤ n + 1 ∧ p.hasDict = false := by
  cases e1 : rpDs S n xs with
  | none => rw [e1] at e; cases e
  | some ps =>
    rw [e1] at e
    cases e
    obtain ⟨its, o, k, hv, ho, hc, hd⟩ := sqL_at hok KX q
    obtain ⟨⟨as, z1⟩, z2, z3⟩ := rpDs_reads ih xs vs its ps e1 r hv
    exact ⟨⟨_, .list ho hc hd z1⟩, by simp only [PyData.depth]; omega, by simpa only [PyData.hasDict] using z3⟩
theorem rpD_reads (sr : SRep K W S) (hok : HOk P w W.H h) (KX : K.In h) : ∀ (n : Nat) (d : D) (v : V) (u : Value) (p : PyData), rpD S n d = some p → Rep K W d v → RelV v u → (∃ as, Reads h u p as) ∧ p.depth ≤ n ∧ p.hasDict = false := by
  intro n
  induction n with
  | zero =>
    intro d v u p e r rv
    cases d <;> simp only [rpD] at e <;> try cases e
    all_goals simp only [Rep] at r
    all_goals subst r
    · cases rv; exact ⟨⟨_, .none⟩, by simp [PyData.depth], by simp [PyData.hasDict]⟩
    · cases rv; exact ⟨⟨_, .bool _⟩, by simp [PyData.depth], by simp [PyData.hasDict]⟩
    · obtain ⟨t, rfl⟩ := rv; exact ⟨⟨_, .int _ _⟩, by simp [PyData.depth], by simp [PyData.hasDict]⟩
    · obtain ⟨t, rfl⟩ := rv; exact ⟨⟨_, .str _ _⟩, by simp [PyData.depth], by simp [PyData.hasDict]⟩
  | succ n ih =>
    intro d v u p e r rv
    cases d with
    | non => simp only [rpD] at e; cases e; simp only [Rep] at r; subst r; cases rv; exact ⟨⟨_, .none⟩, by simp [PyData.depth], by simp [PyData.hasDict]⟩
    | bl b => simp only [rpD] at e; cases e; simp only [Rep] at r; subst r; cases rv; exact ⟨⟨_, .bool _⟩, by simp [PyData.depth], by simp [PyData.hasDict]⟩
    | int i => simp only [rpD] at e; cases e; simp only [Rep] at r; subst r; obtain ⟨t, rfl⟩ := rv; exact ⟨⟨_, .int _ _⟩, by simp [PyData.depth], by simp [PyData.hasDict]⟩
    | str x => simp only [rpD] at e; cases e; simp only [Rep] at r; subst r; obtain ⟨t, rfl⟩ := rv; exact ⟨⟨_, .str _ _⟩, by simp [PyData.depth], by simp [PyData.hasDict]⟩
    | tup xs =>
      simp only [rpD] at e
      obtain ⟨a, vs, rfl, q, rl⟩ := asT_rep r (show asT (.tup xs) = some xs from rfl)
      cases rv
      cases e1 : rpDs S n xs with
      | none => rw [e1] at e; cases e
      | some ps =>
        rw [e1] at e
        cases e
        obtain ⟨its, o, k, hv, ho, hc, hd⟩ := sqT_at hok KX q
        obtain ⟨⟨as, z1⟩, z2, z3⟩ := rpDs_reads ih xs vs its ps e1 rl hv
        exact ⟨⟨_, .tuple ho hc hd z1⟩, by simp only [PyData.depth]; omega, by simpa only [PyData.hasDict] using z3⟩
    | lst xs =>
      simp only [rpD] at e
      obtain ⟨a, vs, rfl, q, rl⟩ := asL_rep sr r (show asL S (.lst xs) = some xs from rfl)
      cases rv
      exact rp_list hok KX ih e q rl
    | scr xs =>
      simp only [rpD] at e
      obtain ⟨a, vs, rfl, q, rl⟩ := asL_rep sr r (show asL S (.scr xs) = some xs from rfl)
      cases rv
      exact rp_list hok KX ih e q rl
    | cell k =>
      simp only [rpD] at e
      have : ∃ xs, asL S (.cell k) = some xs ∧ (rpDs S n xs).map PyData.list = some p := by
        simp only [asL]
        split at e
        · rename_i xs h; first | exact ⟨xs, rfl, e⟩ | (rw [h]; exact ⟨xs, rfl, e⟩)
        · rename_i xs h; first | exact ⟨xs, rfl, e⟩ | (rw [h]; exact ⟨xs, rfl, e⟩)
        · cases e
      obtain ⟨xs, e1, e2⟩ := this
      obtain ⟨a, vs, rfl, q, rl⟩ := asL_rep sr r e1
      cases rv
      exact rp_list hok KX ih e2 q rl
    | dct _ _ => simp [rpD] at e
    | ty _ => simp [rpD] at e
    | obj _ => simp [rpD] at e
    | ins _ _ _ => simp [rpD] at e
/-- repr of such a value -/
theorem repr_data {A : Around} {E : Value → Shared → Prop} {s : Shared} {Q : Value → Shared → Prop} {u : Value} {p : PyData} {as : List Addr} (r : Reads s.heap u p as) (hd : p.hasDict = false) (hs : p.showable = true) (hg : A.guards = some []) (hu : A.units + p.depth + 2 < cLine) (hz : p.shown.length ≤ sizeLine)
    (hq : ∀ h' k t, (∀ b o, s.heap.get? b = some o → h'.get? b = some o) → Q (.str p.shown k) { s with heap := h', toks := t }) : wpAny (model P w) A (call (.builtin "repr") [u]) Q E s := by
  have hg1 : A.in1.guards = some [] := hg
  have u1 : A.in1.units = A.units + 1 := rfl
  cases r with
  | none => exact PySem.P.repr_of_none (by simpa [PyData.shown] using hq s.heap _ _ fun _ _ e => e)
  | bool b => exact PySem.P.repr_of_bool (by simpa [PyData.shown] using hq s.heap _ _ fun _ _ e => e)
  | int i t => exact PySem.P.repr_of_int (by simpa [PyData.showable] using hs) (by simpa [PyData.shown] using hq s.heap _ _ fun _ _ e => e)
  | str x t => exact PySem.P.repr_of_str (by simpa [PyData.shown] using hq s.heap _ _ fun _ _ e => e) (by simpa [PyData.shown] using hz)
  | @list a o vs n xs as h1 h2 h3 h4 =>
    simp only [PyData.shown] at hz hq
    simp only [PyData.depth] at hu
    simp only [PyData.showable] at hs
    simp only [PyData.hasDict] at hd
    obtain ⟨bs, hb, hk⟩ := ReprAllK.of_readsAll (prog := P) (w := w) h4 hs (fun z => by rw [hd] at z; cases z) fun t ht => Nat.le_trans (listText_mem_le ht) hz
    have nm : a ∉ bs := not_mem_of_deeper (Reads.list h1 h2 h3 h4) (n := PyData.depthAll xs) (by simp only [PyData.depth]; exact Nat.lt_succ_self _) hb
    refine call_repr_slot (by omega) ⟨o, h1, h2⟩ F.slot_list_repr.toG ?_
    obtain ⟨l⟩ := vs
    cases l with
    | nil =>
      have : xs = [] := by cases h4; rfl
      subst this
      refine call_list_repr_empty ⟨o, h1, h2⟩ h1 h3 ?_
      simp only [PyData.shownAll, listText_nil] at hq
      exact ⟨_, _, rfl, hq s.heap _ _ fun _ _ e => e⟩
    | cons y l => exact call_list_reprK h1 h2 h3 nm (by simpa using hk.length_eq) (fun i y e => hk.item i y (by simpa using e)) hg1 (fun b _ => Clear.nil b) (by omega) (fun _ _ e => e) (fun h' u t hk' => ⟨_, _, rfl, hq h' _ _ hk'⟩) hz
  | @tuple a o vs n xs as h1 h2 h3 h4 =>
    simp only [PyData.shown] at hz hq
    simp only [PyData.depth] at hu
    simp only [PyData.showable] at hs
    simp only [PyData.hasDict] at hd
    obtain ⟨bs, hb, hk⟩ := ReprAllK.of_readsAll (prog := P) (w := w) h4 hs (fun z => by rw [hd] at z; cases z) fun t ht => Nat.le_trans (tupleText_mem_le ht) hz
    have nm : a ∉ bs := not_mem_of_deeper (Reads.tuple h1 h2 h3 h4) (n := PyData.depthAll xs) (by simp only [PyData.depth]; exact Nat.lt_succ_self _) hb
    refine call_repr_slot (by omega) ⟨o, h1, h2⟩ F.slot_tuple_repr ?_
    exact call_tuple_reprK h1 h2 h3 nm hk hg1 (fun b _ => Clear.nil b) (by omega) (fun _ _ e => e) (fun h' u t hk' => ⟨_, _, rfl, hq h' _ _ hk'⟩) hz
  | dict h1 h2 h3 h4 h5 => simp [PyData.hasDict] at hd
end
def gRepr (x : D) (S : Store) : Option D := match rpD S 40 x with
  | some p => if p.showable = true ∧ p.shown.length ≤ sizeLine then some (.str p.shown) else none
  | none => none
theorem call_reprK {X : Cx} (gd : X.A.guards = some []) (hu : X.A.units + 64 < cLine) : CallD X (.builtin "repr") (g1 gRepr) := ⟨fun pins s σ H xs us Q I rv ⟨W, S, ds, d, S', eH, sr, rl, eg, q⟩ => by
  subst eH
  match ds, eg with
  | [], eg => cases eg
  | _ :: _ :: _, eg => cases eg
  | [x], eg =>
    unfold g1 gRepr at eg
    obtain ⟨v, rfl, rx⟩ := repL_1 rl
    obtain ⟨u, rfl, ru⟩ : ∃ u, us = [u] ∧ RelV v u := by
      cases rv with
      | cons h1 h2 => cases h2; exact ⟨_, rfl, h1⟩
    cases e1 : rpD S 40 x with
    | none => simp only [e1] at eg; cases eg
    | some p =>
      simp only [e1] at eg
      split at eg
      · rename_i hp
        simp only [Option.map_some, Option.some.injEq, Prod.mk.injEq] at eg
        obtain ⟨rfl, rfl⟩ := eg
        obtain ⟨⟨as, q1⟩, q2, q3⟩ := rpD_reads sr I.hok I.kIn 40 x v u p e1 rx ru
        refine repr_data q1 q3 hp.1 gd (by omega) hp.2 fun h' k t hk => ?_
        exact ⟨.str p.shown, W.H, I.kept (t' := t) hk, ⟨_, rfl⟩, q W _ (.refl W) sr rep_sI⟩
      · cases eg⟩
end KF

set_option Elab.async false
set_option linter.all false
set_option maxRecDepth 100000
set_option maxHeartbeats 4000000
/-! KFO: the law's row from the denotation of its def. -/
namespace KF
open PySem PySem.Spec PyProof.Rows L2
/-- what the law's def does at each script -/
def LawTrue (m : List D → Store → Res D) (n : Nat) : Prop := ∀ ns : List Int, ns.length ≤ n → ∃ S, m [.scr (ns.map D.int)] [] = .ok (.bl true) S
theorem rep_ints {K : PySem.W.Frag} {W : Wd} : ∀ ns : List Int, RepL K W (ns.map D.int) (ns.map V.int)
  | [] => repL_nil
  | n :: ns => repL_cons rep_iI (rep_ints ns)
section
variable {P : Program} {w : World} {K : PySem.W.Frag} {mg mb : Str → Option Value} {k : Nat} {fa p : Addr} {fd : FuncData} {x : Str} {m : List D → Store → Res D} {t : Shared} {us : List Value} {ns : List Int} {n : Nat}
def RowEnd (t : Shared) : Result → Shared → Prop := fun r t' => r = .ok (.ret (.bool true)) ∧ OldK t.heap t'.heap ∧ t'.os = t.os ∧ AllBare t'.gens
/-- a heap in which the script may be tracked, and nothing else -/
structure Scr (P : Program) (w : World) (K : PySem.W.Frag) (t : Shared) (p : Addr) (ns : List Int) (B : Hp) : Prop where
  sq : SqL K B p (ns.map V.int)
  ok : HOk P w B t.heap
  only : ∀ b u, B b = some u → b = p ∧ K.lookup p = none ∧ ∃ o xs, u = .frz o (.lst xs)
theorem Scr.no {B : Hp} (sc : Scr P w K t p ns B) (hp : t.heap.get? p = some { cls := .type "list", data := .seq us.toArray }) {b : Addr} {o : Obj} (e : t.heap.get? b = some o) (h : ∀ vs n, o.data ≠ .seq vs n) : B b = none := by
  match q : B b with
  | none => rfl
  | some u =>
    obtain ⟨rfl, _, _⟩ := sc.only b u q
    rw [hp] at e
    cases e
    exact (h _ _ rfl).elim
theorem Scr.names {B : Hp} (sc : Scr P w K t p ns B) (hp : t.heap.get? p = some { cls := .type "list", data := .seq us.toArray }) {b : Addr} {mm : Str → Option Value} (q : t.heap.Ns b mm) : (hidT t.heap B).Ns b mm := by
  obtain ⟨o, es, ep, e, d, r⟩ := q
  exact ⟨o, es, ep, hidT_get e (sc.no hp e fun vs n z => by rw [d] at z; cases z), d, r⟩
theorem Scr.kin {B : Hp} (sc : Scr P w K t p ns B) (KX : K.In t.heap) : K.In (hidT t.heap B) := fun b o e => by
  refine hidT_get (KX b o e) ?_
  match q : B b with
  | none => rfl
  | some u =>
    obtain ⟨rfl, z, _⟩ := sc.only b u q
    rw [z] at e
    cases e
theorem row_at {B : Hp} (sc : Scr P w K t p ns B) (hp : t.heap.get? p = some { cls := .type "list", data := .seq us.toArray }) (KX : K.In t.heap) (h1 : t.heap.Ns mainGlobals mg) (h2 : t.heap.Ns builtinsNs mb) (h3 : ∀ y : Str, y ≠ "__name__" → mb y = bootBuiltins y) (h4 : t.heap.NoLimit) (h5 : t.gens = #[])
    (room : Room k callerA) (F : ∀ base : Heap, K.In base → base.Ns mainGlobals mg → FnG P w K mg base k fa fd [x] (spD K m 1)) (bd : ∀ (s : Shared) (u : Value), BindsTo s fd ⟨[u], []⟩ [(x, u)]) (tr : LawTrue m n) (hl : ns.length ≤ n) :
    codeAny (model P w) callerA (.call (.ref fa) ⟨[.ref p], []⟩) (RowEnd t) t := by
  obtain ⟨lm, l1, l2⟩ := h4
  have kb := sc.kin KX
  have nb := sc.names hp h1
  have e0 : Env0 P w K mg (hidT t.heap B) callerA [] t B :=
    ⟨rfl, ⟨kb, nb, ⟨mb, sc.names hp h2, h3⟩, ⟨lm, sc.names hp l1, l2⟩⟩, fun b o e => of_hidT e, Nat.le_of_eq (hidT_size _ _), trivial, fun b z => absurd (show b ∈ ([] : List Addr) from z) (by simp), sc.ok, .of_eq h5⟩
  obtain ⟨S, e⟩ := tr ns hl
  have sr : SRep K ⟨[], fun _ => False, fun _ => False, B⟩ [] := ⟨rfl, .nil, fun a z => absurd z (by simp), fun a z => z.elim, fun a z => z.elim, fun i a c z => by simp at z⟩
  have rl : RepL K ⟨[], fun _ => False, fun _ => False, B⟩ [.scr (ns.map D.int)] [.ref p] := by
    refine repL_cons ?_ repL_nil
    simp only [Rep]
    refine ⟨p, ns.map V.int, rfl, ?_, rep_ints ns⟩
    rcases sc.sq with z | ⟨o, its, n', q1, q2, q3, q4, q5, q6⟩
    · exact .inl ⟨z, fun z => z⟩
    · exact .inr ⟨o, its, n', q1, q2, fun _ => q3, q4, q5, q6⟩
  have sp : spD K m 1 [V.ref p] B (fun v _ => v = .bl true) E0 := ⟨_, _, [], rfl, sr, rl, rfl, by
    rw [e]
    intro W' v l s r
    simpa [Rep] using r⟩
  refine codeAny_mono ((F _ kb nb).run callerA [] t B ⟨[.ref p], []⟩ [.ref p] [.ref p] _ _ rfl room e0 (bd t (.ref p)) (.cons rfl .nil) sp) fun r t' z => ?_
  match r, z with
  | .error e, z => exact (cx_no z).elim
  | .ok .next, z => exact z.elim
  | .ok .brk, z => exact z.elim
  | .ok .cont, z => exact z.elim
  | .ok (.ret u), ⟨v, B', os, bare, un, ok', r', q⟩ =>
    obtain rfl : v = .bl true := q
    obtain rfl : u = Value.bool true := r'
    refine ⟨rfl, OldK.of_keep fun b o e => ?_, os, bare⟩
    match q : B b with
    | none => exact un.keep b o e q (fun z => absurd (show b ∈ ([] : List Addr) from z) (by simp)) (by simp)
    | some u =>
      obtain ⟨rfl, _, ob, xs, rfl⟩ := sc.only b u q
      have c1 := (sc.ok b _ q).1
      have c2 := (ok' b _ (un.frzs b ob _ q)).1
      rw [e] at c1
      cases c1
      exact c2
theorem row_call (hp : t.heap.get? p = some { cls := .type "list", data := .seq us.toArray }) (hi : IntsAre us ns) (hz : n ≤ sizeLine) (KX : K.In t.heap) (h1 : t.heap.Ns mainGlobals mg) (h2 : t.heap.Ns builtinsNs mb) (h3 : ∀ y : Str, y ≠ "__name__" → mb y = bootBuiltins y) (h4 : t.heap.NoLimit) (h5 : t.gens = #[])
    (room : Room k callerA) (F : ∀ base : Heap, K.In base → base.Ns mainGlobals mg → FnG P w K mg base k fa fd [x] (spD K m 1)) (bd : ∀ (s : Shared) (u : Value), BindsTo s fd ⟨[u], []⟩ [(x, u)]) (tr : LawTrue m n) (hl : ns.length ≤ n) :
    codeAny (model P w) callerA (.call (.ref fa) ⟨[.ref p], []⟩) (RowEnd t) t := by
  have rv : Vals (ns.map V.int) us := vals_ints hi
  have lz : ns.length ≤ sizeLine := Nat.le_trans hl hz
  match hk : K.lookup p with
  | some o =>
    have e := KX p o hk
    rw [hp] at e
    cases e
    have sz : us.toArray.size ≤ sizeLine := by rw [List.size_toArray, hi.length]; exact lz
    exact row_at (B := fun _ => none) ⟨.inr ⟨_, us.toArray, _, hk, rfl, rfl, rfl, sz, rv⟩, fun b u z => absurd z (by simp), fun b u z => absurd z (by simp)⟩ hp KX h1 h2 h3 h4 h5 room F bd tr hl
  | none =>
    have at_ : ∀ {b : Addr} {u : HO}, (if b = p then some (HO.frz { cls := .type "list", data := .seq us.toArray } (.lst (ns.map V.int))) else none) = some u → b = p ∧ u = HO.frz { cls := .type "list", data := .seq us.toArray } (.lst (ns.map V.int)) := fun {b u} z => by
      split at z
      · rename_i e
        cases z
        exact ⟨e, rfl⟩
      · cases z
    refine row_at (B := fun b => if b = p then some (HO.frz { cls := .type "list", data := .seq us.toArray } (.lst (ns.map V.int))) else none) ⟨.inl (.inr ⟨_, if_pos rfl⟩), fun b u z => ?_, fun b u z => ?_⟩ hp KX h1 h2 h3 h4 h5 room F bd tr hl
    · obtain ⟨rfl, rfl⟩ := at_ z
      exact ⟨hp, by rw [List.length_map]; exact lz, us, _, rv, hp⟩
    · obtain ⟨rfl, rfl⟩ := at_ z
      exact ⟨rfl, hk, _, _, rfl⟩
end
/-- the goal that k_head leaves -/
theorem walkG {l : PySem.W.OpenLaw} {n k : Nat} {q : Program} {loose : List Str} {XP : (Str → Option Value) → Heap → Prop} {YP : World → Heap → Prop} {d : DefRec} {K : Params → PySem.W.Frag} {x : Str} (hn : l.most = some n) (hz : n ≤ sizeLine) (hdf : d.params.defaults = []) (room : Room k callerA)
    (hY : ∀ (w : World) (h : Heap), YP w h → (K w.params).In h)
    (F : ∀ (w : World) (mg : Str → Option Value) (fa : Addr) (h : Heap), (K w.params).In h → h.Ns mainGlobals mg → mg d.name = some (.ref fa) →
      ∃ (fd : FuncData) (m : List D → Store → Res D), LawTrue m n ∧ (∀ (s : Shared) (u : Value), BindsTo s fd ⟨[u], []⟩ [(x, u)]) ∧ ∀ base : Heap, (K w.params).In base → base.Ns mainGlobals mg → FnG l.prog w (K w.params) mg base k fa fd [x] (spD (K w.params) m 1)) :
    PySem.W.WalkO q loose XP YP l.row.toRowW d [] (fun f vs => PySem.call f vs) := by
  refine Att.attach_call hn hdf fun w s0 t mg mb fa o pm cd doc p us ns G Y ho hd hcd hmg hp hi hl hg => ?_
  have KX := hY w _ Y
  obtain ⟨fd, m, tr, bd, FF⟩ := F w mg fa _ KX G.T.g hmg
  exact row_call hp hi hz KX G.T.g G.T.b G.T.builtins G.T.nolimit hg room FF bd tr hl
end KF

set_option Elab.async false
set_option linter.all false
set_option maxRecDepth 100000
set_option maxHeartbeats 4000000
/-! KFP: enumerate of a tuple or a list. -/
namespace KF
open PySem PySem.Spec PyProof.Rows L2
theorem meets_enum1 {v : Value} {o : Obj} {HH : Heap → Prop} (B : Begins v o HH) :
    Meets (Builtin.«enumerate.__new__» ⟨[.type "enumerate", v], []⟩) (fun _ R s => HH s.heap ∧
      R (.ok (.ret (.ref (s.heap.push o).objs.size))) { s with heap := (s.heap.push o).push { cls := .type "enumerate", data := .fields #[.none, .bool false, .ref s.heap.objs.size, rawInt 0, .none, .none] } }) :=
  .of_wp fun prog w A R s z => by
    obtain ⟨hp, g, d, tk, os⟩ := s; obtain ⟨z1, z⟩ := z
    have hsub := sub_enumerate
    have go : ∀ {A' : Around} {E : Value → Shared → Prop} {Q : Value → Shared → Prop}, Q (.ref hp.objs.size) ⟨hp.push o, g, d, tk, os⟩ → wpAny (model prog w) A' (pyIter v) Q E ⟨hp, g, d, tk, os⟩ :=
      fun q => B.iter prog w _ _ ⟨hp, g, d, tk, os⟩ _ z1 q
    wp_walk using go
    refine wpAny_stack_any fun st => wpAny_pure ?_
    split
    · rename_i c _ _ _ _ _
      cases (c == Value.type "enumerate")
      all_goals wp_walk using go; exact ⟨_, rfl, z⟩
    · wp_walk using go
      exact ⟨_, rfl, z⟩
theorem call_enum1 {prog : Program} {w : World} {A : Around} {E : Value → Shared → Prop} {s : Shared} {v : Value} {o : Obj} {HH : Heap → Prop} {Q : Value → Shared → Prop} (B : Begins v o HH) (z1 : HH s.heap)
    (z : ∀ h', IsEnum h' (s.heap.objs.size + 1) s.heap.objs.size 0 .none → h'.get? s.heap.objs.size = some o → (∀ b o, s.heap.get? b = some o → h'.get? b = some o) → Q (.ref (s.heap.objs.size + 1)) { s with heap := h' }) :
    wpAny (model prog w) A (call (.type "enumerate") [v]) Q E s := by
  refine callType_new F.called_enumerate (by decide) (F.typeCall_enumerate_1 _) (F.newCall_enumerate_1 _) (fun obj => F.args_object_init_2 obj _) F.entry_enumerate_new (meets_enum1 B) ⟨z1, ?_⟩
  have sz : (s.heap.push o).objs.size = s.heap.objs.size + 1 := Heap.size_push ..
  show _ ∧ _
  rw [sz]
  have he : IsEnum ((s.heap.push o).push { cls := .type "enumerate", data := .fields #[.none, .bool false, .ref s.heap.objs.size, rawInt 0, .none, .none] }) (s.heap.objs.size + 1) s.heap.objs.size 0 .none := by
    have t := Heap.get?_push_size (s.heap.push o) (o := { cls := .type "enumerate", data := .fields #[.none, .bool false, .ref s.heap.objs.size, rawInt 0, .none, .none] }) rfl
    rw [sz] at t
    exact t
  exact ⟨⟨_, he, rfl⟩, z _ he (Heap.get?_push_of_some _ (Heap.get?_push_size _ B.free)) fun b o x => Heap.get?_push_of_some _ (Heap.get?_push_of_some _ x)⟩
/-- the tuple at a holds xs; each turn gives a new pair -/
def IteT (K : PySem.W.Frag) (a : Addr) (xs : List V) : It :=
  ⟨fun i H => SqT K H a xs ∧ i < xs.length, fun i H v H' => ∃ T x, xs[i]? = some x ∧ v = .ref T ∧ H T = none ∧ H' = upd H T (.tup [.int (i : Nat), x]), fun i H => SqT K H a xs ∧ i = xs.length⟩
theorem turn_enumT {P : Program} {w : World} {K : PySem.W.Frag} {elts : List Expr} {kk : Nat} {tpos : Pos} {xs : List V} (a e it : Addr) :
    Turn P w K (.Tuple elts kk tpos) (IteT K a xs) [e, it] e (fun i h => (∃ old, IsEnum h e it ((i : Nat) : Int) old) ∧ h.IsTupleIter it a i ∧ e ≠ it) where
  mem := by simp
  obj := fun i h st b hb => by
    obtain ⟨⟨old, he⟩, ⟨o, ho, hc, hd⟩, _⟩ := st
    rcases (show b = e ∨ b = it by simpa using hb) with rfl | rfl
    · exact ⟨_, he, fun v q => nomatch q⟩
    · exact ⟨o, ho, fun v q => by rw [hd] at q; cases q⟩
  keep := fun i h h' ⟨⟨old, he⟩, hi, hne⟩ k => ⟨⟨old, k e (by simp) _ he⟩, hi.at fun o q => k it (by simp) o q, hne⟩
  item := by
    rintro X rfl rfl rfl hc i pins s σ H E I hf ⟨⟨old, he⟩, hit, hne⟩ ⟨hq, hx⟩
    obtain ⟨its, o, n, rv, ho, hcl, hd⟩ := sqT_at I.hok I.kIn hq
    have hel : e < s.heap.objs.size := Heap.lt_size he
    have hil : it < s.heap.objs.size := by obtain ⟨_, q, _⟩ := hit; exact Heap.lt_size q
    have ha : a ≠ it := fun z => by
      subst z
      obtain ⟨o', q, c', _⟩ := hit
      rw [ho] at q; cases q
      rw [hcl] at c'; simp at c'
    have hae : e ≠ a := fun z => by
      subst z
      have he' : s.heap.get? e = some _ := he
      rw [ho] at he'; cases he'
      simp at hcl
    refine wpAny_pyNext_enum_itemC (Draws.tuple (A := X.A.in1) (I.ok.hd hc) it a ha its.toArray) he ⟨hit, ⟨o, ho, hcl, n, hd⟩⟩ (by simpa [← rv.length] using hx) hne (by simpa using ⟨hne, hae⟩) fun u h' tk hu ho' st' hT hsz hk => ?_
    refine ⟨_, rfl, wpAny_letOwnedTupleGo_enum (s := { s with heap := h', toks := tk + 1 }) ho' fun h'' he' sb => ?_⟩
    have hu' : its[i]? = some u := by simpa using hu
    obtain ⟨x, hxi, ru⟩ : ∃ x, xs[i]? = some x ∧ RelV x u := by
      obtain ⟨u2, h1, h2⟩ := rv.get (List.getElem?_eq_getElem hx)
      rw [hu'] at h1
      cases h1
      exact ⟨_, List.getElem?_eq_getElem hx, h2⟩
    have hT2 : h''.get? s.heap.objs.size = some { cls := .type "tuple", data := .seq #[.int i tk, u] } := (sb.2 _ (Nat.ne_of_gt hel)).trans hT
    have new : ObjOk X.prog X.w (upd H s.heap.objs.size (.tup [.int (i : Nat), x])) h'' s.heap.objs.size (.tup [.int (i : Nat), x]) := ⟨by show 2 ≤ sizeLine; decide, [.int i tk, u], .cons ⟨_, rfl⟩ (.cons ru .nil), ⟨_, hT2, rfl, _, rfl⟩⟩
    have I1 : Inv X pins σ (upd H s.heap.objs.size (.tup [.int (i : Nat), x])) { s with heap := h'', toks := tk + 1 } :=
      I.turnedNew (ch := [e, it]) (fun b ob hb q => (sb.2 b (fun z => hb (by simp [z]))).trans (hk b ob (fun z => hb (by simp [z])) (fun z => hb (by simp [z])) q)) hf (Nat.le_refl _) new
    refine ⟨.ref s.heap.objs.size, _, I1, rfl, ⟨_, x, hxi, rfl, I.hok.fresh (Nat.le_refl _), rfl⟩, ⟨⟨u, ?_⟩, st'.1.at fun o q => (sb.2 it (Ne.symm hne)).trans q, hne⟩, fun b hb => ?_⟩
    · rw [show ((i + 1 : Nat) : Int) = (i : Int) + 1 by omega]
      exact he'
    · have hb' : b < s.heap.objs.size := by
        rcases (show b = e ∨ b = it by simpa using hb) with rfl | rfl
        · exact hel
        · exact hil
      rw [upd_ne (Nat.ne_of_lt hb')]
      exact (hf b hb).1
  done := by
    rintro X rfl rfl rfl hc i pins s σ H E I hf ⟨⟨old, he⟩, hit, hne⟩ ⟨hq, hx⟩
    obtain ⟨its, o, n, rv, ho, hcl, hd⟩ := sqT_at I.hok I.kIn hq
    obtain ⟨f0, f1, f2, f3, f4, f5⟩ := hf it (by simp)
    have ha : a ≠ it := fun z => by
      subst z
      obtain ⟨o', q, c', _⟩ := hit
      rw [ho] at q; cases q
      rw [hcl] at c'; simp at c'
    subst hx
    have hn : its.toArray.size = xs.length := by rw [List.size_toArray, rv.length]
    exact wpAny_pyNext_enum_endD (Draws.tuple (A := X.A.in1) (I.ok.hd hc) it a ha its.toArray) he (by rw [hn]; exact ⟨hit, ⟨o, ho, hcl, n, hd⟩⟩) fun h' eb => ⟨rfl, I.turned (t' := s.toks) (fun b o hb q => eb b o hb q) f0 f1 f3 f4 f5⟩
  self := fun A i s Q E ⟨⟨_, he⟩, _⟩ h => wpAny_pyIter_enum he h
def iEnumT (K : PySem.W.Frag) (ta : TA) : TI := fun σ H R => ta σ H fun vs H1 => ∃ a xs, vs = [.ref a] ∧ SqT K H1 a xs ∧ R (IteT K a xs) H1
theorem pi_enumT {X : Cx} {e : Expr} {ta : TA} {p pos tpos : Pos} {elts : List Expr} {kk : Nat} (hg : Gl X "enumerate") (hm : X.mg "enumerate" = none) (ha : PA X [e] ta) (hs : starEach [e] X.env = [(false, eval e X.env)] := by rfl) :
    PI X (.Tuple elts kk tpos) (.Call (.Name "enumerate" p) [e] [] pos) (iEnumT X.K ta) := ⟨fun pins s σ H R I h => by
  refine Call_ (ld_blt I hg hm boot_enumerate (PyProof.Rows.callWith_type1 (thn (ha.run pos pins s σ H _ I h) ?_) hs rfl))
  rintro us s1 ⟨vs, H1, I1, r1, a, xs, rfl, hq, q⟩
  obtain ⟨u, rfl, ru⟩ : ∃ u, us = [u] ∧ RelV (.ref a) u := by
    cases r1 with
    | cons h1 h2 => cases h2; exact ⟨_, rfl, h1⟩
  obtain rfl : u = Value.ref a := ru
  obtain ⟨its, o, n, rv, ho, hcl, hd⟩ := sqT_at I1.hok I1.kIn hq
  refine call_enum1 (begins_tuple a its.toArray) ⟨o, ho, hcl, n, hd⟩ fun h' he hit hk => wpAny_pyIter_enum he ?_
  have I2 : Inv X pins σ H1 { s1 with heap := h' } := I1.kept (t' := s1.toks) hk
  refine ⟨s1.heap.objs.size + 1, [s1.heap.objs.size + 1, s1.heap.objs.size], _, _, H1, rfl, I2, turn_enumT a (s1.heap.objs.size + 1) s1.heap.objs.size, ⟨⟨.none, he⟩, ⟨_, hit, rfl, rfl⟩, Nat.succ_ne_self _⟩, fun b hb => ?_, q⟩
  have hle : s1.heap.objs.size ≤ b := by
    rcases (show b = s1.heap.objs.size + 1 ∨ b = s1.heap.objs.size by simpa using hb) with rfl | rfl
    · exact Nat.le_add_right _ _
    · exact Nat.le_refl _
  exact I1.fpOk hle (I1.hok.fresh hle)⟩
theorem walk_enumT {K : PySem.W.Frag} {a : Addr} {xs : List V} : Walk (IteT K a xs) xs.length (fun H => SqT K H a xs) (YPair (fun i => some (.int (i : Nat))) (fun i => xs[i]?)) :=
  ⟨fun i _ hi q => ⟨q, hi⟩, fun _ q => ⟨q, rfl⟩, fun i H v H' _ _ ⟨T, x, h0, h1, h2, h3⟩ => ⟨T, .int (i : Nat), x, h1, h2, h3, rfl, h0⟩⟩
/-! ### the data -/
def numD : Nat → List D → List D
  | _, [] => []
  | k, x :: xs => .tup [.int k, x] :: numD (k + 1) xs
theorem numD_len : ∀ (k : Nat) (xs : List D), (numD k xs).length = xs.length
  | _, [] => rfl
  | k, x :: xs => by simp [numD, numD_len (k + 1) xs]
theorem numD_get : ∀ (k : Nat) (xs : List D) (i : Nat), (numD k xs)[i]? = xs[i]?.map fun x => .tup [.int (k + i : Nat), x]
  | _, [], i => by simp [numD]
  | k, x :: xs, 0 => by simp [numD]
  | k, x :: xs, i + 1 => by
    simp only [numD, List.getElem?_cons_succ, numD_get (k + 1) xs i]
    rw [show k + 1 + i = k + (i + 1) by omega]
def seqN (d : D) (S : Store) : Res (List D) := match d with
  | .str _ => .bad
  | d => seqOf d S
def enumE (m : EM D) : EM (List D) := fun st S => (m st S).bind fun d S1 => (seqN d S1).bind fun xs S2 => .ok (numD 0 xs) S2
theorem wk_pairs {K : PySem.W.Frag} {W1 : Wd} {J : It} {vs : List V} {ds : List D} {G : Hp → Prop} (w : Walk J vs.length G (YPair (fun i => some (.int (i : Nat))) (fun i => vs[i]?))) (hq : ∀ W2, W1.le W2 → G W2.H) (r : RepL K W1 ds vs) : Wk K W1 J (numD 0 ds) := by
  refine ⟨G, _, by rw [numD_len, r.length]; exact w, hq, fun W2 S2 i x H' d l s e y => ?_⟩
  obtain ⟨T, a, b, rfl, hT, rfl, ea, eb⟩ := y
  cases ea
  rw [numD_get] at e
  cases hd : ds[i]? with
  | none => rw [hd] at e; cases e
  | some z =>
    rw [hd] at e
    simp only [Option.map_some, Nat.zero_add, Option.some.injEq] at e
    subst e
    obtain ⟨v, h1, h2⟩ := r.get hd
    have h1' : vs[i]? = some b := eb
    rw [h1] at h1'
    cases h1'
    have l3 : W2.le (W2.put T (.tup [.int (i : Nat), b])) := Wd.put_le hT
    refine ⟨W2.put T (.tup [.int (i : Nat), b]), rfl, l3, s.put hT, ?_⟩
    simp only [Rep]
    exact ⟨T, _, rfl, .inl ⟨.inl upd_same, s.noM hT⟩, repL_cons rep_iI (repL_cons ((h2.mono l _ _).mono l3 _ _) repL_nil)⟩
theorem di_enum {X : Cx} {Wx : WX} {e : Expr} {me : EM D} {p pos tpos : Pos} {elts : List Expr} {kk : Nat} (hg : Gl X "enumerate") (hm : X.mg "enumerate" = none) (h : DE X Wx e me) (hs : starEach [e] X.env = [(false, eval e X.env)] := by rfl) :
    DI X Wx (.Tuple elts kk tpos) (.Call (.Name "enumerate" p) [e] [] pos) (enumE me) := by
  have ha : PA X [e] (tCons (tD X.K Wx me) tNil) := pa_cons h.p pa_nil hs
  refine di_of (pi_or (pi_enumT hg hm ha hs) (pi_enum hg hm ha hs)) fun W st S σ R at_ q => ?_
  cases hm : me st S with
  | bad =>
    unfold enumE at q
    rw [hm] at q
    exact q.elim
  | err x S1 =>
    unfold enumE at q
    rw [hm] at q
    exact .inl ⟨W, st, S, at_, by rw [hm]; exact q⟩
  | ok d0 S0 =>
    by_cases ht : ∃ ys, d0 = .tup ys
    · obtain ⟨ys, rfl⟩ := ht
      refine .inl (goI at_ q fun W1 d S1 v e l a1 r q1 => ?_)
      rw [hm] at e
      cases e
      simp only [Rep] at r
      obtain ⟨p, vs, rfl, q2, r2⟩ := r
      exact ⟨p, vs, rfl, q2.sq, q1 W1 _ (.refl W1) a1 (wk_pairs walk_enumT (fun W2 l2 => (q2.mono l2).sq) r2)⟩
    · refine .inr (goI at_ q fun W1 d S1 v e l a1 r q1 => ?_)
      rw [hm] at e
      cases e
      cases hq : seqN d0 S0 with
      | bad => rw [hq] at q1; exact q1.elim
      | err x S2 =>
        exfalso
        cases d0 <;> simp only [seqN, seqOf] at hq <;> try cases hq
        split at hq <;> cases hq
      | ok xs S2 =>
        rw [hq] at q1
        have hs : ∀ z, d0 ≠ .str z := fun z e => by subst e; simp [seqN] at hq
        have hq' : seqOf d0 S0 = .ok xs S2 := by
          cases d0 <;> first | exact hq | exact absurd rfl (hs _)
        obtain ⟨W', p, vs, l', hH, a', rfl, hl, rl⟩ := fro_at a1 r hq' (fun ys e => ht ⟨ys, e⟩) hs
        refine ⟨p, vs, rfl, by rw [← hH]; exact hl W' (.refl W'), ?_⟩
        rw [← hH]
        exact q1 W' _ l' a' (wk_pairs walk_enum hl rl)
end KF

set_option Elab.async false
set_option linter.all false
set_option maxRecDepth 100000
set_option maxHeartbeats 4000000
/-! KFQ: glue for printed texts. -/
namespace KF
open PySem PySem.Spec PyProof.Rows L2
/-- a def as the top has left it -/
structure FnIs (K : PySem.W.Frag) (x qual : Str) (st : Stmt) (f : Addr) (fd : FuncData) : Prop where
  ex : ∃ (oc : Value) (od : Option Addr) (dV kV doc pm : Value) (an : Option Addr) (cdv ct : Value) (osl : Array (Option Value)),
    fd = PySem.W.fnOf x qual (defArgs st) (defBody st) (defScope st) dV kV doc pm an cdv ct ∧ K.lookup f = some ⟨oc, od, .func fd, osl⟩ ∧ PySem.W.codeIn K cdv qual = true
theorem fnIs_mk {K : PySem.W.Frag} {x qual : Str} {st : Stmt} {f : Addr} {oc : Value} {od an : Option Addr} {osl : Array (Option Value)} {dV kV doc pm cdv ct : Value} (l : K.lookup f = some ⟨oc, od, .func (PySem.W.fnOf x qual (defArgs st) (defBody st) (defScope st) dV kV doc pm an cdv ct), osl⟩) (c : PySem.W.codeIn K cdv qual = true) :
    FnIs K x qual st f (PySem.W.fnOf x qual (defArgs st) (defBody st) (defScope st) dV kV doc pm an cdv ct) := ⟨⟨oc, od, dV, kV, doc, pm, an, cdv, ct, osl, rfl, l, c⟩⟩
/-- what a body's derivation has at hand -/
structure Cal (X : Cx) (Wx : WX) (k : Nat) : Prop where
  rm : Room k X.A
  gd : X.A.guards = some []
  tk : Takes X Wx
  po : PassesOwn (model X.prog X.w) X.A X.env X.xe
  cm : X.calm = true
theorem Cal.u {X : Cx} {Wx : WX} {k : Nat} (c : Cal X Wx k) : X.A.units + 64 < cLine := c.rm.units
theorem Cal.u70 {X : Cx} {Wx : WX} {k : Nat} (c : Cal X Wx k) : X.A.units + 70 < cLine := by have := c.rm.un; omega
theorem Cal.rj {X : Cx} {Wx : WX} {k j : Nat} (c : Cal X Wx k) (h : j ≤ k) : Room j X.A := c.rm.mono h
theorem Cal.blk {X : Cx} {Wx : WX} {k : Nat} (c : Cal X Wx k) (s : Shared) (H : Hp) (scope : Scope) (cenv : Env) (fp : List Addr) : Cal (X.blk s H scope cenv fp) W0 k :=
  ⟨c.rm, c.gd, fun u s' ⟨_, _, _, _, _, _, _, _, _, _, _, _, _, _, _, _, w⟩ => w.elim, PassesOwn.never, c.cm⟩
theorem fnX {P : Program} {w : World} {K : PySem.W.Frag} {mg : Str → Option Value} {base : Heap} {k : Nat} {f : Addr} {x qual : Str} {st : Stmt} {fd : FuncData} {N ps : List Str} {m : SM} (F : FnIs K x qual st f fd) (S : FnScope N ps (defScope st))
    (hB : ∀ (cdv : Value) (A : Around) (outer : List Env) (s : Shared) (H : Hp) (E : XK), Cal (cxOf (L2.CX P w) P w K mg base N qual (defScope st) f cdv A outer s H E) (fun c d _ H' => E c d H') k →
      DSs (cxOf (L2.CX P w) P w K mg base N qual (defScope st) f cdv A outer s H E) (fun c d _ H' => E c d H') (defBody st) m) :
    FnG P w K mg base (k + 1) f fd ps (spD K (runF N.length m) ps.length) := by
  obtain ⟨oc, od, dV, kV, doc, pm, an, cdv, ct, osl, rfl, lk, hcd⟩ := F.ex
  refine ⟨fun vs H Q E ⟨W, ds, S0, _, _, r, hl, _⟩ => by rw [← r.length]; exact hl, ?_⟩
  intro A outer s H args us vs Q E hg hroom env0 hbind rv hsp
  obtain ⟨W, ds, S0, rfl, sr, rds, hlen, hq⟩ := hsp
  have kin : K.In s.heap := env0.mod.kin.keeps fun b o e => (env0.bs b o e).1
  have nol : s.heap.NoLimit := env0.mod.nolimit.keeps fun b o e => (env0.bs b o e).1
  have hl : vs.length = ps.length := by rw [← rds.length]; exact hlen
  have kinds : ∀ y ∈ ps.zip us, (defScope st).names.lookup y.1 = some .local ∨ ((defScope st).names.lookup y.1 = some .cell ∧ ((cellsFrom (s.heap.objs.size + 1) (defScope st).names []).lookup y.1).isSome = true) := by
    rintro ⟨n, v⟩ hy
    exact (S.par n (List.of_mem_zip hy).1).imp id fun q => ⟨q, PySem.W.cellsFrom_some _ _ _ (.inl q)⟩
  refine codeAny_call_function hroom.depth (kin _ _ lk) rfl S.co S.gen rfl (PySem.W.codeRec_of kin hcd) (hbind _ _ _ _ (wpAny_newFunctionEnv_cells S.kind kinds fun env he s1 x => ?_))
  subst he
  refine ⟨nol.keeps x.toInCall.keep, codeAny_func ?_⟩
  have body := hB cdv A outer s W.H E ⟨hroom.deeper _, hg, takes_of rfl rfl rfl rfl, passes_of rfl, rfl⟩
  have I : Inv (cxOf (L2.CX P w) P w K mg base N qual (defScope st) f cdv A outer s W.H E) [] (L2.start N vs) W.H s1 := inv_start S hroom.hd env0 hl rv x
  have go : tDS K (fun c d _ H' => E c d H') m { nx := fun _ H' => Q .non H', rt := Q } (L2.start N vs) W.H := by
    refine ⟨W, _, S0, ⟨rfl, sr, startE rds⟩, ?_⟩
    unfold runF at hq
    generalize m (ds.map some ++ List.replicate (N.length - ds.length) none) S0 = rr at hq
    cases rr with
    | nx st1 S1 => exact fun W' σ l s e => hq W' .non l s rep_nI
    | rt d S1 => exact hq
    | err e st1 S1 => exact fun W' σ od l s e z => hq W' od l s z
    | bk _ _ => exact hq.elim
    | ct _ _ => exact hq.elim
    | bad => exact hq.elim
  refine wpAny_mono (body.p.run [] s1 (L2.start N vs) W.H _ I go) (fun fl s' hs => ?_) fun e s' hs => hs
  match fl, hs with
  | .ret u, ⟨v, σ', H', J, r, q⟩ => exact ⟨v, H', J.os, J.bare, J.base, J.hok, r, q⟩
  | .next, ⟨σ', H', J, q⟩ => exact ⟨.non, H', J.os, J.bare, J.base, J.hok, rfl, q⟩
  | .brk, ⟨σ', H', J, q⟩ => exact q.elim
  | .cont, ⟨σ', H', J, q⟩ => exact q.elim
section
variable {X : Cx} {Wx : WX} {k : Nat} {a b e o : Expr} {es : List Expr} {ma mb me mo : EM D} {ml : EM (List D)} {pos apos cpos : Pos} {x : Str}
theorem q_m {T id : String} {name : Str} {ok : Store → D → Bool} {g : D → List D → Store → Option (D × Store)} (pa : PlainAttrs T) (slot : Slot T name id) (hty : typeOf (.builtin id) = pure (.type "method_descriptor")) (hm : MethD X id g)
    (hok : ∀ {K : PySem.W.Frag} {W : Wd} {S : Store} {d : D} {v : V}, SRep K W S → Rep K W d v → ok S d = true → L2.tyV K T v W.H) (ho : DE X Wx o mo) (ha : DA X Wx (e :: es) ml)
    (h1 : attributeBase o name X.env (eval o X.env) = eval o X.env := by rfl)
    (h2 : ((backTo cpos (starEach (e :: es) X.env)).all (fun x => !x.1) && (backToKw cpos (keywordEach [] X.env)).all (fun x => x.1.isSome) && decide ((e :: es).length + ([] : List Keyword).length + (if ([] : List Keyword).isEmpty then 0 else 1) < 30)) = true := by rfl)
    (h3 : (apos.endLine == cpos.line) = true := by rfl) (h4 : starEach (e :: es) X.env = (false, eval e X.env) :: starEach es X.env := by rfl) (h5 : (backTo cpos (starEach es X.env)).any (·.1) = false := by rfl) :
    DE X Wx (.Call (.Attribute o name apos) (e :: es) [] cpos) (methE ok g mo ml) := de_m (t := fun _ _ _ => True) pa slot hty hm hok ho ha (pe_bm pa slot hty hm.p ho.p ha.p h1 h2 h3 h4 h5)
theorem de_bty {n : String} (hg : Gl X x) (hm : X.mg x = none) (hv : bootBuiltins x = some (.type n)) (hn : x ≠ "__name__" := by decide) (hd : (x == ("__debug__" : Str)) = false := by decide) : DE X Wx (.Name x pos) (cE (.ty n)) :=
  de_c (v := .ty n) ⟨fun _ _ _ H _ I h => ld_blt I hg hm hv ⟨.ty n, H, I, rfl, h⟩ hn hd⟩ fun W => by simp [Rep]
theorem de_gI {i : Int} (hg : Gl X x) (hm : ∃ t, X.mg x = some (.int i t)) (hd : (x == ("__debug__" : Str)) = false := by decide) : DE X Wx (.Name x pos) (cE (.int i)) := by
  obtain ⟨t, h⟩ := hm
  exact de_glob hg h (v := .int i) ⟨t, rfl⟩ (fun W => rep_iI) hd
theorem de_gS {z : Str} (hg : Gl X x) (hm : ∃ t, X.mg x = some (.str z t)) (hd : (x == ("__debug__" : Str)) = false := by decide) : DE X Wx (.Name x pos) (cE (.str z)) := by
  obtain ⟨t, h⟩ := hm
  exact de_glob hg h (v := .str z) ⟨t, rfl⟩ (fun W => rep_sI) hd
theorem de_gC {C : Addr} (hg : Gl X x) (hm : X.mg x = some (.ref C)) (hd : (x == ("__debug__" : Str)) = false := by decide) : DE X Wx (.Name x pos) (cE (.obj C)) :=
  de_glob hg hm (v := .ref C) rfl (fun W => by simp [Rep]) hd
theorem dt_cmpS {op : CmpOp} {g : D → D → Store → Res D} (ho : OpS X (compareOp op) g) (ha : DE X Wx a ma) (hb : DE X Wx b mb) (hm : behindInMarks op b = false) : DT X Wx (.Compare a [op] [b] pos) (bE (opS g ma mb)) :=
  dt_of (pt_cmpR ho.p ha.p hb.p hm) fun W st S σ Q at_ q => by
    have q' : BQ X.K W Q (fun c d H' => Wx c d σ H') ((ma st S).bind fun x S1 => (mb st S1).bind fun y S2 => (g x y S2).noE.bind fun d S3 => .of (asB d) S3) := by
      have e : bE (opS g ma mb) st S = ((ma st S).bind fun x S1 => (mb st S1).bind fun y S2 => (g x y S2).noE.bind fun d S3 => .of (asB d) S3) := by
        unfold bE opS
        cases ma st S with
        | ok x S1 => simp only [bind_ok]; cases mb st S1 <;> rfl
        | err _ _ => rfl
        | bad => rfl
      rw [← e]
      exact q
    refine goB at_ q' fun W1 dx S1 x l1 a1 r1 q1 => goB a1 q1 fun W2 dy S2 y l2 a2 r2 q2 => ?_
    refine ⟨W2, S2, dx, dy, rfl, a2.s, r1.mono l2 _ _, r2, ?_⟩
    cases e : g dx dy S2 with
    | bad => rw [e] at q2; exact q2.elim
    | err _ _ => rw [e] at q2; exact q2.elim
    | ok d S3 =>
      rw [e] at q2
      simp only [noE_ok, bind_ok] at q2
      cases e2 : asB d with
      | none => rw [e2] at q2; exact q2.elim
      | some c =>
        rw [e2] at q2
        exact fun W' v l s r => ⟨c, rep_bl r e2, q2 W' l s⟩
/-- {} that stays empty -/
theorem de_dct0 : DE X Wx (.Dict [] [] pos) (cE (.dct [] [])) :=
  de_of pe_dnewK fun W st S σ Q at_ q p hp => by
    refine q (W.put p (.dK [])) (.ref p) (Wd.put_le hp) (at_.s.put hp) ?_
    simp only [Rep]
    exact ⟨p, [], rfl, .inl upd_same, at_.s.noM hp, rfl, repL_nil⟩
end
theorem b_len : bootBuiltins "len" = some (.builtin "len") := by decide +kernel
theorem b_all : bootBuiltins "all" = some (.builtin "all") := by decide +kernel
theorem b_any : bootBuiltins "any" = some (.builtin "any") := by decide +kernel
theorem b_sum : bootBuiltins "sum" = some (.builtin "sum") := by decide +kernel
theorem b_abs : bootBuiltins "abs" = some (.builtin "abs") := by decide +kernel
theorem b_divmod : bootBuiltins "divmod" = some (.builtin "divmod") := by decide +kernel
theorem b_max : bootBuiltins "max" = some (.builtin "max") := by decide +kernel
theorem b_min : bootBuiltins "min" = some (.builtin "min") := by decide +kernel
theorem b_isinstance : bootBuiltins "isinstance" = some (.builtin "isinstance") := by decide +kernel
theorem b_repr : bootBuiltins "repr" = some (.builtin "repr") := by decide +kernel
theorem b_int : bootBuiltins "int" = some (.type "int") := by decide +kernel
theorem b_str : bootBuiltins "str" = some (.type "str") := by decide +kernel
theorem b_list : bootBuiltins "list" = some (.type "list") := by decide +kernel
theorem b_tuple : bootBuiltins "tuple" = some (.type "tuple") := by decide +kernel
/-- a def that takes all by place -/
def fnM (n : Nat) (m : List D → Store → Res D) : List D → List D → Store → Res D := bnd n 0 (fun ds _ => ds) m
/-- .. with what fills up -/
def fnF (n : Nat) (dd : List D) (m : List D → Store → Res D) : List D → List D → Store → Res D := bnd n 0 (fun ds _ => ds ++ dd) m
end KF

set_option Elab.async false
set_option linter.all false
set_option maxRecDepth 100000
set_option maxHeartbeats 4000000
/-! KFR: how a def with defaults is bound. -/
namespace KF
open PySem PySem.Spec PyProof.Rows L2
theorem bd_full {K : PySem.W.Frag} {fd : FuncData} {ps : List Str} {n m : Nat} {T : Addr} {o : Obj} {its : Array Value} (hn : ps.length = n) (dd : K.lookup T = some o) (od : o.data = .seq its m)
    (h : ∀ us : List Value, us.length = n → ∃ k, bindArgs fd ⟨us, []⟩ = seqItems? (.ref T) >>= k ∧ k (some its) = pure (ps.zip us)) : BD K fd ps [] n (fun ds _ => ds) :=
  ⟨fun ds es h _ => h.trans hn.symm, fun s W ds es vs zs us ws kin r _ rv _ hl _ => by
    obtain ⟨k, e1, e2⟩ := h us (by rw [← rv.length, ← r.length, hl])
    refine ⟨us, vs, L2.BindsTo.of_looks fun M => ?_, rv, r⟩
    show PySem.W.Looks M s.heap (bindArgs fd ⟨us, []⟩) _
    rw [e1]
    exact looks_items kin dd od (.of_pure e2)⟩
def blkB (N : List Str) (sc scope : Scope) (own : List (Str × Nat)) : Bool :=
  decide (scope.kind = .function) && (decide (∀ y ∈ scope.names, scope.names.lookup y.1 = some y.2) && (decide (∀ p ∈ own, N[p.2]? = some p.1) &&
    (decide (∀ y ∈ scope.names, y.2 = .free → sc.names.lookup y.1 = some .cell ∨ sc.names.lookup y.1 = some .free) && decide (∀ y ∈ scope.names, y.2 = .local ∨ y.2 = .cell → y.1 ∈ own.map (·.1) ∨ y.1 ∉ N))))
theorem blk_ok {N : List Str} {sc scope : Scope} {own : List (Str × Nat)} (h : blkB N sc scope own = true) : BlkOk N sc scope own := by
  unfold blkB at h
  simp only [Bool.and_eq_true, decide_eq_true_eq] at h
  exact ⟨h.1, h.2.1, h.2.2.1, h.2.2.2.1, h.2.2.2.2⟩
end KF

set_option linter.all false
set_option maxRecDepth 100000
/-! KPE: what the denotations are at slots and a store. -/
namespace KF
open PySem L2
section
variable {st : DSt} {S : Store} {a b c m o : EM D} {ml : EM (List D)} {ms : List (EM D)} {d : D} {i : Nat}
@[simp] theorem ev_v : vE i st S = match st[i]? with | some (some d) => .ok d S | _ => .bad := rfl
@[simp] theorem ev_c : cE d st S = .ok d S := rfl
@[simp] theorem ev_op {g : D → D → Store → Option D} : opE g a b st S = (a st S).bind fun x S1 => (b st S1).bind fun y S2 => Res.of (g x y S2) S2 := rfl
@[simp] theorem ev_opS {g : D → D → Store → Res D} : opS g a b st S = (a st S).bind fun x S1 => (b st S1).bind fun y S2 => (g x y S2).noE := rfl
@[simp] theorem ev_seq0 : seqE [] st S = .ok [] S := rfl
@[simp] theorem ev_seq1 : seqE (m :: ms) st S = (m st S).bind fun d S1 => (seqE ms st S1).bind fun ds S2 => .ok (d :: ds) S2 := rfl
@[simp] theorem ev_callE {g : List D → Store → Option (D × Store)} : callE g ml st S = (ml st S).bind fun ds S1 => .of2 (g ds S1) := rfl
@[simp] theorem ev_callSE {g : List D → Store → Res D} : callSE g ml st S = (ml st S).bind fun ds S1 => (g ds S1).noE := rfl
@[simp] theorem ev_callF {g : List D → List D → Store → Res D} : callF g ml st S = (ml st S).bind fun ds S1 => g ds [] S1 := rfl
@[simp] theorem ev_tup : tupE ml st S = (ml st S).bind fun ds S1 => if ds.length ≤ sizeLine then .ok (.tup ds) S1 else .bad := rfl
@[simp] theorem ev_lst : lstE ml st S = (ml st S).bind fun ds S1 => if ds.length ≤ sizeLine then .ok (.lst ds) S1 else .bad := rfl
@[simp] theorem ev_lstC : lstC ml st S = (ml st S).bind fun ds S1 => if ds.length ≤ sizeLine then .ok (.cell S1.length) (S1 ++ [.lst ds]) else .bad := rfl
@[simp] theorem ev_b : bE m st S = (m st S).bind fun d S1 => .of (asB d) S1 := rfl
@[simp] theorem ev_meth {ok : Store → D → Bool} {g : D → List D → Store → Option (D × Store)} : methE ok g o ml st S = (o st S).bind fun x S1 => if ok S1 x then (ml st S1).bind fun ds S2 => .of2 (g x ds S2) else .bad := rfl
@[simp] theorem ev_fld {C : Addr} {fn : Str} : fldE C fn o st S = (o st S).bind fun x S1 => match fldD C fn x S1 with | some d => .ok d S1 | none => .bad := rfl
@[simp] theorem ev_fn {n : Nat} {f : List D → Store → Res D} {ds es : List D} : fnM n f ds es S = if ds.length = n ∧ es.length = 0 then f ds S else .bad := rfl
@[simp] theorem ev_of (x : D) : Res.of (some x) S = .ok x S := rfl
@[simp] theorem ev_of0 : Res.of (none : Option D) S = .bad := rfl
@[simp] theorem ev_ofb (x : Bool) : Res.of (some x) S = .ok x S := rfl
@[simp] theorem ev_asB (x : Bool) : asB (.bl x) = some x := rfl
@[simp] theorem ev_and : andE a b st S = (a st S).bind fun x S1 => match x with | .bl true => b st S1 | .bl false => .ok (.bl false) S1 | _ => .bad := rfl
@[simp] theorem ev_or : orE a b st S = (a st S).bind fun x S1 => match x with | .bl true => .ok (.bl true) S1 | .bl false => b st S1 | _ => .bad := rfl
@[simp] theorem ev_not : notE a st S = (a st S).bind fun x S1 => match x with | .bl k => .ok (.bl (!k)) S1 | _ => .bad := rfl
@[simp] theorem ev_andT {t u : EM Bool} : andT t u st S = (t st S).bind fun x S1 => if x then u st S1 else .ok false S1 := rfl
@[simp] theorem ev_orT {t u : EM Bool} : orT t u st S = (t st S).bind fun x S1 => if x then .ok true S1 else u st S1 := rfl
@[simp] theorem ev_notT {t : EM Bool} : notT t st S = (t st S).bind fun x S1 => .ok (!x) S1 := rfl
@[simp] theorem ev_if {t : EM Bool} : ifE t a b st S = (t st S).bind fun k S1 => if k then a st S1 else b st S1 := rfl
@[simp] theorem ev_neg : negE a st S = (a st S).bind fun x S1 => match x with | .int i => .ok (.int (-i)) S1 | _ => .bad := rfl
@[simp] theorem ev_ch {g g' : D → D → Store → Option D} : chE g g' a b c st S = (a st S).bind fun x S1 => (b st S1).bind fun y S2 => (Res.of (g x y S2) S2).bind fun k S3 => match k with | .bl true => (c st S3).bind fun z S4 => .of (g' y z S4) S4 | .bl false => .ok (.bl false) S3 | _ => .bad := rfl
@[simp] theorem ev_prop {C : Addr} {g : List D → List D → Store → Res D} : propE C g o st S = (o st S).bind fun x S1 => match insOf S1 x with | some (C', _, _) => if C' = C then (g [x] [] S1).noE else .bad | none => .bad := rfl
@[simp] theorem g_1 {f : D → Store → Option D} {x : D} : g1 f [x] S = (f x S).map fun d => (d, S) := rfl
@[simp] theorem g_2 {f : D → D → Store → Option D} {x y : D} : g2 f [x, y] S = (f x y S).map fun d => (d, S) := rfl
@[simp] theorem ga_i {i j : Int} : gAdd (.int i) (.int j) S = some (.int (i + j)) := rfl
@[simp] theorem g_2I {f : Int → Int → Option D} {i j : Int} : g2I f (.int i) (.int j) S = f i j := rfl
@[simp] theorem gl_t {xs : List D} : gLen (.tup xs) S = some (.int xs.length) := rfl
@[simp] theorem gl_l {xs : List D} : gLen (.lst xs) S = some (.int xs.length) := rfl
@[simp] theorem gl_s {xs : List D} : gLen (.scr xs) S = some (.int xs.length) := rfl
@[simp] theorem gix_t {xs : List D} {k : Int} : gIx (.tup xs) (.int k) S = atI xs k := rfl
@[simp] theorem gix_l {xs : List D} {k : Int} : gIx (.lst xs) (.int k) S = atI xs k := rfl
@[simp] theorem gix_s {xs : List D} {k : Int} : gIx (.scr xs) (.int k) S = atI xs k := rfl
@[simp] theorem g_eq {x y : D} : gEq x y S = (eqD S deep x y).map .bl := rfl
@[simp] theorem ra_run {n : Nat} {f : SM} {ds : List D} : runF n f ds S = match f (ds.map some ++ List.replicate (n - ds.length) none) S with | .nx _ S1 => .ok .non S1 | .rt d S1 => .ok d S1 | .err e _ S1 => .err e S1 | _ => .bad := rfl
theorem at_nat {α : Type} (xs : List α) (i : Nat) : atI xs (i : Int) = xs[i]? := by
  unfold atI ixN
  rw [if_pos (Int.natCast_nonneg _)]
  by_cases h : i < xs.length
  · rw [if_pos (by omega)]; simp
  · rw [if_neg (by omega)]; simp; omega
theorem at_nn {α : Type} (xs : List α) {k : Int} (h : 0 ≤ k) : atI xs k = xs[k.toNat]? := by
  obtain ⟨j, rfl⟩ := Int.eq_ofNat_of_zero_le h
  exact at_nat xs j
variable {x y : SM} {tb : EM Bool} {g : GM} {mi : EM (List D)}
@[simp] theorem es_next : nextS st S = .nx st S := rfl
@[simp] theorem es_seq : seqS x y st S = match x st S with | .nx st1 S1 => y st1 S1 | r => r := rfl
@[simp] theorem es_set : setS i m st S = match m st S with | .ok d S1 => .nx (st.set i (some d)) S1 | .err e S1 => .err e st S1 | .bad => .bad := rfl
@[simp] theorem es_ret : retS m st S = match m st S with | .ok d S1 => .rt d S1 | .err e S1 => .err e st S1 | .bad => .bad := rfl
@[simp] theorem es_expr : exprS m st S = match m st S with | .ok d S1 => .nx st S1 | .err e S1 => .err e st S1 | .bad => .bad := rfl
@[simp] theorem es_asg : asgS m g st S = match m st S with | .ok d S1 => onlyNx (g d st S1) | .err e S1 => .err e st S1 | .bad => .bad := rfl
@[simp] theorem es_if : ifS tb x y st S = match tb st S with | .ok k S1 => (if k then x st S1 else y st S1) | .err e S1 => .err e st S1 | .bad => .bad := rfl
@[simp] theorem es_for : forS mi g x st S = match mi st S with | .ok ds S1 => forL g x ds st S1 | .err e S1 => .err e st S1 | .bad => .bad := rfl
@[simp] theorem es_sets {is : List Nat} : setsS is mi st S = match mi st S with | .ok ds S1 => (if ds.length = is.length then .nx ((is.zip ds).foldl (fun st p => st.set p.1 (some p.2)) st) S1 else .bad) | .err e S1 => .err e st S1 | .bad => .bad := rfl
theorem seq_nx {st1 : DSt} {S1 : Store} (h : x st S = .nx st1 S1) : seqS x y st S = y st1 S1 := by
  show (match x st S with | .nx st1 S1 => y st1 S1 | r => r) = _
  rw [h]
theorem seq_rt {S1 : Store} (h : x st S = .rt d S1) : seqS x y st S = .rt d S1 := by
  show (match x st S with | .nx st1 S1 => y st1 S1 | r => r) = _
  rw [h]
theorem run_rt {n : Nat} {f : SM} {ds : List D} {st : DSt} {d : D} {S1 : Store} (h : ds.map some ++ List.replicate (n - ds.length) none = st) (e : f st S = .rt d S1) : runF n f ds S = .ok d S1 := by
  subst h
  show (match f _ S with | .nx _ S1 => Res.ok D.non S1 | .rt d S1 => .ok d S1 | .err e _ S1 => .err e S1 | _ => .bad) = _
  rw [e]
theorem run_nx {n : Nat} {f : SM} {ds : List D} {st st1 : DSt} {S1 : Store} (h : ds.map some ++ List.replicate (n - ds.length) none = st) (e : f st S = .nx st1 S1) : runF n f ds S = .ok .non S1 := by
  subst h
  show (match f _ S with | .nx _ S1 => Res.ok D.non S1 | .rt d S1 => .ok d S1 | .err e _ S1 => .err e S1 | _ => .bad) = _
  rw [e]
theorem ret_ok {d : D} {S1 : Store} (e : m st S = .ok d S1) : retS m st S = .rt d S1 := by
  show (match m st S with | .ok d S1 => SRes.rt d S1 | .err e S1 => .err e st S1 | .bad => .bad) = _
  rw [e]
theorem set_ok {d : D} {S1 : Store} (e : m st S = .ok d S1) : setS i m st S = .nx (st.set i (some d)) S1 := by
  show (match m st S with | .ok d S1 => SRes.nx (st.set i (some d)) S1 | .err e S1 => .err e st S1 | .bad => .bad) = _
  rw [e]
theorem if_t {S1 : Store} (e : tb st S = .ok true S1) : ifS tb x y st S = x st S1 := by
  show (match tb st S with | .ok k S1 => (if k then x st S1 else y st S1) | .err e S1 => .err e st S1 | .bad => .bad) = _
  rw [e]
  rfl
theorem if_f {S1 : Store} (e : tb st S = .ok false S1) : ifS tb x y st S = y st S1 := by
  show (match tb st S with | .ok k S1 => (if k then x st S1 else y st S1) | .err e S1 => .err e st S1 | .bad => .bad) = _
  rw [e]
  rfl
theorem for_ok {ds : List D} {S1 : Store} (e : mi st S = .ok ds S1) : forS mi g x st S = forL g x ds st S1 := by
  show (match mi st S with | .ok ds S1 => forL g x ds st S1 | .err e S1 => .err e st S1 | .bad => .bad) = _
  rw [e]
@[simp] theorem eg_name : nameG i d st S = .nx (st.set i (some d)) S := rfl
@[simp] theorem ei_it : itE m st S = (m st S).bind seqOf := rfl
theorem ei_rng {k : Int} {S1 : Store} (e : m st S = .ok (.int k) S1) (h0 : 0 ≤ k) (h : k < 2 ^ 40) : rng1E m st S = .ok (rangeI 0 k.toNat) S1 := by
  unfold rng1E
  rw [e]
  show (if -(2 ^ 62) ≤ k ∧ k < 2 ^ 62 then Res.ok (rangeI 0 k) S1 else .bad) = _
  rw [if_pos ⟨by omega, by omega⟩, Int.toNat_of_nonneg h0]
@[simp] theorem ei_enum : enumE m st S = (m st S).bind fun d S1 => (seqN d S1).bind fun xs S2 => .ok (numD 0 xs) S2 := rfl
end
end KF

set_option linter.all false
set_option maxRecDepth 100000
/-! the denotations of kindsfollow_k07_pairs_in_rules's defs; printed by gen.py -/
namespace K07
open PySem L2 KF
def M_law_draw : List D → Store → Res D := runF 4 (seqS (ifS (bE (opE gGt (opE gIx (vE 0) (cE (.int 1))) (cE (.int 0)))) (seqS (asgS (callE (g2 gDivmod) (seqE [(opE gIx (vE 0) (cE (.int 1))), (vE 1)])) (tupG 2 (consG (subG (vE 0) (cE (.int 1))) (consG (nameG 2) nilG))))
    (retS (vE 2))) nextS)
    (seqS (asgS (opE gAdd (opE gIx (vE 0) (cE (.int 2))) (cE (.int 1))) (subG (vE 0) (cE (.int 2))))
    (seqS (setS 3 (opE gAdd (opE gAdd (opE gMul (opE gIx (vE 0) (cE (.int 0))) (cE (.int 1442695040888963407))) (opE gMul (opE gMul (cE (.int 7919)) (opE gIx (vE 0) (cE (.int 2)))) (opE gIx (vE 0) (cE (.int 2))))) (cE (.int 3))))
    (seqS (asgS (opE gMod (callE (g1 gInt) (seqE [(vE 3)])) (cE (.int 2305843009213693951))) (subG (vE 0) (cE (.int 0))))
    (retS (opE gMod (callE (g1 gInt) (seqE [(opE gDiv (opE gIx (vE 0) (cE (.int 0))) (cE (.int 1048576)))])) (vE 1)))))))
def M_law_names : List D → Store → Res D := runF 11 (seqS (setsS [2, 3] (seqE [(cE (.str (Str.ofString "abcdefghijklmnopqrstuvwxyz0123456789"))), (lstE (seqE [(cE (.str (Str.ofString "kinds"))), (cE (.str (Str.ofString "pair"))), (cE (.str (Str.ofString "first"))), (cE (.str (Str.ofString "last"))), (cE (.str (Str.ofString "laid"))), (cE (.str (Str.ofString "a"))), (cE (.str (Str.ofString "b"))), (cE (.str (Str.ofString "z0")))]))]))
    (seqS (setS 4 (lstC (seqE [])))
    (seqS (forS (rng1E (vE 1)) (nameG 5) (seqS (setsS [6, 7] (seqE [(callF (fnM 2 (M_law_draw)) (seqE [(vE 0), (cE (.int 4))])), (opE gIx (vE 2) (callF (fnM 2 (M_law_draw)) (seqE [(vE 0), (cE (.int 26))])))]))
    (seqS (forS (rng1E (callF (fnM 2 (M_law_draw)) (seqE [(vE 0), (ifE (bE (opE gEq (vE 6) (cE (.int 0)))) (cE (.int 8)) (cE (.int 3)))]))) (nameG 8) (setS 7 (opE gAdd (vE 7) (opE gIx (vE 2) (callF (fnM 2 (M_law_draw)) (seqE [(vE 0), (cE (.int 36))]))))))
    (seqS (ifS (bE (opE gEq (callF (fnM 2 (M_law_draw)) (seqE [(vE 0), (cE (.int 5))])) (cE (.int 0)))) (setS 7 (opE gIx (vE 3) (callF (fnM 2 (M_law_draw)) (seqE [(vE 0), (cE (.int 8))])))) nextS)
    (seqS (ifS (bE (opE gIn (vE 7) (vE 4))) (setS 7 (opE gIx (lcE (itE (lcE (rng1E (vE 1)) (nameP 10) yesT (opE gAdd (cE (.str (Str.ofString "y"))) (callE (g1 gStr) (seqE [(vE 10)]))) [10])) (nameP 9) (bE (opE gNotIn (vE 9) (vE 4))) (vE 9) [9]) (cE (.int 0)))) nextS)
    (exprS (methE okL mAppend (vE 4) (seqE [(vE 7)]))))))))
    (retS (vE 4)))))
def M_law_order : List D → Store → Res D := runF 4 (seqS (setS 2 (lstC (seqE [])))
    (seqS (forS (rng1E (vE 1)) (nameG 3) (exprS (methE okL mInsert (vE 2) (seqE [(callF (fnM 2 (M_law_draw)) (seqE [(vE 0), (opE gAdd (vE 3) (cE (.int 1)))])), (vE 3)]))))
    (retS (vE 2))))
def M_law_ends : List D → Store → Res D := runF 4 (seqS (setS 2 (callF (fnM 2 (M_law_order)) (seqE [(vE 0), (callE (g1 gLen) (seqE [(vE 1)]))])))
    (retS (callE (g1 gTuple) (seqE [(lcE (itE (slE (vE 2) none (some (opE gAdd (cE (.int 1)) (callF (fnM 2 (M_law_draw)) (seqE [(vE 0), (callE (g1 gLen) (seqE [(vE 1)]))])))))) (nameP 3) yesT (opE gIx (vE 1) (vE 3)) [3])]))))
def M_law_parts : List D → Store → Res D := runF 8 (seqS (setsS [3, 4, 5] (seqE [(callE (g1 gTuple) (seqE [(callF (fnM 2 (M_law_names)) (seqE [(vE 0), (vE 1)]))])), (opE gAdd (cE (.int 1)) (callF (fnM 2 (M_law_draw)) (seqE [(vE 0), (cE (.int 5))]))), (lstC (seqE []))]))
    (seqS (forS (itE (vE 3)) (nameG 6) (forS (itE (vE 3)) (nameG 7) (ifS (bE (opE gLt (callF (fnM 2 (M_law_draw)) (seqE [(vE 0), (cE (.int 6))])) (vE 4))) (exprS (methE okL mInsert (vE 5) (seqE [(callF (fnM 2 (M_law_draw)) (seqE [(vE 0), (opE gAdd (callE (g1 gLen) (seqE [(vE 5)])) (cE (.int 1)))])), (tupE (seqE [(vE 6), (vE 7)]))]))) nextS)))
    (seqS (ifS (bE (vE 2)) (retS (tupE (seqE [(vE 3), (callE (g1 gTuple) (seqE [(vE 5)])), (tupE (seqE [])), (tupE (seqE []))]))) nextS)
    (retS (tupE (seqE [(vE 3), (callE (g1 gTuple) (seqE [(vE 5)])), (callF (fnM 2 (M_law_ends)) (seqE [(vE 0), (vE 3)])), (callF (fnM 2 (M_law_ends)) (seqE [(vE 0), (vE 3)]))]))))))
def M_is_name : List D → Store → Res D := runF 2 (seqS (ifS (orT (notT (bE (callE (g2 (gIsi [])) (seqE [(vE 0), (cE (.ty "str"))])))) (notT (bE (chE gLe gLe (cE (.int 1)) (callE (g1 gLen) (seqE [(vE 0)])) (cE (.int 8)))))) (retS (cE (.bl false))) nextS)
    (retS (andE (opE gIn (opE gIx (vE 0) (cE (.int 0))) (cE (.str (Str.ofString "abcdefghijklmnopqrstuvwxyz")))) (callE (g1 gAll) (seqE [(lcE (itE (vE 0)) (nameP 1) yesT (orE (opE gIn (vE 1) (cE (.str (Str.ofString "abcdefghijklmnopqrstuvwxyz")))) (opE gIn (vE 1) (cE (.str (Str.ofString "0123456789"))))) [1])])))))
def M_wrong_kind : List D → Store → Res D := runF 3 (seqS (forS (enumE (vE 0)) (tupG 2 (consG (nameG 1) (consG (nameG 2) nilG))) (ifS (orT (notT (bE (callF (fnM 1 (M_is_name)) (seqE [(vE 2)])))) (orT (bE (opE gIn (vE 2) (slE (vE 0) none (some (vE 1))))) (bE (opE gGe (vE 1) (cE (.int 5)))))) (retS (vE 1)) nextS))
    (retS (cE .non)))
def M_check_new_kinds : List D → Store → Res D := runF 2 (seqS (ifS (orT (notT (bE (callE (g2 (gIsi [])) (seqE [(vE 0), (cE (.ty "tuple"))])))) (bE (opE gEq (callE (g1 gLen) (seqE [(vE 0)])) (cE (.int 0))))) badS nextS)
    (seqS (setS 1 (callF (fnM 1 (M_wrong_kind)) (seqE [(vE 0)])))
    (ifS (bE (opE gNotN (vE 1) (cE .non))) badS nextS)))
def M_is_pair : List D → Store → Res D := runF 2 (retS (andE (callE (g2 (gIsi [])) (seqE [(vE 0), (cE (.ty "tuple"))])) (andE (opE gEq (callE (g1 gLen) (seqE [(vE 0)])) (cE (.int 2))) (andE (opE gIn (opE gIx (vE 0) (cE (.int 0))) (vE 1)) (opE gIn (opE gIx (vE 0) (cE (.int 1))) (vE 1))))))
def M_wrong_pair : List D → Store → Res D := runF 4 (seqS (forS (enumE (vE 0)) (tupG 2 (consG (nameG 2) (consG (nameG 3) nilG))) (ifS (orT (notT (bE (callF (fnM 2 (M_is_pair)) (seqE [(vE 3), (vE 1)])))) (bE (opE gIn (vE 3) (slE (vE 0) none (some (vE 2)))))) (retS (vE 2)) nextS))
    (retS (cE .non)))
def M_check_pairs : List D → Store → Res D := runF 3 (seqS (ifS (notT (bE (callE (g2 (gIsi [])) (seqE [(vE 0), (cE (.ty "tuple"))])))) badS nextS)
    (seqS (setS 2 (callF (fnM 2 (M_wrong_pair)) (seqE [(vE 0), (vE 1)])))
    (ifS (bE (opE gNotN (vE 2) (cE .non))) badS nextS)))
def M_wrong_end : List D → Store → Res D := runF 4 (seqS (forS (enumE (vE 0)) (tupG 2 (consG (nameG 2) (consG (nameG 3) nilG))) (ifS (orT (bE (opE gNotIn (vE 3) (vE 1))) (bE (opE gIn (vE 3) (slE (vE 0) none (some (vE 2)))))) (retS (vE 2)) nextS))
    (retS (cE .non)))
def M_check_ends : List D → Store → Res D := runF 4 (seqS (ifS (notT (bE (callE (g2 (gIsi [])) (seqE [(vE 0), (cE (.ty "tuple"))])))) badS nextS)
    (seqS (setS 3 (callF (fnM 2 (M_wrong_end)) (seqE [(vE 0), (vE 2)])))
    (seqS (ifS (bE (opE gNotN (vE 3) (cE .non))) badS nextS)
    (seqS (ifS (notT (bE (callE (g2 (gIsi [])) (seqE [(vE 1), (cE (.ty "tuple"))])))) badS nextS)
    (seqS (setS 3 (callF (fnM 2 (M_wrong_end)) (seqE [(vE 1), (vE 2)])))
    (seqS (ifS (bE (opE gNotN (vE 3) (cE .non))) badS nextS)
    (ifS (bE (opE gNe (opE gEq (callE (g1 gLen) (seqE [(vE 0)])) (cE (.int 0))) (opE gEq (callE (g1 gLen) (seqE [(vE 1)])) (cE (.int 0))))) badS nextS)))))))
def M_place_of : List D → Store → Res D := runF 4 (retS (opE gIx (lcE (enumE (vE 0)) (tupP 2 (consP (nameP 2) (consP (nameP 3) nilP))) (bE (opE gEq (vE 3) (vE 1))) (vE 2) [2, 3]) (cE (.int 0))))
def M_arcs_of : List D → Store → Res D := runF 9 (seqS (setS 4 (callE (g1 gLen) (seqE [(vE 0)])))
    (seqS (setS 5 (lcE (itE (vE 1)) (tupP 2 (consP (nameP 6) (consP (nameP 7) nilP))) yesT (tupE (seqE [(callF (fnM 2 (M_place_of)) (seqE [(vE 0), (vE 6)])), (callF (fnM 2 (M_place_of)) (seqE [(vE 0), (vE 7)]))])) [6, 7]))
    (seqS (setS 5 (opE gAdd (vE 5) (lcE (itE (vE 2)) (nameP 8) yesT (tupE (seqE [(vE 4), (callF (fnM 2 (M_place_of)) (seqE [(vE 0), (vE 8)]))])) [8])))
    (retS (callE (g1 gTuple) (seqE [(opE gAdd (vE 5) (lcE (itE (vE 3)) (nameP 8) yesT (tupE (seqE [(callF (fnM 2 (M_place_of)) (seqE [(vE 0), (vE 8)])), (vE 4)])) [8]))]))))))
def M_Rule__init_ (C : Addr) : List D → Store → Res D := runF 5 (seqS (exprS (callF (fnM 1 (M_check_new_kinds)) (seqE [(vE 1)])))
    (seqS (exprS (callF (fnM 2 (M_check_pairs)) (seqE [(vE 2), (vE 1)])))
    (seqS (exprS (callF (fnM 3 (M_check_ends)) (seqE [(vE 3), (vE 4), (vE 1)])))
    (seqS (fsetS C (Str.ofString "sorts") (vE 0) (vE 1))
    (seqS (fsetS C (Str.ofString "links") (vE 0) (vE 2))
    (seqS (fsetS C (Str.ofString "heads") (vE 0) (vE 3))
    (seqS (fsetS C (Str.ofString "tails") (vE 0) (vE 4))
    (fsetS C (Str.ofString "ways") (vE 0) (callF (fnM 4 (M_arcs_of)) (seqE [(vE 1), (vE 2), (vE 3), (vE 4)]))))))))))
def M_law_rule (C : Addr) : List D → Store → Res D := runF 1 (retS (callF (mkF C (bnd 5 0 (fun ds _ => ds) (M_Rule__init_ C))) (seqE [(opE gIx (vE 0) (cE (.int 0))), (opE gIx (vE 0) (cE (.int 1))), (opE gIx (vE 0) (cE (.int 2))), (opE gIx (vE 0) (cE (.int 3)))])))
def M_Rule__contains_ (C : Addr) : List D → Store → Res D := runF 2 (retS (opE gIn (vE 1) (fldE C (Str.ofString "links") (vE 0))))
def M_law_says (C : Addr) : List D → Store → Res D := runF 3 (retS (opE gEq (callE (g1 gRepr) (seqE [(lstE (seqE [(opS (ownOr C (conD (fnM 2 (M_Rule__contains_ C)) false) gIn) (vE 1) (vE 0)), (opS (ownOr C (conD (fnM 2 (M_Rule__contains_ C)) true) gNotIn) (vE 1) (vE 0))]))])) (callE (g1 gRepr) (seqE [(lstE (seqE [(vE 2), (notE (vE 2))]))]))))
def M_Rule__len_ (C : Addr) : List D → Store → Res D := runF 1 (retS (callE (g1 gLen) (seqE [(fldE C (Str.ofString "links") (vE 0))])))
def M_law_right (C : Addr) : List D → Store → Res D := runF 11 (seqS (setsS [1, 2] (seqE [(lstC (seqE [])), (lstE (seqE [(cE .non), (cE (.int 0)), (cE (.bl true)), (cE (.str (Str.ofString ""))), (tupE (seqE [])), (lstE (seqE [])), (cE (.dct [] [])), (cE (.str (Str.ofString "ab"))), (tupE (seqE [(cE (.str (Str.ofString "a")))])), (tupE (seqE [(cE (.str (Str.ofString "a"))), (cE (.int 1))])), (tupE (seqE [(lstE (seqE [])), (cE (.str (Str.ofString "a")))])), (tupE (seqE [(cE (.str (Str.ofString "a"))), (cE (.dct [] []))])), (tupE (seqE [(tupE (seqE [(cE (.str (Str.ofString "a"))), (cE (.str (Str.ofString "b")))]))]))]))]))
    (seqS (forS (rng1E (cE (.int 2))) (nameG 3) (seqS (setS 4 (callF (fnM 3 (M_law_parts)) (seqE [(vE 0), (opE gAdd (cE (.int 1)) (callF (fnM 2 (M_law_draw)) (seqE [(vE 0), (cE (.int 5))]))), (opE gEq (callF (fnM 2 (M_law_draw)) (seqE [(vE 0), (cE (.int 2))])) (cE (.int 0)))])))
    (seqS (exprS (methE okL mAppend (vE 1) (seqE [(tupE (seqE [(callF (fnM 1 (M_law_rule C)) (seqE [(vE 4)])), (vE 4)]))])))
    (seqS (asgS (tupE (seqE [(opE gIx (opE gIx (vE 4) (cE (.int 0))) (callF (fnM 2 (M_law_draw)) (seqE [(vE 0), (callE (g1 gLen) (seqE [(opE gIx (vE 4) (cE (.int 0)))]))]))), (opE gIx (opE gIx (vE 4) (cE (.int 0))) (callF (fnM 2 (M_law_draw)) (seqE [(vE 0), (callE (g1 gLen) (seqE [(opE gIx (vE 4) (cE (.int 0)))]))])))])) (tupG 2 (consG (nameG 5) (consG (nameG 6) nilG))))
    (seqS (setS 2 (opE gAdd (vE 2) (lstE (seqE [(tupE (seqE [(vE 5), (vE 6)])), (tupE (seqE [(vE 6), (vE 5)])), (lstE (seqE [(vE 5), (vE 6)])), (tupE (seqE [(vE 5), (vE 6), (vE 5)])), (vE 5), (opE gAdd (vE 5) (vE 6)), (tupE (seqE [(vE 5), (opE gAdd (vE 6) (cE (.str (Str.ofString "q"))))]))]))))
    (setS 2 (opE gAdd (opE gAdd (opE gAdd (vE 2) (callE (g1 gList) (seqE [(opE gIx (vE 4) (cE (.int 1)))]))) (lcE (itE (opE gIx (vE 4) (cE (.int 1)))) (nameP 10) yesT (tupE (seqE [(opE gIx (vE 10) (cE (.int 1))), (opE gIx (vE 10) (cE (.int 0)))])) [10])) (lstE (seqE [(tupE (seqE [(vE 5), (cE .non)])), (tupE (seqE [(opE gIx (vE 4) (cE (.int 1))), (vE 5)]))])))))))))
    (seqS (forS (itE (opE gAdd (vE 1) (vE 1))) (tupG 2 (consG (nameG 7) (consG (nameG 4) nilG))) (seqS (forS (itE (vE 2)) (nameG 8) (ifS (notT (bE (callF (fnM 3 (M_law_says C)) (seqE [(vE 7), (vE 8), (opE gIn (vE 8) (opE gIx (vE 4) (cE (.int 1))))])))) (retS (cE (.bl false))) nextS))
    (seqS (setS 9 (cE (.int 0)))
    (seqS (forS (itE (opE gIx (vE 4) (cE (.int 0)))) (nameG 5) (setS 9 (opE gAdd (vE 9) (callE (g1 gLen) (seqE [(lcE (itE (opE gIx (vE 4) (cE (.int 0)))) (nameP 6) (bE (opS (ownOr C (conD (fnM 2 (M_Rule__contains_ C)) false) gIn) (tupE (seqE [(vE 5), (vE 6)])) (vE 7))) (vE 6) [6])])))))
    (ifS (bE (opE gNe (callE (g1 gRepr) (seqE [(callSE (lenD C (fnM 1 (M_Rule__len_ C))) (seqE [(vE 7)]))])) (callE (g1 gRepr) (seqE [(vE 9)])))) (retS (cE (.bl false))) nextS)))))
    (retS (cE (.bl true))))))
def M_law_purse : List D → Store → Res D := runF 5 (seqS (setS 2 (ifE (bE (opE gLt (vE 1) (callE (g1 gLen) (seqE [(vE 0)])))) (opE gIx (vE 0) (vE 1)) (cE (.int 0))))
    (seqS (setS 3 (opE gAdd (cE (.int 15485863)) (opE gMul (cE (.int 32452843)) (vE 1))))
    (seqS (forS (itE (opE gAdd (slE (vE 0) none (some (cE (.int 4)))) (lstE (seqE [(vE 2)])))) (nameG 4) (seqS (setS 3 (opE gAdd (opE gMul (vE 3) (cE (.int 6364136223846793005))) (opE gMod (callE (g1 gInt) (seqE [(vE 4)])) (cE (.int 2305843009213693907)))))
    (setS 3 (opE gMod (callE (g1 gInt) (seqE [(opE gAdd (vE 3) (cE (.int 17)))])) (cE (.int 2305843009213693951))))))
    (retS (lstC (seqE [(vE 3), (ifE (bE (opE gGe (callE (g1 gAbs) (seqE [(vE 2)])) (opE gPow (cE (.int 10)) (cE (.int 18))))) (callE (g1 gAbs) (seqE [(vE 2)])) (cE (.int 0))), (cE (.int 0))]))))))
def M_law (C : Addr) : List D → Store → Res D := runF 2 (seqS (forS (rng1E (callE (g2 gMax) (seqE [(cE (.int 2)), (callE (g2 gMin) (seqE [(callE (g1 gLen) (seqE [(vE 0)])), (cE (.int 4))]))]))) (nameG 1) (ifS (notT (bE (callF (fnM 1 (M_law_right C)) (seqE [(callF (fnM 2 (M_law_purse)) (seqE [(vE 0), (vE 1)]))])))) (retS (cE (.bl false))) nextS))
    (retS (cE (.bl true))))
end K07

set_option linter.all false
set_option maxRecDepth 100000
set_option maxHeartbeats 1000000
/-! KP1: pure laws of the draws. -/
namespace K07
open PySem L2 KF
/-- a purse stands in the cell n; B: how many draws at most -/
def PU (S : Store) (n B : Nat) : Prop := ∃ a b c : Int, S[n]? = some (.lst [.int a, .int b, .int c]) ∧ 0 ≤ a ∧ a < 2 ^ 62 ∧ 0 ≤ c ∧ c ≤ B
/-- nothing is changed but the purse -/
structure Fr (n : Nat) (S S' : Store) : Prop where
  len : S.length ≤ S'.length
  oth : ∀ i, i < S.length → i ≠ n → S'[i]? = S[i]?
theorem Fr.refl (n : Nat) (S : Store) : Fr n S S := ⟨Nat.le_refl _, fun _ _ _ => rfl⟩
theorem Fr.trans {n : Nat} {A B C : Store} (x : Fr n A B) (y : Fr n B C) : Fr n A C :=
  ⟨Nat.le_trans x.len y.len, fun i h1 h2 => (y.oth i (Nat.lt_of_lt_of_le h1 x.len) h2).trans (x.oth i h1 h2)⟩
theorem PU.lt {S : Store} {n B : Nat} (h : PU S n B) : n < S.length := by
  obtain ⟨a, b, c, h, _⟩ := h
  exact (List.getElem?_eq_some_iff.mp h).1
theorem PU.mono {S : Store} {n B B' : Nat} (h : PU S n B) (l : B ≤ B') : PU S n B' := by
  obtain ⟨a, b, c, h1, h2, h3, h4, h5⟩ := h
  exact ⟨a, b, c, h1, h2, h3, h4, by omega⟩
theorem fr_set {n : Nat} {S : Store} {c : Cell} : Fr n S (S.set n c) := ⟨by simp, fun i _ h => by rw [List.getElem?_set_ne (Ne.symm h)]⟩
theorem log_lt {i : Int} {k : Nat} (h0 : 0 ≤ i) (h : i < 2 ^ k) (hk : 0 < k) : i.natAbs.log2 < k := by
  by_cases h1 : i.natAbs = 0
  · rw [h1]; simpa using hk
  · rw [Nat.log2_lt h1]
    have e : ((2 ^ k : Nat) : Int) = (2 : Int) ^ k := by simp
    omega
theorem draw_ok {S : Store} {n B : Nat} {k : Int} (h : PU S n B) (h0 : 0 < k) (h1 : k < 2 ^ 40) (hB : B < 2 ^ 60) :
    ∃ r S', M_law_draw [.cell n, .int k] S = .ok (.int r) S' ∧ 0 ≤ r ∧ r < k ∧ PU S' n (B + 1) ∧ Fr n S S' ∧ S'.length = S.length := by
  have hn := h.lt
  obtain ⟨a, b, c, hs, ha0, ha1, hc0, hc1⟩ := h
  have lk : k.natAbs.log2 < 9000 := Nat.lt_trans (log_lt (k := 40) (by omega) h1 (by decide)) (by decide)
  have gs : ∀ x : Cell, (S.set n x)[n]? = some x := fun x => by rw [List.getElem?_set_self hn]
  have ss : ∀ x y : Cell, (S.set n x).set n y = S.set n y := fun x y => by rw [List.set_set]
  by_cases hb : 0 < b
  · refine ⟨b % k, S.set n (.lst [.int a, .int (b / k), .int c]), ?_, Int.emod_nonneg _ (by omega), Int.emod_lt_of_pos _ h0, ⟨a, b / k, c, gs _, ha0, ha1, hc0, by omega⟩, fr_set, by simp⟩
    simp [M_law_draw, runF, seqS, ifS, bE, opE, vE, gIx, asI, asL, hs, atI, ixN, cE, asB, hb, asgS, exS, callE, seqE, g2, gDivmod, h0, lk, onlyNx, tupG, consG, subG, setIt, mutL, nameG, nilG, retS, g2I, Res.of, Res.of2, gs]
  · have la : a.natAbs.log2 < 62 := log_lt (k := 62) ha0 (by omega) (by decide)
    have lc : (c + 1).natAbs.log2 < 62 := log_lt (k := 62) (by omega) (by omega) (by decide)
    have m1 : a.natAbs.log2 + Nat.log2 1442695040888963407 < 1000000 := by
      have : Nat.log2 1442695040888963407 = 60 := by decide +kernel
      omega
    have m2 : Nat.log2 7919 + (c + 1).natAbs.log2 < 1000000 := by
      have : Nat.log2 7919 = 12 := by decide +kernel
      omega
    have m3 : (7919 * (c + 1)).natAbs.log2 + (c + 1).natAbs.log2 < 1000000 := by
      have : (7919 * (c + 1)).natAbs.log2 < 80 := log_lt (k := 80) (by omega) (by omega) (by decide)
      omega
    have m4 : Nat.log2 1048576 < 9000 := by decide +kernel
    have z0 := Int.emod_nonneg (a * 1442695040888963407 + 7919 * (c + 1) * (c + 1) + 3) (b := 2305843009213693951) (by decide)
    have z1 := Int.emod_lt_of_pos (a * 1442695040888963407 + 7919 * (c + 1) * (c + 1) + 3) (b := 2305843009213693951) (by decide)
    refine ⟨((a * 1442695040888963407 + 7919 * (c + 1) * (c + 1) + 3) % 2305843009213693951 / 1048576) % k, S.set n (.lst [.int ((a * 1442695040888963407 + 7919 * (c + 1) * (c + 1) + 3) % 2305843009213693951), .int b, .int (c + 1)]), ?_, Int.emod_nonneg _ (by omega), Int.emod_lt_of_pos _ h0,
      ⟨_, b, c + 1, gs _, z0, by omega, by omega, by omega⟩, fr_set, by simp⟩
    simp [M_law_draw, runF, seqS, ifS, bE, opE, vE, gIx, asI, asL, hs, atI, ixN, cE, asB, hb, asgS, exS, callE, seqE, g1, gInt, h0, lk, onlyNx, subG, setIt, mutL, setS, gAdd, gMul, m1, m2, m3, m4, nextS, retS, g2I, Res.of, Res.of2, gs, ss]
end K07

set_option linter.all false
set_option maxRecDepth 100000
set_option maxHeartbeats 1000000
/-! KP2: loops; order, ends. -/
namespace K07
open PySem L2 KF
theorem for_inv {g : GM} {b : SM} (I : Nat → DSt → Store → Prop) : ∀ (ds : List D) (k : Nat) {st : DSt} {S : Store}, I k st S →
    (∀ i d st S, ds[i]? = some d → I (k + i) st S → ∃ st1 S1 st2 S2, g d st S = .nx st1 S1 ∧ b st1 S1 = .nx st2 S2 ∧ I (k + i + 1) st2 S2) → ∃ st' S', forL g b ds st S = .nx st' S' ∧ I (k + ds.length) st' S'
  | [], k, st, S, h0, h => ⟨st, S, rfl, h0⟩
  | d :: ds, k, st, S, h0, h => by
    obtain ⟨st1, S1, st2, S2, e1, e2, h2⟩ := h 0 d st S rfl h0
    obtain ⟨st', S', e3, h3⟩ := for_inv I ds (k + 1) (st := st2) (S := S2) h2 (fun i d st S e hi => by
      have := h (i + 1) d st S (by simpa using e) (by rw [show k + (i + 1) = k + 1 + i by omega]; exact hi)
      rw [show k + (i + 1) = k + 1 + i by omega] at this
      exact this)
    refine ⟨st', S', ?_, by rw [List.length_cons, show k + (ds.length + 1) = k + 1 + ds.length by omega]; exact h3⟩
    simp only [forL, thenG, e1, loopK, e2, e3]
theorem range_len (m : Nat) : (rangeI 0 m).length = m := by simp [rangeI]
theorem range_get {m i : Nat} {d : D} (h : (rangeI 0 m)[i]? = some d) : i < m ∧ d = .int i := by
  have h1 := (List.getElem?_eq_some_iff.mp h).1
  have h2 := (List.getElem?_eq_some_iff.mp h).2
  exact ⟨by simpa [rangeI] using h1, by simpa [rangeI] using h2.symm⟩
theorem for_rng {g : GM} {b : SM} (I : Nat → DSt → Store → Prop) (m : Nat) {st : DSt} {S : Store} (h0 : I 0 st S)
    (h : ∀ (i : Nat) (st : DSt) (S : Store), i < m → I i st S → ∃ st1 S1 st2 S2, g (.int i) st S = .nx st1 S1 ∧ b st1 S1 = .nx st2 S2 ∧ I (i + 1) st2 S2) : ∃ st' S', forL g b (rangeI 0 m) st S = .nx st' S' ∧ I m st' S' := by
  obtain ⟨st', S', e, hi⟩ := for_inv I (rangeI 0 m) 0 h0 fun i d st S hd hi => by
    obtain ⟨h1, rfl⟩ := range_get hd
    have := h i st S h1 (by simpa using hi)
    simpa using this
  exact ⟨st', S', e, by simpa [range_len] using hi⟩
theorem lc_fm {g : TP} {t : EM Bool} {m : EM D} {st : DSt} {S : Store} (p : D → Bool) (f : D → D) : ∀ (ds : List D), (∀ d ∈ ds, ∃ st1, g d st = some st1 ∧ t st1 S = .ok (p d) S ∧ (p d = true → m st1 S = .ok (f d) S)) → lcL g t m ds st S = .ok ((ds.filter p).map f) S
  | [], h => rfl
  | d :: ds, h => by
    obtain ⟨st1, e1, e2, e3⟩ := h d (by simp)
    have ih := lc_fm p f ds fun d hd => h d (by simp [hd])
    simp only [lcL, e1, e2]
    cases hp : p d with
    | false => simp [hp, ih]
    | true => simp [hp, e3 hp, ih]
theorem lc_map {g : TP} {m : EM D} {st : DSt} {S : Store} (f : D → D) (ds : List D) (h : ∀ d ∈ ds, ∃ st1, g d st = some st1 ∧ m st1 S = .ok (f d) S) : lcL g yesT m ds st S = .ok (ds.map f) S := by
  have := lc_fm (g := g) (t := yesT) (m := m) (st := st) (S := S) (fun _ => true) f ds fun d hd => by
    obtain ⟨st1, e1, e2⟩ := h d hd
    exact ⟨st1, e1, rfl, fun _ => e2⟩
  rw [this, List.filter_eq_self.mpr (by simp)]
theorem ins_perm {α : Type} (xs : List α) (x : α) (k : Nat) : (xs.take k ++ [x] ++ xs.drop k).Perm (x :: xs) := by
  have := List.perm_middle (a := x) (l₁ := xs.take k) (l₂ := xs.drop k)
  rw [List.take_append_drop] at this
  simpa using this
/-- a draw called -/
theorem draw_e {st : DSt} {S : Store} {n B : Nat} {k : Int} {e : EM D} (hp : st[0]? = some (some (.cell n))) (he : e st S = .ok (.int k) S) (h : PU S n B) (h0 : 0 < k) (h1 : k < 2 ^ 40) (hB : B < 2 ^ 60) :
    ∃ r S', callF (fnM 2 M_law_draw) (seqE [vE 0, e]) st S = .ok (.int r) S' ∧ 0 ≤ r ∧ r < k ∧ PU S' n (B + 1) ∧ Fr n S S' ∧ S'.length = S.length := by
  obtain ⟨r, S', e1, h⟩ := draw_ok h h0 h1 hB
  refine ⟨r, S', ?_, h⟩
  simp [hp, he, e1]
def nD (i : Nat) : D := .int i
theorem order_ok {S : Store} {n B m : Nat} (h : PU S n B) (hB : B + m < 2 ^ 60) (hm : m < 2 ^ 20) :
    ∃ (q : Nat) (S' : Store) (os : List Nat), M_law_order [.cell n, .int m] S = .ok (.cell q) S' ∧ S'[q]? = some (.lst (os.map nD)) ∧ os.Nodup ∧ os.length = m ∧ (∀ o ∈ os, o < m) ∧ PU S' n (B + m) ∧ Fr n S S' ∧ S.length ≤ q := by
  have hn := h.lt
  have sz : m < sizeLine := by rw [sizeLine_eq]; omega
  let I : Nat → DSt → Store → Prop := fun i st T => ∃ (os : List Nat) (x : Option D), st = [some (.cell n), some (.int m), some (.cell S.length), x] ∧ T[S.length]? = some (.lst (os.map nD)) ∧ T.length = S.length + 1 ∧ os.Nodup ∧ os.length = i ∧ (∀ o ∈ os, o < i) ∧ PU T n (B + i) ∧ (∀ j, j < S.length → j ≠ n → T[j]? = S[j]?)
  have step : ∀ (i : Nat) (st : DSt) (T : Store), i < m → I i st T → ∃ st1 S1 st2 S2, nameG 3 (.int i) st T = .nx st1 S1 ∧ (exprS (methE okL mInsert (vE 2) (seqE [(callF (fnM 2 (M_law_draw)) (seqE [(vE 0), (opE gAdd (vE 3) (cE (.int 1)))])), (vE 3)]))) st1 S1 = .nx st2 S2 ∧ I (i + 1) st2 S2 := by
    rintro i st T hi ⟨os, x, rfl, h1, h2, h3, h4, h5, h6, h7⟩
    obtain ⟨r, T', e2, r0, r1, pu, fr, len⟩ := draw_e (st := [some (.cell n), some (.int m), some (.cell S.length), some (.int i)]) (e := opE gAdd (vE 3) (cE (.int 1))) (k := (i : Int) + 1) rfl (by simp) h6 (by omega) (by omega) (by omega)
    have hq : T'[S.length]? = some (.lst (os.map nD)) := by rw [fr.oth _ (by omega) (by omega)]; exact h1
    refine ⟨_, T, [some (.cell n), some (.int m), some (.cell S.length), some (.int i)], T'.set S.length (.lst ((os.map nD).take r.toNat ++ [.int i] ++ (os.map nD).drop r.toNat)), rfl, ?_, os.take r.toNat ++ [i] ++ os.drop r.toNat, some (.int i), rfl, ?_, by simp; omega, ?_, ?_, ?_, ?_, ?_⟩
    · have e2' : callF (fnM 2 M_law_draw) (seqE [vE 0, opE gAdd (vE 3) (cE (.int 1))]) [some (.cell n), some (.int m), some (.cell S.length), some (.int i)] T = .ok (.int r) T' := e2
      have e2' : M_law_draw [.cell n, .int ((i : Int) + 1)] T = .ok (.int r) T' := by simpa using e2'
      simp [okL, asL, h1, e2', mInsert, mutL, hq, r0, show os.length < sizeLine by omega, show r < 9223372036854775808 by omega]
    · rw [List.getElem?_set_self (by omega)]
      simp [nD, List.map_take, List.map_drop]
    · rw [(ins_perm os i r.toNat).nodup_iff]
      exact List.nodup_cons.mpr ⟨fun z => Nat.lt_irrefl _ (h5 i z), h3⟩
    · simp [List.length_take, List.length_drop]; omega
    · intro o ho
      simp at ho
      rcases ho with ho | ho | ho
      · have := h5 o (List.mem_of_mem_take ho); omega
      · omega
      · have := h5 o (List.mem_of_mem_drop ho); omega
    · obtain ⟨a, b, c, q1, q2⟩ := pu
      exact ⟨a, b, c, by rw [List.getElem?_set_ne (by omega)]; exact q1, by simpa [Nat.add_assoc] using q2⟩
    · intro j hj1 hj2
      rw [List.getElem?_set_ne (by omega), fr.oth j (by omega) hj2, h7 j hj1 hj2]
  obtain ⟨st', T, e1, os, x, rfl, h1, h2, h3, h4, h5, h6, h7⟩ := for_rng I m (st := [some (.cell n), some (.int m), some (.cell S.length), none]) (S := S ++ [.lst []])
    ⟨[], none, rfl, by simp, by simp, by simp, rfl, by simp, by
      obtain ⟨a, b, c, q1, q2⟩ := h
      exact ⟨a, b, c, by rw [List.getElem?_append_left hn]; exact q1, by simpa using q2⟩, fun j h1 h2 => by rw [List.getElem?_append_left h1]⟩ step
  refine ⟨S.length, T, os, ?_, h1, h3, h4, h5, h6, ⟨by omega, fun i h8 h9 => h7 i h8 h9⟩, Nat.le_refl _⟩
  have er : rng1E (vE 1) [some (.cell n), some (.int m), some (.cell S.length), none] (S ++ [.lst []]) = .ok (rangeI 0 m) (S ++ [.lst []]) := ei_rng (k := (m : Int)) rfl (by omega) (by omega)
  simp -implicitDefEqProofs [M_law_order, er, e1, List.replicate]
end K07

set_option linter.all false
set_option maxRecDepth 100000
set_option maxHeartbeats 1000000
/-! KP3: a rule's parts that are right. -/
namespace K07
open PySem L2 KF
abbrev LETT : Str := Str.ofString "abcdefghijklmnopqrstuvwxyz"
abbrev DIGI : Str := Str.ofString "0123456789"
structure NameOk (w : Str) : Prop where
  l1 : 1 ≤ w.cps.size
  l8 : w.cps.size ≤ 8
  hd : ∃ c, w.cps.toList[0]? = some c ∧ c ∈ LETT.cps.toList
  al : ∀ c ∈ w.cps.toList, c ∈ LETT.cps.toList ∨ c ∈ DIGI.cps.toList
abbrev sD (a : Str) : D := .str a
abbrev pD (p : Str × Str) : D := .tup [.str p.1, .str p.2]
theorem eq_ss {S : Store} {a b : Str} : eqD S deep (.str a) (.str b) = some (a == b) := by
  unfold deep
  rw [eqD]
  rfl
theorem in_list {S : Store} {x : D} (f : D → Bool) : ∀ (ys : List D), (∀ y ∈ ys, eqD S deep y x = some (f y)) → optAny (fun z => eqD S deep z x) ys = some (ys.any f)
  | [], h => rfl
  | y :: ys, h => by
    simp only [optAny, h y (by simp), in_list f ys fun z hz => h z (by simp [hz]), List.any_cons]
theorem in_strs {S : Store} {a : Str} {ns : List Str} : inD S (.str a) (.tup (ns.map sD)) = some (decide (a ∈ ns)) := by
  show optAny (fun z => eqD S deep z (.str a)) (ns.map sD) = _
  rw [in_list (fun y => match y with | .str z => z == a | _ => false) (ns.map sD) (by
    intro y hy
    obtain ⟨z, _, rfl⟩ := List.mem_map.mp hy
    exact eq_ss)]
  congr 1
  rw [List.any_map]
  induction ns with
  | nil => simp
  | cons n ns ih =>
    simp only [List.any_cons, Function.comp, ih, List.mem_cons, Bool.decide_or, sD]
    congr 1
    by_cases h : n = a
    · subst h; simp
    · simp [h, Ne.symm h]
theorem eq_ssn {S : Store} {n : Nat} {a b : Str} : eqD S (n + 1) (.str a) (.str b) = some (a == b) := by
  rw [eqD]
  rfl
theorem beq_dec (a b : Str) : (a == b) = decide (a = b) := by
  by_cases h : a = b
  · subst h; simp
  · simp [h]
theorem eq_pp {S : Store} {p q : Str × Str} : eqD S deep (pD p) (pD q) = some (decide (p = q)) := by
  show eqD S (58 + 1 + 1) _ _ = _
  rw [eqD]
  simp only [vw, eqs, eq_ssn, Option.map_some, List.length_cons, List.length_nil, Bool.and_true, beq_self_eq_true]
  congr 1
  rw [beq_dec, beq_dec, ← Bool.decide_and]
  exact decide_eq_decide.mpr Prod.ext_iff.symm
theorem in_pairs {S : Store} {p : Str × Str} {ps : List (Str × Str)} : inD S (pD p) (.tup (ps.map pD)) = some (decide (p ∈ ps)) := by
  show optAny (fun z => eqD S deep z (pD p)) (ps.map pD) = _
  induction ps with
  | nil => rfl
  | cons q ps ih =>
    simp only [List.map_cons, optAny, eq_pp, ih, List.mem_cons, Bool.decide_or]
    congr 2
    exact decide_eq_decide.mpr eq_comm
theorem cut_take {α : Type} (xs : List α) (i : Nat) : cutX xs none (some (i : Int)) = xs.take i := by
  unfold cutX
  rw [HT.sIx_none, HT.sIx_nat, List.drop_zero, Nat.sub_zero]
  by_cases h : i ≤ xs.length
  · rw [Nat.min_eq_left h]
  · rw [Nat.min_eq_right (by omega), List.take_of_length_le (by omega), List.take_of_length_le (by omega)]
theorem sl_take {xs : List D} {a b : EM D} {st : DSt} {S : Store} {i : Nat} (ha : a st S = .ok (.tup xs) S) (hb : b st S = .ok (.int i) S) : slE a none (some b) st S = .ok (.tup (xs.take i)) S := by
  simp [slE, ha, optE, hb, iRes, gSl, cut_take]
theorem num_get {ds : List D} {i : Nat} {d : D} (h : (numD 0 ds)[i]? = some d) : i < ds.length ∧ ∃ x, ds[i]? = some x ∧ d = .tup [.int i, x] := by
  rw [numD_get] at h
  cases e : ds[i]? with
  | none => rw [e] at h; cases h
  | some x =>
    rw [e] at h
    simp at h
    exact ⟨(List.getElem?_eq_some_iff.mp e).1, x, rfl, h.symm⟩
theorem tyS {S : Store} {w : Str} : gIsi [] (.str w) (.ty "str") S = some (.bl true) := by
  simp [gIsi, tyD, clsTy, tyIn, isiTy]
  decide
theorem tyT {S : Store} {xs : List D} : gIsi [] (.tup xs) (.ty "tuple") S = some (.bl true) := by
  simp [gIsi, tyD, clsTy, tyIn, isiTy]
  decide
theorem in_sign {S : Store} {c : Nat} {z : Str} : gIn (.str ⟨#[c]⟩) (.str z) S = some (.bl (decide (c ∈ z.cps.toList))) := by
  simp [gIn, inD]
theorem bools_true {α : Type} (xs : List α) : boolsD (xs.map fun _ => D.bl true) = some (xs.map fun _ => true) := by
  induction xs with
  | nil => rfl
  | cons x xs ih => simp [boolsD, ih]
theorem gl_str {w : Str} {S : Store} (h : w.cps.size ≤ sizeLine) : gLen (.str w) S = some (.int w.cps.size) := by
  show (if w.cps.size ≤ sizeLine then some (D.int w.cps.size) else none) = _
  rw [if_pos h]
theorem gix_str {w : Str} {S : Store} {c : Nat} (h : w.cps.size ≤ sizeLine) (hc : w.cps.toList[0]? = some c) : gIx (.str w) (.int 0) S = some (.str ⟨#[c]⟩) := by
  show (if w.cps.size ≤ sizeLine then (L2.atI w.cps.toList ((0 : Nat) : Int)).map fun c => D.str ⟨#[c]⟩ else none) = _
  rw [if_pos h, at_nat, hc]
  rfl
theorem isname_ok {w : Str} (h : NameOk w) (S : Store) : M_is_name [.str w] S = .ok (.bl true) S := by
  obtain ⟨h1, h8, ⟨c, hc, hl⟩, ha⟩ := h
  have sz : w.length ≤ sizeLine := by rw [sizeLine_eq]; show w.cps.size ≤ _; omega
  have sz2 : (w.cps.toList.map fun c => D.str ⟨#[c]⟩).length ≤ sizeLine := by rw [sizeLine_eq]; simp; omega
  have lc : lcL (nameP 1) yesT (orE (opE gIn (vE 1) (cE (.str LETT))) (opE gIn (vE 1) (cE (.str DIGI)))) (w.cps.toList.map fun c => D.str ⟨#[c]⟩) [some (.str w), none] S = .ok ((w.cps.toList.map fun c => D.str ⟨#[c]⟩).map fun _ => .bl true) S := by
    refine lc_map _ _ fun d hd => ?_
    obtain ⟨c, hc, rfl⟩ := List.mem_map.mp hd
    refine ⟨[some (.str w), some (.str ⟨#[c]⟩)], rfl, ?_⟩
    have := ha c hc
    by_cases h : c ∈ LETT.cps.toList
    · simp -implicitDefEqProofs [in_sign, h]
    · have h2 := this.resolve_left h
      simp -implicitDefEqProofs [in_sign, h, h2]
  have ll : lcE (itE (vE 0)) (nameP 1) yesT (orE (opE gIn (vE 1) (cE (.str LETT))) (opE gIn (vE 1) (cE (.str DIGI)))) [1] [some (.str w), none] S = .ok (.lst ((w.cps.toList.map fun c => D.str ⟨#[c]⟩).map fun _ => .bl true)) S := by
    unfold lcE
    simp -implicitDefEqProofs only [ei_it, ev_v, List.getElem?_cons_zero, bind_ok, seqOf]
    rw [if_pos sz2]
    have e : wipeD [some (.str w), none] [1] = [some (.str w), none] := rfl
    rw [e, lc]
    rfl
  have ga : gAll (.lst ((w.cps.toList.map fun c => D.str ⟨#[c]⟩).map fun _ => .bl true)) S = some (.bl true) := by
    unfold gAll
    show ((boolsD ((w.cps.toList.map fun c => D.str ⟨#[c]⟩).map fun _ => D.bl true)).map fun bs => D.bl (bs.all id)) = _
    rw [bools_true]
    simp
  rw [List.map_map] at ga
  have g1 : (1 : Int) ≤ w.cps.size := by omega
  have g8 : (w.cps.size : Int) ≤ 8 := by omega
  unfold M_is_name
  simp -implicitDefEqProofs [tyS, gl_str sz, gix_str sz hc, in_sign, hl, ll, ga, List.replicate, h1, h8, g1, g8]
/-- a loop that ends as it began but for some slots -/
theorem for_num {g : GM} {b : SM} (I : DSt → Prop) (ds : List D) {st : DSt} {S : Store} (h0 : I st)
    (h : ∀ (i : Nat) (x : D) (st : DSt), ds[i]? = some x → I st → ∃ st1 st2, g (.tup [.int i, x]) st S = .nx st1 S ∧ b st1 S = .nx st2 S ∧ I st2) : ∃ st', forL g b (numD 0 ds) st S = .nx st' S ∧ I st' := by
  obtain ⟨st', S', e, h1, rfl⟩ := for_inv (fun _ st S' => I st ∧ S' = S) (numD 0 ds) 0 ⟨h0, rfl⟩ fun i d st T hd ⟨hi, eT⟩ => by
    subst eT
    obtain ⟨_, x, hx, rfl⟩ := num_get hd
    obtain ⟨st1, st2, e1, e2, h2⟩ := h i x st hx hi
    exact ⟨st1, T, st2, T, e1, e2, h2, rfl⟩
  exact ⟨st', e, h1⟩
theorem not_before {α : Type} {xs : List α} (h : xs.Nodup) {i : Nat} {x : α} (e : xs[i]? = some x) : x ∉ xs.take i := by
  intro hm
  obtain ⟨j, hj, e2⟩ := List.mem_iff_getElem.mp hm
  rw [List.getElem_take] at e2
  obtain ⟨hi, e1⟩ := List.getElem?_eq_some_iff.mp e
  have hj' : j < i := by simp at hj; omega
  have := (List.getElem_inj (h₀ := by omega) (h₁ := hi) h).mp (e2.trans e1.symm)
  omega
theorem map_take {α β : Type} (f : α → β) (xs : List α) (i : Nat) : (xs.map f).take i = (xs.take i).map f := (List.map_take ..).symm
theorem wk_ok {ns : List Str} (hn : ns.Nodup) (h5 : ns.length ≤ 5) (ho : ∀ w ∈ ns, NameOk w) (S : Store) : M_wrong_kind [.tup (ns.map sD)] S = .ok .non S := by
  obtain ⟨st', e, _⟩ := for_num (S := S) (g := tupG 2 (consG (nameG 1) (consG (nameG 2) nilG))) (b := ifS (orT (notT (bE (callF (fnM 1 M_is_name) (seqE [vE 2])))) (orT (bE (opE gIn (vE 2) (slE (vE 0) none (some (vE 1))))) (bE (opE gGe (vE 1) (cE (.int 5)))))) (retS (vE 1)) nextS)
    (fun st => ∃ a b, st = [some (.tup (ns.map sD)), a, b]) (ns.map sD) (st := [some (.tup (ns.map sD)), none, none]) ⟨_, _, rfl⟩ (by
    rintro i x st hx ⟨a, b, rfl⟩
    rw [List.getElem?_map] at hx
    cases hw : ns[i]? with
    | none => rw [hw] at hx; cases hx
    | some w =>
      rw [hw] at hx
      cases hx
      have hm := List.mem_of_getElem? hw
      have hi : i < ns.length := (List.getElem?_eq_some_iff.mp hw).1
      refine ⟨[some (.tup (ns.map sD)), some (.int i), some (.str w)], [some (.tup (ns.map sD)), some (.int i), some (.str w)], rfl, ?_, ⟨_, _, rfl⟩⟩
      have es : slE (vE 0) none (some (vE 1)) [some (.tup (ns.map sD)), some (.int i), some (.str w)] S = .ok (.tup ((ns.take i).map sD)) S := by
        rw [sl_take (xs := ns.map sD) (i := i) rfl rfl, map_take]
      have g5 : ¬ (5 : Int) ≤ i := by omega
      simp -implicitDefEqProofs [-List.map_take, isname_ok (ho w hm), es, gIn, in_strs, not_before hn hw, g5])
  unfold M_wrong_kind
  simp -implicitDefEqProofs [seqN, seqOf, List.replicate, e]
theorem ispair_ok {ns : List Str} {p : Str × Str} (h1 : p.1 ∈ ns) (h2 : p.2 ∈ ns) (S : Store) : M_is_pair [pD p, .tup (ns.map sD)] S = .ok (.bl true) S := by
  have a0 : atI [sD p.1, sD p.2] 0 = some (sD p.1) := rfl
  have a1 : atI [sD p.1, sD p.2] 1 = some (sD p.2) := rfl
  have e2 : eqD S deep (.int 2) (.int 2) = some true := rfl
  unfold M_is_pair
  simp -implicitDefEqProofs [tyT, List.replicate, a0, a1, gIn, in_strs, h1, h2, e2]
theorem wp_ok {ns : List Str} {ps : List (Str × Str)} (hn : ps.Nodup) (hs : ∀ p ∈ ps, p.1 ∈ ns ∧ p.2 ∈ ns) (S : Store) : M_wrong_pair [.tup (ps.map pD), .tup (ns.map sD)] S = .ok .non S := by
  obtain ⟨st', e, _⟩ := for_num (S := S) (g := tupG 2 (consG (nameG 2) (consG (nameG 3) nilG))) (b := ifS (orT (notT (bE (callF (fnM 2 (M_is_pair)) (seqE [(vE 3), (vE 1)])))) (bE (opE gIn (vE 3) (slE (vE 0) none (some (vE 2)))))) (retS (vE 2)) nextS)
    (fun st => ∃ a b, st = [some (.tup (ps.map pD)), some (.tup (ns.map sD)), a, b]) (ps.map pD) (st := [some (.tup (ps.map pD)), some (.tup (ns.map sD)), none, none]) ⟨_, _, rfl⟩ (by
    rintro i x st hx ⟨a, b, rfl⟩
    rw [List.getElem?_map] at hx
    cases hw : ps[i]? with
    | none => rw [hw] at hx; cases hx
    | some w =>
      rw [hw] at hx
      cases hx
      obtain ⟨m1, m2⟩ := hs w (List.mem_of_getElem? hw)
      refine ⟨[some (.tup (ps.map pD)), some (.tup (ns.map sD)), some (.int i), some (pD w)], [some (.tup (ps.map pD)), some (.tup (ns.map sD)), some (.int i), some (pD w)], rfl, ?_, ⟨_, _, rfl⟩⟩
      have es : slE (vE 0) none (some (vE 2)) [some (.tup (ps.map pD)), some (.tup (ns.map sD)), some (.int i), some (pD w)] S = .ok (.tup ((ps.take i).map pD)) S := by
        rw [sl_take (xs := ps.map pD) (i := i) rfl rfl, map_take]
      have ei : gIn (pD w) (.tup ((ps.take i).map pD)) S = some (.bl false) := by
        simp only [gIn, in_pairs, not_before hn hw, decide_false, Option.map_some]
      simp -implicitDefEqProofs [-List.map_take, ispair_ok m1 m2, es, ei])
  unfold M_wrong_pair
  simp -implicitDefEqProofs [seqN, seqOf, List.replicate, e]
theorem we_ok {ns fs : List Str} (hn : fs.Nodup) (hs : ∀ w ∈ fs, w ∈ ns) (S : Store) : M_wrong_end [.tup (fs.map sD), .tup (ns.map sD)] S = .ok .non S := by
  obtain ⟨st', e, _⟩ := for_num (S := S) (g := tupG 2 (consG (nameG 2) (consG (nameG 3) nilG))) (b := ifS (orT (bE (opE gNotIn (vE 3) (vE 1))) (bE (opE gIn (vE 3) (slE (vE 0) none (some (vE 2)))))) (retS (vE 2)) nextS)
    (fun st => ∃ a b, st = [some (.tup (fs.map sD)), some (.tup (ns.map sD)), a, b]) (fs.map sD) (st := [some (.tup (fs.map sD)), some (.tup (ns.map sD)), none, none]) ⟨_, _, rfl⟩ (by
    rintro i x st hx ⟨a, b, rfl⟩
    rw [List.getElem?_map] at hx
    cases hw : fs[i]? with
    | none => rw [hw] at hx; cases hx
    | some w =>
      rw [hw] at hx
      cases hx
      have m1 := hs w (List.mem_of_getElem? hw)
      refine ⟨[some (.tup (fs.map sD)), some (.tup (ns.map sD)), some (.int i), some (sD w)], [some (.tup (fs.map sD)), some (.tup (ns.map sD)), some (.int i), some (sD w)], rfl, ?_, ⟨_, _, rfl⟩⟩
      have es : slE (vE 0) none (some (vE 2)) [some (.tup (fs.map sD)), some (.tup (ns.map sD)), some (.int i), some (sD w)] S = .ok (.tup ((fs.take i).map sD)) S := by
        rw [sl_take (xs := fs.map sD) (i := i) rfl rfl, map_take]
      simp -implicitDefEqProofs [-List.map_take, es, gIn, gNotIn, in_strs, m1, not_before hn hw])
  unfold M_wrong_end
  simp -implicitDefEqProofs [seqN, seqOf, List.replicate, e]
theorem gnn {S : Store} : gNotN .non .non S = some (.bl false) := rfl
/-- the parts of a rule -/
structure Good (ns : List Str) (ps : List (Str × Str)) (fs ls : List Str) : Prop where
  n0 : ns ≠ []
  n5 : ns.length ≤ 5
  nd : ns.Nodup
  ok : ∀ w ∈ ns, NameOk w
  pn : ps.Nodup
  pm : ∀ p ∈ ps, p.1 ∈ ns ∧ p.2 ∈ ns
  fn : fs.Nodup
  fm : ∀ w ∈ fs, w ∈ ns
  ln : ls.Nodup
  lm : ∀ w ∈ ls, w ∈ ns
  fl : fs = [] ↔ ls = []
  p9 : ps.length ≤ 100
  f9 : fs.length ≤ 100
  l9 : ls.length ≤ 100
theorem eqi {S : Store} {i j : Int} : eqD S deep (.int i) (.int j) = some (i == j) := by
  unfold deep
  rw [eqD]
  rfl
theorem ck_ok {ns : List Str} (h0 : ns ≠ []) (hn : ns.Nodup) (h5 : ns.length ≤ 5) (ho : ∀ w ∈ ns, NameOk w) (S : Store) : M_check_new_kinds [.tup (ns.map sD)] S = .ok .non S := by
  have hl : ¬ ns.length = 0 := fun z => h0 (List.length_eq_zero_iff.mp z)
  have hl2 : ¬ (ns.length : Int) = 0 := by omega
  unfold M_check_new_kinds
  simp -implicitDefEqProofs [tyT, eqi, hl, hl2, h0, wk_ok hn h5 ho, gnn, List.replicate]
theorem cp_ok {ns : List Str} {ps : List (Str × Str)} (hn : ps.Nodup) (hs : ∀ p ∈ ps, p.1 ∈ ns ∧ p.2 ∈ ns) (S : Store) : M_check_pairs [.tup (ps.map pD), .tup (ns.map sD)] S = .ok .non S := by
  unfold M_check_pairs
  simp -implicitDefEqProofs [tyT, wp_ok hn hs, gnn, List.replicate]
theorem ce_ok {ns fs ls : List Str} (fn : fs.Nodup) (hf : ∀ w ∈ fs, w ∈ ns) (ln : ls.Nodup) (hl : ∀ w ∈ ls, w ∈ ns) (fl : fs = [] ↔ ls = []) (S : Store) : M_check_ends [.tup (fs.map sD), .tup (ls.map sD), .tup (ns.map sD)] S = .ok .non S := by
  have z : ∀ xs : List Str, gEq (.int (xs.length : Nat)) (.int 0) S = some (.bl (decide (xs = []))) := fun xs => by
    rw [g_eq, eqi]
    cases xs with
    | nil => rfl
    | cons x xs =>
      have : ¬ ((xs.length : Int) + 1 = 0) := by omega
      simp [this]
  have ne : gNe (.bl (decide (fs = []))) (.bl (decide (ls = []))) S = some (.bl false) := by
    have : decide (fs = []) = decide (ls = []) := decide_eq_decide.mpr fl
    rw [this]
    show (neD S deep (.bl _) (.bl _)).map D.bl = _
    unfold neD
    simp only [vw]
    have : eqD S deep (.bl (decide (ls = []))) (.bl (decide (ls = []))) = some true := by
      unfold deep
      rw [eqD]
      simp [vw]
    rw [this]
    rfl
  unfold M_check_ends
  simp -implicitDefEqProofs [-g_eq, tyT, we_ok fn hf, we_ok ln hl, gnn, z, ne, List.replicate]
end K07

set_option linter.all false
set_option maxRecDepth 100000
set_option maxHeartbeats 1000000
/-! KP4: a rule is made. -/
namespace K07
open PySem L2 KF
theorem lc_ex {g : TP} {m : EM D} {st : DSt} {S : Store} : ∀ (ds : List D), (∀ d ∈ ds, ∃ st1 y, g d st = some st1 ∧ m st1 S = .ok y S) → ∃ ys, ys.length = ds.length ∧ lcL g yesT m ds st S = .ok ys S
  | [], h => ⟨[], rfl, rfl⟩
  | d :: ds, h => by
    obtain ⟨st1, y, e1, e2⟩ := h d (by simp)
    obtain ⟨ys, hl, e⟩ := lc_ex ds fun d hd => h d (by simp [hd])
    refine ⟨y :: ys, by simp [hl], ?_⟩
    simp only [lcL, e1]
    show (m st1 S).bind _ = _
    rw [e2]
    simp [e]
theorem lcE_of {mi : EM (List D)} {g : TP} {t : EM Bool} {m : EM D} {vs : List Nat} {st : DSt} {S S1 : Store} {ds ys : List D} (h1 : mi st S = .ok ds S1) (hz : ds.length ≤ 1000) (h2 : lcL g t m ds (wipeD st vs) S1 = .ok ys S1) : lcE mi g t m vs st S = .ok (.lst ys) S1 := by
  unfold lcE
  rw [h1]
  show (if ds.length ≤ sizeLine then _ else _) = _
  rw [if_pos (by rw [sizeLine_eq]; omega), h2]
  rfl
theorem fl_num (a : Str) : ∀ (ns : List Str) (k : Nat), a ∈ ns → ∃ (j : Int) (r : List D), ((numD k (ns.map sD)).filter (fun d => match d with | .tup [_, .str z] => z == a | _ => false)).map (fun d => match d with | .tup [.int i, _] => .int i | _ => .non) = .int j :: r
  | [], k, h => by cases h
  | n :: ns, k, h => by
    by_cases hn : n = a
    · subst hn
      exact ⟨k, _, by simp [numD, sD]; rfl⟩
    · have : a ∈ ns := by
        rcases List.mem_cons.mp h with e | e
        · exact absurd e.symm hn
        · exact e
      obtain ⟨j, r, e⟩ := fl_num a ns (k + 1) this
      exact ⟨j, r, by simpa [numD, sD, hn] using e⟩
theorem mem_num {ds : List D} {d : D} (h : d ∈ numD 0 ds) : ∃ (i : Nat) (x : D), x ∈ ds ∧ d = .tup [.int i, x] := by
  obtain ⟨i, hi, e⟩ := List.mem_iff_getElem?.mp h |>.elim fun i e => (⟨i, (List.getElem?_eq_some_iff.mp e).1, e⟩ : ∃ i, ∃ _ : i < (numD 0 ds).length, (numD 0 ds)[i]? = some d)
  obtain ⟨_, x, hx, rfl⟩ := num_get e
  exact ⟨i, x, List.mem_of_getElem? hx, rfl⟩
theorem place_ok {ns : List Str} {a : Str} (h5 : ns.length ≤ 5) (h : a ∈ ns) (S : Store) : ∃ j : Int, M_place_of [.tup (ns.map sD), .str a] S = .ok (.int j) S := by
  obtain ⟨j, r, e⟩ := fl_num a ns 0 h
  refine ⟨j, ?_⟩
  have lc : lcE (enumE (vE 0)) (tupP 2 (consP (nameP 2) (consP (nameP 3) nilP))) (bE (opE gEq (vE 3) (vE 1))) (vE 2) [2, 3] [some (.tup (ns.map sD)), some (.str a), none, none] S = .ok (.lst (.int j :: r)) S := by
    refine lcE_of (ds := numD 0 (ns.map sD)) (by simp -implicitDefEqProofs [seqN, seqOf]) (by rw [numD_len]; simp; omega) ?_
    rw [← e]
    refine lc_fm _ _ _ fun d hd => ?_
    obtain ⟨i, x, hx, rfl⟩ := mem_num hd
    obtain ⟨z, _, rfl⟩ := List.mem_map.mp hx
    refine ⟨[some (.tup (ns.map sD)), some (.str a), some (.int i), some (.str z)], rfl, ?_, fun _ => rfl⟩
    simp -implicitDefEqProofs [eq_ss]
  have a0 : atI (D.int j :: r) 0 = some (.int j) := by
    rw [at_nn _ (by decide)]; rfl
  unfold M_place_of
  simp -implicitDefEqProofs [lc, List.replicate, a0]
theorem arcs_ok {ns : List Str} {ps : List (Str × Str)} {fs ls : List Str} (G : Good ns ps fs ls) (S : Store) : ∃ ds, M_arcs_of [.tup (ns.map sD), .tup (ps.map pD), .tup (fs.map sD), .tup (ls.map sD)] S = .ok (.tup ds) S := by
  obtain ⟨y1, l1, e1⟩ := lc_ex (g := tupP 2 (consP (nameP 6) (consP (nameP 7) nilP))) (m := tupE (seqE [(callF (fnM 2 (M_place_of)) (seqE [(vE 0), (vE 6)])), (callF (fnM 2 (M_place_of)) (seqE [(vE 0), (vE 7)]))])) (st := [some (.tup (ns.map sD)), some (.tup (ps.map pD)), some (.tup (fs.map sD)), some (.tup (ls.map sD)), some (.int ns.length), none, none, none, none]) (S := S) (ps.map pD) (fun d hd => by
    obtain ⟨p, hp, rfl⟩ := List.mem_map.mp hd
    obtain ⟨m1, m2⟩ := G.pm p hp
    obtain ⟨j1, q1⟩ := place_ok G.n5 m1 S
    obtain ⟨j2, q2⟩ := place_ok G.n5 m2 S
    have z : 2 ≤ sizeLine := by rw [sizeLine_eq]; decide
    refine ⟨[some (.tup (ns.map sD)), some (.tup (ps.map pD)), some (.tup (fs.map sD)), some (.tup (ls.map sD)), some (.int ns.length), none, some (.str p.1), some (.str p.2), none], .tup [.int j1, .int j2], rfl, ?_⟩
    simp -implicitDefEqProofs [q1, q2, z])
  have z2 : 2 ≤ sizeLine := by rw [sizeLine_eq]; decide
  have end1 : ∀ (z5 : Option D), ∃ ys, ys.length = (fs.map sD).length ∧ lcL (nameP 8) yesT (tupE (seqE [(vE 4), (callF (fnM 2 (M_place_of)) (seqE [(vE 0), (vE 8)]))])) (fs.map sD)
      [some (.tup (ns.map sD)), some (.tup (ps.map pD)), some (.tup (fs.map sD)), some (.tup (ls.map sD)), some (.int ns.length), z5, none, none, none] S = .ok ys S := fun z5 => lc_ex _ fun d hd => by
    obtain ⟨w, hw, rfl⟩ := List.mem_map.mp hd
    obtain ⟨j1, q1⟩ := place_ok G.n5 (G.fm w hw) S
    refine ⟨[some (.tup (ns.map sD)), some (.tup (ps.map pD)), some (.tup (fs.map sD)), some (.tup (ls.map sD)), some (.int ns.length), z5, none, none, some (.str w)], .tup [.int ns.length, .int j1], rfl, ?_⟩
    simp -implicitDefEqProofs [q1, z2]
  have end2 : ∀ (z5 : Option D), ∃ ys, ys.length = (ls.map sD).length ∧ lcL (nameP 8) yesT (tupE (seqE [(callF (fnM 2 (M_place_of)) (seqE [(vE 0), (vE 8)])), (vE 4)])) (ls.map sD)
      [some (.tup (ns.map sD)), some (.tup (ps.map pD)), some (.tup (fs.map sD)), some (.tup (ls.map sD)), some (.int ns.length), z5, none, none, none] S = .ok ys S := fun z5 => lc_ex _ fun d hd => by
    obtain ⟨w, hw, rfl⟩ := List.mem_map.mp hd
    obtain ⟨j1, q1⟩ := place_ok G.n5 (G.lm w hw) S
    refine ⟨[some (.tup (ns.map sD)), some (.tup (ps.map pD)), some (.tup (fs.map sD)), some (.tup (ls.map sD)), some (.int ns.length), z5, none, none, some (.str w)], .tup [.int j1, .int ns.length], rfl, ?_⟩
    simp -implicitDefEqProofs [q1, z2]
  obtain ⟨y2, l2, e2⟩ := end1 (some (.lst y1))
  obtain ⟨y3, l3, e3⟩ := end2 (some (.lst (y1 ++ y2)))
  have b1 := G.p9
  have b2 := G.f9
  have b3 := G.l9
  have c1 : lcE (itE (vE 1)) (tupP 2 (consP (nameP 6) (consP (nameP 7) nilP))) yesT (tupE (seqE [(callF (fnM 2 (M_place_of)) (seqE [(vE 0), (vE 6)])), (callF (fnM 2 (M_place_of)) (seqE [(vE 0), (vE 7)]))])) [6, 7] [some (.tup (ns.map sD)), some (.tup (ps.map pD)), some (.tup (fs.map sD)), some (.tup (ls.map sD)), some (.int ns.length), none, none, none, none] S = .ok (.lst y1) S :=
    lcE_of (ds := ps.map pD) rfl (by simp; omega) e1
  have c2 : lcE (itE (vE 2)) (nameP 8) yesT (tupE (seqE [(vE 4), (callF (fnM 2 (M_place_of)) (seqE [(vE 0), (vE 8)]))])) [8] [some (.tup (ns.map sD)), some (.tup (ps.map pD)), some (.tup (fs.map sD)), some (.tup (ls.map sD)), some (.int ns.length), some (.lst y1), none, none, none] S = .ok (.lst y2) S :=
    lcE_of (ds := fs.map sD) rfl (by simp; omega) e2
  have c3 : lcE (itE (vE 3)) (nameP 8) yesT (tupE (seqE [(callF (fnM 2 (M_place_of)) (seqE [(vE 0), (vE 8)])), (vE 4)])) [8] [some (.tup (ns.map sD)), some (.tup (ps.map pD)), some (.tup (fs.map sD)), some (.tup (ls.map sD)), some (.int ns.length), some (.lst (y1 ++ y2)), none, none, none] S = .ok (.lst y3) S :=
    lcE_of (ds := ls.map sD) rfl (by simp; omega) e3
  simp only [List.length_map] at l1 l2 l3
  have a1 : gAdd (.lst y1) (.lst y2) S = some (.lst (y1 ++ y2)) := by
    show catL (some y1) (some y2) = _
    unfold catL
    simp only
    rw [if_pos (by rw [sizeLine_eq]; omega)]
  have a2 : gAdd (.lst (y1 ++ y2)) (.lst y3) S = some (.lst (y1 ++ y2 ++ y3)) := by
    show catL (some (y1 ++ y2)) (some y3) = _
    unfold catL
    simp only
    rw [if_pos (by rw [sizeLine_eq, List.length_append]; omega)]
  have t1 : gTuple (.lst (y1 ++ y2 ++ y3)) S = some (.tup (y1 ++ y2 ++ y3)) := rfl
  refine ⟨y1 ++ y2 ++ y3, ?_⟩
  unfold M_arcs_of
  simp -implicitDefEqProofs only [ra_run, List.map_cons, List.map_nil, List.length_cons, List.length_nil, Nat.reduceAdd, Nat.reduceSub, List.replicate, List.cons_append, List.nil_append, es_seq, es_set, es_ret, ev_callE, ev_seq1, ev_seq0, ev_v, ev_op, bind_ok, g_1, gl_t, List.length_map, Option.map_some,
    of2_some, List.getElem?_cons_zero, List.getElem?_cons_succ, List.set_cons_zero, List.set_cons_succ, c1, c2, c3, a1, a2, t1, ev_of]
theorem n_sorts_links : ¬ (Str.ofString "sorts" = Str.ofString "links") := by decide +kernel
theorem n_sorts_heads : ¬ (Str.ofString "sorts" = Str.ofString "heads") := by decide +kernel
theorem n_sorts_tails : ¬ (Str.ofString "sorts" = Str.ofString "tails") := by decide +kernel
theorem n_sorts_ways : ¬ (Str.ofString "sorts" = Str.ofString "ways") := by decide +kernel
theorem n_links_heads : ¬ (Str.ofString "links" = Str.ofString "heads") := by decide +kernel
theorem n_links_tails : ¬ (Str.ofString "links" = Str.ofString "tails") := by decide +kernel
theorem n_links_ways : ¬ (Str.ofString "links" = Str.ofString "ways") := by decide +kernel
theorem n_heads_tails : ¬ (Str.ofString "heads" = Str.ofString "tails") := by decide +kernel
theorem n_heads_ways : ¬ (Str.ofString "heads" = Str.ofString "ways") := by decide +kernel
theorem n_tails_ways : ¬ (Str.ofString "tails" = Str.ofString "ways") := by decide +kernel
/-- the fields of a rule -/
def rks : List Str := [Str.ofString "sorts", Str.ofString "links", Str.ofString "heads", Str.ofString "tails", Str.ofString "ways"]
theorem init_ok {C : Addr} {ns : List Str} {ps : List (Str × Str)} {fs ls : List Str} (G : Good ns ps fs ls) {S : Store} {n : Nat} (h : S[n]? = some (.ins C [] [])) : ∃ ds, M_Rule__init_ C [.cell n, .tup (ns.map sD), .tup (ps.map pD), .tup (fs.map sD), .tup (ls.map sD)] S = .ok .non (S.set n (.ins C rks [.tup (ns.map sD), .tup (ps.map pD), .tup (fs.map sD), .tup (ls.map sD), .tup ds])) := by
  have hn := (List.getElem?_eq_some_iff.mp h).1
  have gs : ∀ x : Cell, (S.set n x)[n]? = some x := fun x => by rw [List.getElem?_set_self hn]
  have ss : ∀ x y : Cell, (S.set n x).set n y = S.set n y := fun x y => by rw [List.set_set]
  obtain ⟨ds, e⟩ := arcs_ok G (S.set n (.ins C [Str.ofString "sorts", Str.ofString "links", Str.ofString "heads", Str.ofString "tails"] [.tup (ns.map sD), .tup (ps.map pD), .tup (fs.map sD), .tup (ls.map sD)]))
  refine ⟨ds, ?_⟩
  unfold M_Rule__init_
  simp -implicitDefEqProofs [ck_ok G.n0 G.nd G.n5 G.ok, cp_ok G.pn G.pm, ce_ok G.fn G.fm G.ln G.lm G.fl, fsetS, fsetD, mutI, h, gs, ss, putD, exS, List.replicate, rks, n_sorts_links, n_sorts_heads, n_sorts_tails, n_sorts_ways, n_links_heads, n_links_tails, n_links_ways, n_heads_tails, n_heads_ways, n_tails_ways, e]
end K07

set_option linter.all false
set_option maxRecDepth 100000
set_option maxHeartbeats 1000000
/-! KP5: the rule asked. -/
namespace K07
open PySem L2 KF
def rxs (ns : List Str) (ps : List (Str × Str)) (fs ls : List Str) (ds : List D) : List D := [.tup (ns.map sD), .tup (ps.map pD), .tup (fs.map sD), .tup (ls.map sD), .tup ds]
def partsD (ns : List Str) (ps : List (Str × Str)) (fs ls : List Str) : D := .tup [.tup (ns.map sD), .tup (ps.map pD), .tup (fs.map sD), .tup (ls.map sD)]
theorem rule_ok {C : Addr} {ns : List Str} {ps : List (Str × Str)} {fs ls : List Str} (G : Good ns ps fs ls) (S : Store) :
    ∃ ds, M_law_rule C [partsD ns ps fs ls] S = .ok (.ins C rks (rxs ns ps fs ls ds)) (S ++ [.fins C rks (rxs ns ps fs ls ds)]) := by
  have h0 : (S ++ [Cell.ins C [] []])[S.length]? = some (.ins C [] []) := by rw [List.getElem?_append_right (Nat.le_refl _)]; simp
  obtain ⟨ds, e⟩ := init_ok (C := C) G h0
  have ea : (S ++ [Cell.ins C [] []]).set S.length (.ins C rks (rxs ns ps fs ls ds)) = S ++ [.ins C rks (rxs ns ps fs ls ds)] := by
    rw [List.set_append_right _ _ (Nat.le_refl _)]; simp
  have e' : M_Rule__init_ C [.cell S.length, .tup (ns.map sD), .tup (ps.map pD), .tup (fs.map sD), .tup (ls.map sD)] (S ++ [.ins C [] []]) = .ok .non (S ++ [.ins C rks (rxs ns ps fs ls ds)]) := e.trans (congrArg _ ea)
  refine ⟨ds, ?_⟩
  have mk : mkF C (bnd 5 0 (fun ds _ => ds) (M_Rule__init_ C)) [.tup (ns.map sD), .tup (ps.map pD), .tup (fs.map sD), .tup (ls.map sD)] [] S = .ok (.ins C rks (rxs ns ps fs ls ds)) (S ++ [.fins C rks (rxs ns ps fs ls ds)]) := by
    unfold mkF bnd
    rw [if_pos ⟨rfl, rfl⟩, e']
    show frzI C S.length _ = _
    unfold frzI
    rw [List.getElem?_append_right (Nat.le_refl _), Nat.sub_self]
    show (if C = C then _ else _) = _
    rw [if_pos rfl, List.set_append_right _ _ (Nat.le_refl _), Nat.sub_self]
    rfl
  have a0 : ∀ x y z w : D, atI [x, y, z, w] 0 = some x := fun _ _ _ _ => rfl
  have a1 : ∀ x y z w : D, atI [x, y, z, w] 1 = some y := fun _ _ _ _ => rfl
  have a2 : ∀ x y z w : D, atI [x, y, z, w] 2 = some z := fun _ _ _ _ => rfl
  have a3 : ∀ x y z w : D, atI [x, y, z, w] 3 = some w := fun _ _ _ _ => rfl
  unfold M_law_rule partsD
  simp -implicitDefEqProofs [List.replicate, a0, a1, a2, a3, mk]
section
variable {C : Addr} {ns : List Str} {ps : List (Str × Str)} {fs ls : List Str} {ds : List D} {S : Store}
theorem links_ok : fldD C (Str.ofString "links") (.ins C rks (rxs ns ps fs ls ds)) S = some (.tup (ps.map pD)) := by
  unfold fldD insOf
  show (if C = C then (rks.zip (rxs ns ps fs ls ds)).lookup (Str.ofString "links") else none) = _
  rw [if_pos rfl]
  have h : (Str.ofString "links" == Str.ofString "sorts") = false := by decide +kernel
  simp [rks, rxs, List.lookup, h]
theorem con_ok {d : D} {b : Bool} (h : inD S d (.tup (ps.map pD)) = some b) : M_Rule__contains_ C [.ins C rks (rxs ns ps fs ls ds), d] S = .ok (.bl b) S := by
  have g : gIn d (.tup (ps.map pD)) S = some (.bl b) := by unfold gIn; rw [h]; rfl
  unfold M_Rule__contains_
  simp -implicitDefEqProofs [List.replicate, links_ok, g]
theorem len_ok : M_Rule__len_ C [.ins C rks (rxs ns ps fs ls ds)] S = .ok (.int ps.length) S := by
  unfold M_Rule__len_
  simp -implicitDefEqProofs [List.replicate, links_ok]
theorem own_con {d : D} {b neg : Bool} {g : D → D → Store → Option D} (h : inD S d (.tup (ps.map pD)) = some b) : ownOr C (conD (fnM 2 (M_Rule__contains_ C)) neg) g d (.ins C rks (rxs ns ps fs ls ds)) S = .ok (.bl (b != neg)) S := by
  unfold ownOr insOf
  show (if C = C then _ else _) = _
  rw [if_pos rfl]
  unfold conD
  rw [ev_fn, if_pos ⟨rfl, rfl⟩, con_ok h]
theorem repr_bb (b c : Bool) : ∃ z, gRepr (.lst [.bl b, .bl c]) S = some (.str z) := by
  have e : rpD S 40 (.lst [.bl b, .bl c]) = some (.list [.bool b, .bool c]) := by
    simp [rpD, rpDs]
  refine ⟨(PyData.list [.bool b, .bool c]).shown, ?_⟩
  unfold gRepr
  rw [e]
  show (if _ then _ else _) = _
  rw [if_pos]
  refine ⟨by simp [PyData.showable, PyData.showableAll], ?_⟩
  rw [sizeLine_eq]
  cases b <;> cases c <;> decide +kernel
theorem says_ok {d : D} {b : Bool} (h : inD S d (.tup (ps.map pD)) = some b) : M_law_says C [.ins C rks (rxs ns ps fs ls ds), d, .bl b] S = .ok (.bl true) S := by
  obtain ⟨z, hz⟩ := repr_bb (S := S) b (!b)
  have z2 : 2 ≤ sizeLine := by rw [sizeLine_eq]; decide
  have o1 := own_con (C := C) (ns := ns) (ps := ps) (fs := fs) (ls := ls) (ds := ds) (neg := false) (g := gIn) h
  have o2 := own_con (C := C) (ns := ns) (ps := ps) (fs := fs) (ls := ls) (ds := ds) (neg := true) (g := gNotIn) h
  have b1 : (b != false) = b := by cases b <;> rfl
  have b2 : (b != true) = !b := by cases b <;> rfl
  rw [b1] at o1
  rw [b2] at o2
  unfold M_law_says
  simp -implicitDefEqProofs [List.replicate, o1, o2, z2, hz, eq_ss]
theorem repr_i {i : Int} (h0 : 0 ≤ i) (h : i < 2 ^ 40) : ∃ z, gRepr (.int i) S = some (.str z) := by
  have e : rpD S 40 (.int i) = some (.int i) := by simp [rpD]
  refine ⟨(PyData.int i).shown, ?_⟩
  unfold gRepr
  rw [e]
  show (if _ then _ else _) = _
  have hl : i.natAbs.log2 < 1920 := Nat.lt_trans (log_lt (k := 40) h0 h (by decide)) (by decide)
  rw [if_pos]
  refine ⟨by simpa [PyData.showable] using hl, ?_⟩
  simp only [PyData.shown]
  exact int_text_fits hl
end
end K07

set_option linter.all false
set_option maxRecDepth 100000
set_option maxHeartbeats 2000000
/-! KP6: names. -/
namespace K07
open PySem L2 KF
theorem nd_le {α : Type} [DecidableEq α] : ∀ {l l' : List α}, l.Nodup → (∀ x ∈ l, x ∈ l') → l.length ≤ l'.length
  | [], _, _, _ => Nat.zero_le _
  | x :: l, l', hn, hs => by
    have hx := hs x (by simp)
    obtain ⟨h1, h2⟩ := List.nodup_cons.mp hn
    have ih := nd_le (l' := l'.erase x) h2 fun y hy => (List.mem_erase_of_ne (fun e : y = x => h1 (e ▸ hy))).mpr (hs y (by simp [hy]))
    rw [List.length_erase_of_mem hx] at ih
    have := List.length_pos_of_mem hx
    simp only [List.length_cons]
    omega
def nameB (w : Str) : Bool := decide (1 ≤ w.cps.size) && (decide (w.cps.size ≤ 8) && ((match w.cps.toList with | [] => false | c :: _ => decide (c ∈ LETT.cps.toList)) && w.cps.toList.all fun c => decide (c ∈ LETT.cps.toList) || decide (c ∈ DIGI.cps.toList)))
theorem nameB_ok {w : Str} (h : nameB w = true) : NameOk w := by
  unfold nameB at h
  simp only [Bool.and_eq_true, decide_eq_true_eq, List.all_eq_true, Bool.or_eq_true] at h
  obtain ⟨h1, h2, h3, h4⟩ := h
  refine ⟨h1, h2, ?_, h4⟩
  cases e : w.cps.toList with
  | nil => rw [e] at h3; cases h3
  | cons c r =>
    rw [e] at h3
    exact ⟨c, rfl, by simpa using h3⟩
abbrev SIGNS : Str := Str.ofString "abcdefghijklmnopqrstuvwxyz0123456789"
theorem sign_at (r : Nat) (h : r < 36) : ∃ c, SIGNS.cps.toList[r]? = some c ∧ (c ∈ LETT.cps.toList ∨ c ∈ DIGI.cps.toList) ∧ (r < 26 → c ∈ LETT.cps.toList) := by
  have : ∀ r : Fin 36, (match SIGNS.cps.toList[r.val]? with | some c => (decide (c ∈ LETT.cps.toList) || decide (c ∈ DIGI.cps.toList)) && (decide (26 ≤ r.val) || decide (c ∈ LETT.cps.toList)) | none => false) = true := by decide +kernel
  have z := this ⟨r, h⟩
  simp only at z
  cases e : SIGNS.cps.toList[r]? with
  | none => rw [e] at z; cases z
  | some c =>
    rw [e] at z
    simp only [Bool.and_eq_true, Bool.or_eq_true, decide_eq_true_eq] at z
    exact ⟨c, rfl, z.1, fun h26 => z.2.resolve_left (by omega)⟩
theorem ix_sign {r : Int} {S : Store} (h0 : 0 ≤ r) (h : r < 36) : ∃ c, gIx (.str SIGNS) (.int r) S = some (.str ⟨#[c]⟩) ∧ (c ∈ LETT.cps.toList ∨ c ∈ DIGI.cps.toList) ∧ (r < 26 → c ∈ LETT.cps.toList) := by
  obtain ⟨c, hc, h1, h2⟩ := sign_at r.toNat (by omega)
  refine ⟨c, ?_, h1, fun z => h2 (by omega)⟩
  show (if SIGNS.length ≤ sizeLine then (L2.atI SIGNS.cps.toList r).map fun c => D.str ⟨#[c]⟩ else none) = _
  rw [if_pos (by rw [sizeLine_eq]; decide +kernel), at_nn _ h0, hc]
  rfl
/-- a word that grows -/
structure Wd (j : Nat) (w : Str) : Prop where
  sz : w.cps.size = 1 + j
  hd : ∃ c, w.cps.toList[0]? = some c ∧ c ∈ LETT.cps.toList
  al : ∀ c ∈ w.cps.toList, c ∈ LETT.cps.toList ∨ c ∈ DIGI.cps.toList
theorem Wd.one {c : Nat} (h : c ∈ LETT.cps.toList) : Wd 0 ⟨#[c]⟩ := ⟨rfl, ⟨c, rfl, h⟩, fun d hd => by simp at hd; subst hd; exact .inl h⟩
theorem Wd.snoc {j : Nat} {w : Str} {c : Nat} (h : Wd j w) (hc : c ∈ LETT.cps.toList ∨ c ∈ DIGI.cps.toList) : Wd (j + 1) (w ++ ⟨#[c]⟩) := by
  have e : (w ++ (⟨#[c]⟩ : Str)).cps = w.cps ++ #[c] := rfl
  obtain ⟨c0, h1, h2⟩ := h.hd
  refine ⟨by rw [e]; simp [h.sz]; omega, ⟨c0, ?_, h2⟩, fun d hd => ?_⟩
  · rw [e, Array.toList_append, List.getElem?_append_left (by rw [Array.length_toList, h.sz]; omega)]
    exact h1
  · rw [e, Array.toList_append, List.mem_append] at hd
    rcases hd with hd | hd
    · exact h.al d hd
    · simp at hd; subst hd; exact hc
theorem Wd.name {j : Nat} {w : Str} (h : Wd j w) (hj : j ≤ 7) : NameOk w := ⟨by rw [h.sz]; omega, by rw [h.sz]; omega, h.hd, h.al⟩
def WORDS : List Str := [Str.ofString "kinds", Str.ofString "pair", Str.ofString "first", Str.ofString "last", Str.ofString "laid", Str.ofString "a", Str.ofString "b", Str.ofString "z0"]
theorem words_ok : ∀ w ∈ WORDS, NameOk w := fun w hw => nameB_ok (List.all_eq_true.mp (show WORDS.all nameB = true by decide +kernel) w hw)
def yw (k : Nat) : Str := Str.ofString "y" ++ (Str.ofString (toString (k : Int)))
theorem yw_ok {k : Nat} (h : k < 5) : NameOk (yw k) := nameB_ok (by
  have : ∀ k : Fin 5, nameB (yw k.val) = true := by decide +kernel
  exact this ⟨k, h⟩)
theorem yw_nd {m : Nat} (h : m ≤ 5) : ((List.range m).map yw).Nodup := by
  have : ∀ m : Fin 6, ((List.range m.val).map yw).Nodup := by decide +kernel
  exact this ⟨m, by omega⟩
theorem yw_free {m : Nat} {ws : List Str} (h : m ≤ 5) (hl : ws.length < m) : ∃ k, k < m ∧ yw k ∉ ws := by
  by_cases hh : ∃ k, k < m ∧ yw k ∉ ws
  · exact hh
  · exfalso
    have := nd_le (l' := ws) (yw_nd h) fun x hx => by
      obtain ⟨k, hk, rfl⟩ := List.mem_map.mp hx
      by_cases hm : yw k ∈ ws
      · exact hm
      · exact absurd ⟨k, by simpa using hk, hm⟩ hh
    simp at this
    omega
/-- the slots of _law_names -/
abbrev nst (n m q : Nat) (x5 x6 x7 x8 : Option D) : DSt := [some (.cell n), some (.int m), some (.str SIGNS), some (.lst (WORDS.map sD)), some (.cell q), x5, x6, x7, x8, none, none]
abbrev nmB1 : SM := setS 7 (opE gAdd (vE 7) (opE gIx (vE 2) (callF (fnM 2 (M_law_draw)) (seqE [(vE 0), (cE (.int 36))]))))
theorem grow_ok {n m q B : Nat} {x5 x6 x8 : Option D} {k : Nat} {w : Str} {S : Store} (hk : k ≤ 7) (hw : Wd 0 w) (h : PU S n B) (hB : B + 10 < 2 ^ 60) :
    ∃ x8' w' S', forL (nameG 8) nmB1 (rangeI 0 k) (nst n m q x5 x6 (some (.str w)) x8) S = .nx (nst n m q x5 x6 (some (.str w')) x8') S' ∧ NameOk w' ∧ PU S' n (B + k) ∧ Fr n S S' ∧ S'.length = S.length := by
  obtain ⟨st', S', e, x8', w', rfl, h1, h2, h3, h4⟩ := for_rng (g := nameG 8) (b := nmB1) (fun i st T => ∃ x8' w', st = nst n m q x5 x6 (some (.str w')) x8' ∧ Wd i w' ∧ PU T n (B + i) ∧ Fr n S T ∧ T.length = S.length) k
    (st := nst n m q x5 x6 (some (.str w)) x8) (S := S) ⟨x8, w, rfl, hw, h, .refl n S, rfl⟩ (by
    rintro i st T hi ⟨x8', w', rfl, h1, h2, h3, h4⟩
    obtain ⟨r, T', e1, r0, r1, p1, f1, l1⟩ := draw_ok (k := 36) h2 (by decide) (by decide) (by omega)
    obtain ⟨c, g1, g2, _⟩ := ix_sign (S := T') r0 r1
    have sz := h1.sz
    have ga : gAdd (.str w') (.str ⟨#[c]⟩) T' = some (.str (w' ++ ⟨#[c]⟩)) := by
      show (if w'.length + (⟨#[c]⟩ : Str).length ≤ sizeLine then _ else _) = _
      rw [if_pos]
      rw [sizeLine_eq]
      show w'.cps.size + 1 ≤ _
      omega
    refine ⟨nst n m q x5 x6 (some (.str w')) (some (.int i)), T, nst n m q x5 x6 (some (.str (w' ++ ⟨#[c]⟩))) (some (.int i)), T', rfl, ?_, some (.int i), w' ++ ⟨#[c]⟩, rfl, h1.snoc g2, p1, h3.trans f1, by omega⟩
    simp -implicitDefEqProofs [nmB1, nst, e1, g1, ga])
  exact ⟨x8', w', S', e, h1.name hk, h2, h3, h4⟩
abbrev nmFree : EM D := opE gIx (lcE (itE (lcE (rng1E (vE 1)) (nameP 10) yesT (opE gAdd (cE (.str (Str.ofString "y"))) (callE (g1 gStr) (seqE [(vE 10)]))) [10])) (nameP 9) (bE (opE gNotIn (vE 9) (vE 4))) (vE 9) [9]) (cE (.int 0))
theorem in_cell {q : Nat} {ws : List Str} {S : Store} {a : Str} (h : S[q]? = some (.lst (ws.map sD))) : inD S (.str a) (.cell q) = some (decide (a ∈ ws)) := by
  rw [← in_strs (S := S)]
  show (asQ S (.cell q)).bind _ = (asQ S (.tup (ws.map sD))).bind _
  simp [asQ, asL, h]
theorem free_ok {n m q : Nat} {x5 x6 x7 x8 : Option D} {ws : List Str} {S : Store} (hm : m ≤ 5) (hl : ws.length < m) (h : S[q]? = some (.lst (ws.map sD))) : ∃ w, nmFree (nst n m q x5 x6 x7 x8) S = .ok (.str w) S ∧ NameOk w ∧ w ∉ ws := by
  have l1 : lcE (rng1E (vE 1)) (nameP 10) yesT (opE gAdd (cE (.str (Str.ofString "y"))) (callE (g1 gStr) (seqE [(vE 10)]))) [10] (nst n m q x5 x6 x7 x8) S = .ok (.lst (((List.range m).map yw).map sD)) S := by
    refine lcE_of (ds := rangeI 0 m) (ei_rng (k := (m : Int)) rfl (by omega) (by omega)) (by rw [range_len]; omega) ?_
    have e0 : (((List.range m).map yw).map sD) = (rangeI 0 m).map (fun d => match d with | .int i => .str (Str.ofString "y" ++ Str.ofString (toString i)) | d => d) := by
      simp [rangeI, yw, sD]
    rw [e0]
    refine lc_map _ _ fun d hd => ?_
    obtain ⟨i, hi⟩ := List.mem_iff_getElem?.mp hd
    obtain ⟨hi2, rfl⟩ := range_get hi
    refine ⟨(nst n m q x5 x6 x7 x8).set 10 (some (.int i)), rfl, ?_⟩
    have gs : gStr (.int (i : Int)) S = some (.str (Str.ofString (toString (i : Int)))) := by
      have : (i : Int).natAbs.log2 < 1920 := Nat.lt_trans (log_lt (k := 40) (by omega) (by omega) (by decide)) (by decide)
      show (if (i : Int).natAbs.log2 < 1920 then _ else _) = _
      rw [if_pos this]
    have ga : gAdd (.str (Str.ofString "y")) (.str (Str.ofString (toString (i : Int)))) S = some (.str (Str.ofString "y" ++ Str.ofString (toString (i : Int)))) := by
      have : ∀ i : Fin 5, (Str.ofString "y").length + (Str.ofString (toString (i.val : Int))).length ≤ 16777216 := by decide +kernel
      have z := this ⟨i, by omega⟩
      show (if (Str.ofString "y").length + (Str.ofString (toString (i : Int))).length ≤ sizeLine then _ else _) = _
      rw [if_pos (by rw [sizeLine_eq]; exact z)]
    simp -implicitDefEqProofs only [nst, ev_op, ev_c, bind_ok, ev_callE, ev_seq1, ev_seq0, ev_v, List.set_cons_succ, List.set_cons_zero, List.getElem?_cons_succ, List.getElem?_cons_zero, g_1, gs, Option.map_some, of2_some, ga, ev_of]
  have l2 : lcE (itE (lcE (rng1E (vE 1)) (nameP 10) yesT (opE gAdd (cE (.str (Str.ofString "y"))) (callE (g1 gStr) (seqE [(vE 10)]))) [10])) (nameP 9) (bE (opE gNotIn (vE 9) (vE 4))) (vE 9) [9] (nst n m q x5 x6 x7 x8) S =
      .ok (.lst (((((List.range m).map yw).map sD).filter (fun d => match d with | .str a => !decide (a ∈ ws) | _ => false)).map id)) S := by
    refine lcE_of (ds := ((List.range m).map yw).map sD) (by simp -implicitDefEqProofs only [ei_it, l1, bind_ok, seqOf]) (by simp; omega) ?_
    refine lc_fm _ _ _ fun d hd => ?_
    obtain ⟨a, ha, rfl⟩ := List.mem_map.mp hd
    refine ⟨(nst n m q x5 x6 x7 x8).set 9 (some (.str a)), rfl, ?_, fun _ => rfl⟩
    simp -implicitDefEqProofs [nst, gNotIn, in_cell h]
  obtain ⟨k, hk, hf⟩ := yw_free hm hl
  have hmem : sD (yw k) ∈ (((((List.range m).map yw).map sD).filter (fun d => match d with | .str a => !decide (a ∈ ws) | _ => false)).map id) := by
    simp only [List.map_id_fun, id, List.mem_filter]
    exact ⟨List.mem_map.mpr ⟨_, List.mem_map.mpr ⟨k, by simpa using hk, rfl⟩, rfl⟩, by simp [hf]⟩
  cases hL : (((((List.range m).map yw).map sD).filter (fun d => match d with | .str a => !decide (a ∈ ws) | _ => false)).map id) with
  | nil => rw [hL] at hmem; cases hmem
  | cons d r =>
    have hd : d ∈ (((((List.range m).map yw).map sD).filter (fun d => match d with | .str a => !decide (a ∈ ws) | _ => false)).map id) := by rw [hL]; simp
    simp only [List.map_id_fun, id, List.mem_filter] at hd
    obtain ⟨h1, h2⟩ := hd
    obtain ⟨a, ha, rfl⟩ := List.mem_map.mp h1
    obtain ⟨j, hj, rfl⟩ := List.mem_map.mp ha
    rw [hL] at l2
    refine ⟨yw j, ?_, yw_ok (by simp at hj; omega), by simpa using h2⟩
    have a0 : atI (sD (yw j) :: r) 0 = some (sD (yw j)) := by rw [at_nn _ (by decide)]; rfl
    simp -implicitDefEqProofs only [nmFree, ev_op, l2, bind_ok, ev_c, gix_l, a0, ev_of]
end K07

set_option linter.all false
set_option maxRecDepth 100000
set_option maxHeartbeats 2000000
/-! KP7: names, ends. -/
namespace K07
open PySem L2 KF
abbrev nmBody : SM := (seqS (setsS [6, 7] (seqE [(callF (fnM 2 (M_law_draw)) (seqE [(vE 0), (cE (.int 4))])), (opE gIx (vE 2) (callF (fnM 2 (M_law_draw)) (seqE [(vE 0), (cE (.int 26))])))]))
    (seqS (forS (rng1E (callF (fnM 2 (M_law_draw)) (seqE [(vE 0), (ifE (bE (opE gEq (vE 6) (cE (.int 0)))) (cE (.int 8)) (cE (.int 3)))]))) (nameG 8) nmB1)
    (seqS (ifS (bE (opE gEq (callF (fnM 2 (M_law_draw)) (seqE [(vE 0), (cE (.int 5))])) (cE (.int 0)))) (setS 7 (opE gIx (vE 3) (callF (fnM 2 (M_law_draw)) (seqE [(vE 0), (cE (.int 8))])))) nextS)
    (seqS (ifS (bE (opE gIn (vE 7) (vE 4))) (setS 7 nmFree) nextS)
    (exprS (methE okL mAppend (vE 4) (seqE [(vE 7)])))))))
theorem name_step {n m q B : Nat} {x5 x6 x7 x8 : Option D} {ws : List Str} {S : Store} (hm : m ≤ 5) (hl : ws.length < m) (h : S[q]? = some (.lst (ws.map sD))) (hq : q ≠ n) (hnd : ws.Nodup) (hok : ∀ w ∈ ws, NameOk w) (hp : PU S n B) (hB : B + 20 < 2 ^ 60) :
    ∃ x6' x7' x8' w S', nmBody (nst n m q x5 x6 x7 x8) S = .nx (nst n m q x5 x6' x7' x8') S' ∧ S'[q]? = some (.lst ((ws ++ [w]).map sD)) ∧ (ws ++ [w]).Nodup ∧ (∀ x ∈ ws ++ [w], NameOk x) ∧ PU S' n (B + 14) ∧ S'.length = S.length ∧ ∀ j, j < S.length → j ≠ n → j ≠ q → S'[j]? = S[j]? := by
  have hqS := (List.getElem?_eq_some_iff.mp h).1
  obtain ⟨r1, S1, e1, a0, a1, p1, f1, l1⟩ := draw_ok (k := 4) hp (by decide) (by decide) (by omega)
  obtain ⟨r2, S2, e2, b0, b1, p2, f2, l2⟩ := draw_ok (k := 26) p1 (by decide) (by decide) (by omega)
  obtain ⟨c, g1, _, g2⟩ := ix_sign (S := S2) b0 (by omega : r2 < 36)
  have w0 := Wd.one (g2 b1)
  -- how many more
  have hk : ∃ k : Int, 0 < k ∧ k ≤ 8 ∧ ifE (bE (opE gEq (vE 6) (cE (.int 0)))) (cE (.int 8)) (cE (.int 3)) (nst n m q x5 (some (.int r1)) (some (.str ⟨#[c]⟩)) x8) S2 = .ok (.int k) S2 := by
    by_cases z : r1 = 0
    · exact ⟨8, by decide, by decide, by simp -implicitDefEqProofs [nst, eqi, z]⟩
    · exact ⟨3, by decide, by decide, by simp -implicitDefEqProofs [nst, eqi, z]⟩
  obtain ⟨k, k0, k8, ek⟩ := hk
  obtain ⟨r3, S3, e3, c0, c1, p3, f3, l3⟩ := draw_ok (k := k) p2 k0 (by omega) (by omega)
  obtain ⟨x8', w1, S4, e4, n1, p4, f4, l4⟩ := grow_ok (m := m) (q := q) (x5 := x5) (x6 := some (.int r1)) (x8 := x8) (k := r3.toNat) (by omega) w0 p3 (by omega)
  obtain ⟨r5, S5, e5, d0, d1, p5, f5, l5⟩ := draw_ok (k := 5) p4 (by decide) (by decide) (by omega)
  -- a word of texts at times
  have hw : ∃ w2 S6, ifS (bE (opE gEq (callF (fnM 2 (M_law_draw)) (seqE [(vE 0), (cE (.int 5))])) (cE (.int 0)))) (setS 7 (opE gIx (vE 3) (callF (fnM 2 (M_law_draw)) (seqE [(vE 0), (cE (.int 8))])))) nextS (nst n m q x5 (some (.int r1)) (some (.str w1)) x8') S4 = .nx (nst n m q x5 (some (.int r1)) (some (.str w2)) x8') S6 ∧ NameOk w2 ∧ PU S6 n (B + 3 + r3.toNat + 2) ∧ Fr n S4 S6 ∧ S6.length = S4.length := by
    by_cases z : r5 = 0
    · obtain ⟨r6, S6, e6, q0, q1, p6, f6, l6⟩ := draw_ok (k := 8) p5 (by decide) (by decide) (by omega)
      have hlt : r6.toNat < WORDS.length := by show r6.toNat < 8; omega
      refine ⟨WORDS[r6.toNat], S6, ?_, words_ok _ (List.getElem_mem hlt), p6.mono (by omega), f5.trans f6, by omega⟩
      have gi : atI (WORDS.map sD) r6 = some (sD WORDS[r6.toNat]) := by
        rw [at_nn _ q0, List.getElem?_map, List.getElem?_eq_getElem hlt]; rfl
      simp -implicitDefEqProofs [nst, e5, e6, eqi, z, gi]
    · refine ⟨w1, S5, ?_, n1, p5.mono (by omega), f5, by omega⟩
      simp -implicitDefEqProofs [nst, e5, eqi, z]
  obtain ⟨w2, S6, e6, n2, p6, f6, l6⟩ := hw
  have FR := (((f1.trans f2).trans f3).trans f4).trans f6
  have hL : S6.length = S.length := by omega
  have h6 : S6[q]? = some (.lst (ws.map sD)) := by rw [FR.oth q hqS hq]; exact h
  -- another one if it is there
  have hf : ∃ w3, ifS (bE (opE gIn (vE 7) (vE 4))) (setS 7 nmFree) nextS (nst n m q x5 (some (.int r1)) (some (.str w2)) x8') S6 = .nx (nst n m q x5 (some (.int r1)) (some (.str w3)) x8') S6 ∧ NameOk w3 ∧ w3 ∉ ws := by
    by_cases z : w2 ∈ ws
    · obtain ⟨w3, e7, n3, m3⟩ := free_ok (n := n) (x5 := x5) (x6 := some (.int r1)) (x7 := some (.str w2)) (x8 := x8') hm hl h6
      refine ⟨w3, ?_, n3, m3⟩
      have gi : bE (opE gIn (vE 7) (vE 4)) (nst n m q x5 (some (.int r1)) (some (.str w2)) x8') S6 = .ok true S6 := by
        simp -implicitDefEqProofs [nst, gIn, in_cell h6, z]
      rw [es_if, gi]
      show setS 7 nmFree _ S6 = _
      rw [es_set, e7]
      rfl
    · refine ⟨w2, ?_, n2, z⟩
      simp -implicitDefEqProofs [nst, gIn, in_cell h6, z]
  obtain ⟨w3, e7, n3, m3⟩ := hf
  have hq6 : q < S6.length := by omega
  refine ⟨some (.int r1), some (.str w3), x8', w3, S6.set q (.lst ((ws ++ [w3]).map sD)), ?_, by rw [List.getElem?_set_self hq6], ?_, ?_, ?_, by simp [hL], fun j j1 j2 j3 => by rw [List.getElem?_set_ne (Ne.symm j3), FR.oth j j1 j2]⟩
  · have s1 : setsS [6, 7] (seqE [(callF (fnM 2 (M_law_draw)) (seqE [(vE 0), (cE (.int 4))])), (opE gIx (vE 2) (callF (fnM 2 (M_law_draw)) (seqE [(vE 0), (cE (.int 26))])))]) (nst n m q x5 x6 x7 x8) S = .nx (nst n m q x5 (some (.int r1)) (some (.str ⟨#[c]⟩)) x8) S2 := by
      simp -implicitDefEqProofs [nst, e1, e2, g1]
    have s2 : forS (rng1E (callF (fnM 2 (M_law_draw)) (seqE [(vE 0), (ifE (bE (opE gEq (vE 6) (cE (.int 0)))) (cE (.int 8)) (cE (.int 3)))]))) (nameG 8) nmB1 (nst n m q x5 (some (.int r1)) (some (.str ⟨#[c]⟩)) x8) S2 = .nx (nst n m q x5 (some (.int r1)) (some (.str w1)) x8') S4 := by
      have er : rng1E (callF (fnM 2 (M_law_draw)) (seqE [(vE 0), (ifE (bE (opE gEq (vE 6) (cE (.int 0)))) (cE (.int 8)) (cE (.int 3)))])) (nst n m q x5 (some (.int r1)) (some (.str ⟨#[c]⟩)) x8) S2 = .ok (rangeI 0 r3.toNat) S3 := by
        refine ei_rng (k := r3) ?_ c0 (by omega)
        have ev0 : vE 0 (nst n m q x5 (some (.int r1)) (some (.str ⟨#[c]⟩)) x8) S2 = .ok (.cell n) S2 := rfl
        simp -implicitDefEqProofs only [ev_callF, ev_seq1, ev_seq0, ev0, bind_ok, ek, ev_fn, List.length_cons, List.length_nil, Nat.zero_add, Nat.reduceAdd, and_self, if_true, e3]
      rw [es_for, er]
      exact e4
    have s5 : exprS (methE okL mAppend (vE 4) (seqE [(vE 7)])) (nst n m q x5 (some (.int r1)) (some (.str w3)) x8') S6 = .nx (nst n m q x5 (some (.int r1)) (some (.str w3)) x8') (S6.set q (.lst ((ws ++ [w3]).map sD))) := by
      have sz : ws.length < sizeLine := by rw [sizeLine_eq]; omega
      simp -implicitDefEqProofs [nst, okL, asL, h6, mAppend, mutL, sz]
    simp -implicitDefEqProofs only [nmBody, es_seq, s1, s2, e6, e7, s5]
  · rw [List.nodup_append]
    exact ⟨hnd, by simp, fun a ha b hb => by simp at hb; subst hb; exact fun e => m3 (e ▸ ha)⟩
  · intro x hx
    rcases List.mem_append.mp hx with hx | hx
    · exact hok x hx
    · simp at hx; subst hx; exact n3
  · obtain ⟨a, b, c, q1, q2, q3, q4, q5⟩ := p6
    exact ⟨a, b, c, by rw [List.getElem?_set_ne hq]; exact q1, q2, q3, q4, by omega⟩
theorem names_ok {n m B : Nat} {S : Store} (hm : m ≤ 5) (hp : PU S n B) (hB : B + 100 < 2 ^ 60) :
    ∃ (q : Nat) (S' : Store) (ws : List Str), M_law_names [.cell n, .int m] S = .ok (.cell q) S' ∧ S'[q]? = some (.lst (ws.map sD)) ∧ ws.Nodup ∧ (∀ x ∈ ws, NameOk x) ∧ ws.length = m ∧ PU S' n (B + 14 * m) ∧ Fr n S S' ∧ S.length ≤ q := by
  have hn := hp.lt
  have pe : ∀ T : Store, PU (S ++ T) n B := fun T => by
    obtain ⟨a, b, c, q1, q2⟩ := hp
    exact ⟨a, b, c, by rw [List.getElem?_append_left hn]; exact q1, q2⟩
  obtain ⟨st', S', e, ws, x5, x6, x7, x8, rfl, h1, h2, h3, h4, h5, h6, h7⟩ := for_rng (g := nameG 5) (b := nmBody) (fun i st T => ∃ (ws : List Str) (x5 x6 x7 x8 : Option D), st = nst n m S.length x5 x6 x7 x8 ∧ T[S.length]? = some (.lst (ws.map sD)) ∧ ws.Nodup ∧ (∀ x ∈ ws, NameOk x) ∧ ws.length = i ∧ PU T n (B + 14 * i) ∧ T.length = S.length + 1 ∧ ∀ j, j < S.length → j ≠ n → T[j]? = S[j]?) m
    (st := nst n m S.length none none none none) (S := S ++ [.lst []]) ⟨[], none, none, none, none, rfl, by simp, by simp, by simp, rfl, by simpa using pe _, by simp, fun j h1 h2 => by rw [List.getElem?_append_left h1]⟩ (by
    rintro i st T hi ⟨ws, x5, x6, x7, x8, rfl, h1, h2, h3, h4, h5, h6, h7⟩
    obtain ⟨x6', x7', x8', w, T', e, k1, k2, k3, k4, k5, k6⟩ := name_step (x5 := some (.int i)) (x6 := x6) (x7 := x7) (x8 := x8) hm (by omega) h1 (by omega) h2 h3 h5 (by omega)
    exact ⟨nst n m S.length (some (.int i)) x6 x7 x8, T, _, T', rfl, e, ws ++ [w], _, x6', x7', x8', rfl, k1, k2, k3, by simp [h4], k4, by omega, fun j j1 j2 => by rw [k6 j (by omega) j2 (by omega), h7 j j1 j2]⟩)
  refine ⟨S.length, S', ws, ?_, h1, h2, h3, h4, h5, ⟨by omega, h7⟩, Nat.le_refl _⟩
  have er : rng1E (vE 1) (nst n m S.length none none none none) (S ++ [.lst []]) = .ok (rangeI 0 m) (S ++ [.lst []]) := ei_rng (k := (m : Int)) rfl (by omega) (by omega)
  have ef : forS (rng1E (vE 1)) (nameG 5) nmBody (nst n m S.length none none none none) (S ++ [.lst []]) = .nx (nst n m S.length x5 x6 x7 x8) S' := by
    rw [es_for, er]
    exact e
  have z8 : 8 ≤ sizeLine := by rw [sizeLine_eq]; decide
  have s1 : setsS [2, 3] (seqE [(cE (.str (Str.ofString "abcdefghijklmnopqrstuvwxyz0123456789"))), (lstE (seqE [(cE (.str (Str.ofString "kinds"))), (cE (.str (Str.ofString "pair"))), (cE (.str (Str.ofString "first"))), (cE (.str (Str.ofString "last"))), (cE (.str (Str.ofString "laid"))), (cE (.str (Str.ofString "a"))), (cE (.str (Str.ofString "b"))), (cE (.str (Str.ofString "z0")))]))]) [some (.cell n), some (.int m), none, none, none, none, none, none, none, none, none] S = .nx [some (.cell n), some (.int m), some (.str SIGNS), some (.lst (WORDS.map sD)), none, none, none, none, none, none, none] S := by
    simp -implicitDefEqProofs [z8, WORDS]
  have s2 : setS 4 (lstC (seqE [])) [some (.cell n), some (.int m), some (.str SIGNS), some (.lst (WORDS.map sD)), none, none, none, none, none, none, none] S = .nx (nst n m S.length none none none none) (S ++ [.lst []]) := by
    simp -implicitDefEqProofs [nst]
  exact run_rt (st := [some (.cell n), some (.int m), none, none, none, none, none, none, none, none, none]) rfl ((seq_nx s1).trans ((seq_nx s2).trans ((seq_nx ef).trans (ret_ok rfl))))
theorem take_1 {α : Type} {xs : List α} {k : Nat} (h : xs ≠ []) (hk : 0 < k) : xs.take k ≠ [] := by
  cases xs with
  | nil => exact absurd rfl h
  | cons x xs => cases k with
    | zero => omega
    | succ k => simp
theorem ends_ok {n B : Nat} {S : Store} {ws : List Str} (h0 : ws ≠ []) (h5 : ws.length ≤ 5) (hnd : ws.Nodup) (hp : PU S n B) (hB : B + 100 < 2 ^ 60) :
    ∃ fs S', M_law_ends [.cell n, .tup (ws.map sD)] S = .ok (.tup (fs.map sD)) S' ∧ fs ≠ [] ∧ fs.Nodup ∧ (∀ x ∈ fs, x ∈ ws) ∧ fs.length ≤ 5 ∧ PU S' n (B + 6) ∧ Fr n S S' := by
  obtain ⟨q, S1, os, e1, o1, o2, o3, o4, p1, f1, lq⟩ := order_ok (m := ws.length) hp (by omega) (by omega)
  have hl : 0 < ws.length := List.length_pos_iff.mpr h0
  obtain ⟨r, S2, e2, r0, r1, p2, f2, l2⟩ := draw_ok (k := (ws.length : Int)) p1 (by omega) (by omega) (by omega)
  have hqn : q ≠ n := fun z => by have := hp.lt; omega
  have hq2 : S2[q]? = some (.lst (os.map nD)) := by rw [f2.oth q (List.getElem?_eq_some_iff.mp o1).1 hqn]; exact o1
  have ek : (1 + r.toNat : Nat) = (1 + r : Int) := by omega
  have es : slE (vE 2) none (some (opE gAdd (cE (.int 1)) (callF (fnM 2 (M_law_draw)) (seqE [(vE 0), (callE (g1 gLen) (seqE [(vE 1)]))])))) [some (.cell n), some (.tup (ws.map sD)), some (.cell q), none] S1 = .ok (.lst ((os.take (1 + r.toNat)).map nD)) S2 := by
    have eh : opE gAdd (cE (.int 1)) (callF (fnM 2 (M_law_draw)) (seqE [(vE 0), (callE (g1 gLen) (seqE [(vE 1)]))])) [some (.cell n), some (.tup (ws.map sD)), some (.cell q), none] S1 = .ok (.int (1 + r.toNat : Nat)) S2 := by
      rw [ek]
      simp -implicitDefEqProofs [e2]
    have gs : gSl (.cell q) none (some ((1 + r.toNat : Nat) : Int)) S2 = some (.lst ((os.take (1 + r.toNat)).map nD)) := by
      unfold gSl
      simp only [asL, hq2, Option.map_some, cut_take, map_take]
    have ea : vE 2 [some (.cell n), some (.tup (ws.map sD)), some (.cell q), none] S1 = .ok (.cell q) S1 := rfl
    unfold slE
    simp -implicitDefEqProofs only [ea, optE, bind_ok, eh, iRes, gs, ev_of]
  let f : Nat → Str := fun o => ws.getD o (Str.ofString "")
  have lc : lcE (itE (slE (vE 2) none (some (opE gAdd (cE (.int 1)) (callF (fnM 2 (M_law_draw)) (seqE [(vE 0), (callE (g1 gLen) (seqE [(vE 1)]))])))))) (nameP 3) yesT (opE gIx (vE 1) (vE 3)) [3] [some (.cell n), some (.tup (ws.map sD)), some (.cell q), none] S1 = .ok (.lst (((os.take (1 + r.toNat)).map f).map sD)) S2 := by
    refine lcE_of (ds := (os.take (1 + r.toNat)).map nD) (by simp -implicitDefEqProofs only [ei_it, es, bind_ok, seqOf]) (by simp; omega) ?_
    have e0 : ((os.take (1 + r.toNat)).map f).map sD = ((os.take (1 + r.toNat)).map nD).map (fun d => match d with | .int i => sD (f i.toNat) | d => d) := by
      simp [nD, Function.comp_def]
    rw [e0]
    refine lc_map _ _ fun d hd => ?_
    obtain ⟨o, ho, rfl⟩ := List.mem_map.mp hd
    have hlt := o4 o (List.mem_of_mem_take ho)
    refine ⟨[some (.cell n), some (.tup (ws.map sD)), some (.cell q), some (.int o)], rfl, ?_⟩
    have ga : atI (ws.map sD) (o : Int) = some (sD (f o)) := by
      rw [at_nat, List.getElem?_map, List.getElem?_eq_getElem hlt]
      simp [f, List.getD, hlt]
    simp -implicitDefEqProofs [nD, ga]
  refine ⟨(os.take (1 + r.toNat)).map f, S2, ?_, ?_, ?_, ?_, ?_, p2.mono (by omega), f1.trans f2⟩
  · have gt : gTuple (.lst (((os.take (1 + r.toNat)).map f).map sD)) S2 = some (.tup (((os.take (1 + r.toNat)).map f).map sD)) := rfl
    unfold M_law_ends
    simp -implicitDefEqProofs only [ra_run, List.map_cons, List.map_nil, List.length_cons, List.length_nil, Nat.zero_add, Nat.reduceAdd, Nat.reduceSub, List.replicate, List.cons_append, List.nil_append, es_seq, es_set, ev_callF, ev_seq1, ev_seq0, ev_v, ev_callE, bind_ok, g_1, gl_t, List.length_map, Option.map_some, of2_some, List.getElem?_cons_succ, List.getElem?_cons_zero, ev_fn, and_self, if_true, e1,
      List.set_cons_succ, List.set_cons_zero, es_ret, lc, gt]
  · simp only [ne_eq, List.map_eq_nil_iff]
    exact take_1 (fun z => by rw [z] at o3; simp at o3; omega) (by omega)
  · refine List.Pairwise.map f (fun a b h => h) (List.Pairwise.imp_of_mem ?_ (o2.sublist (List.take_sublist (1 + r.toNat) os)))
    intro a b ha hb hab
    have h1 := o4 a (List.mem_of_mem_take ha)
    have h2 := o4 b (List.mem_of_mem_take hb)
    have e1 : f a = ws[a] := by simp [f, List.getD, h1]
    have e2 : f b = ws[b] := by simp [f, List.getD, h2]
    rw [e1, e2]
    exact fun z => hab ((List.getElem_inj (h₀ := h1) (h₁ := h2) hnd).mp z)
  · intro x hx
    obtain ⟨o, ho, rfl⟩ := List.mem_map.mp hx
    have hlt := o4 o (List.mem_of_mem_take ho)
    have : f o = ws[o] := by simp [f, List.getD, hlt]
    rw [this]
    exact List.getElem_mem hlt
  · simp; omega
end K07

set_option linter.all false
set_option maxRecDepth 100000
set_option maxHeartbeats 2000000
/-! KP8: the parts of a rule are drawn. -/
namespace K07
open PySem L2 KF
abbrev pst (n m : Nat) (ring : Bool) (ws : List Str) (ch : Int) (q : Nat) (x6 x7 : Option D) : DSt := [some (.cell n), some (.int m), some (.bl ring), some (.tup (ws.map sD)), some (.int ch), some (.cell q), x6, x7]
abbrev wrB : SM := ifS (bE (opE gLt (callF (fnM 2 (M_law_draw)) (seqE [(vE 0), (cE (.int 6))])) (vE 4))) (exprS (methE okL mInsert (vE 5) (seqE [(callF (fnM 2 (M_law_draw)) (seqE [(vE 0), (opE gAdd (callE (g1 gLen) (seqE [(vE 5)])) (cE (.int 1)))])), (tupE (seqE [(vE 6), (vE 7)]))]))) nextS
/-- the pair of two places -/
def pr (ws : List Str) (p : Nat × Nat) : Str × Str := (ws.getD p.1 (Str.ofString ""), ws.getD p.2 (Str.ofString ""))
abbrev pD2 (ws : List Str) (p : Nat × Nat) : D := pD (pr ws p)
theorem getD_at {ws : List Str} {i : Nat} {w : Str} (h : ws[i]? = some w) : ws.getD i (Str.ofString "") = w := by
  simp [List.getD, h]
theorem wire_step {n m q B i j : Nat} {ring : Bool} {ws : List Str} {ch : Int} {a b : Str} {ix : List (Nat × Nat)} {S : Store} (ha : ws[i]? = some a) (hb : ws[j]? = some b) (h : S[q]? = some (.lst (ix.map (pD2 ws)))) (hq : q ≠ n) (hl : ix.length < 1000) (hp : PU S n B) (hB : B + 10 < 2 ^ 60) :
    ∃ ix' S', wrB (pst n m ring ws ch q (some (.str a)) (some (.str b))) S = .nx (pst n m ring ws ch q (some (.str a)) (some (.str b))) S' ∧ (ix' = ix ∨ ix'.Perm ((i, j) :: ix)) ∧ S'[q]? = some (.lst (ix'.map (pD2 ws))) ∧ PU S' n (B + 2) ∧ S'.length = S.length ∧ ∀ k, k < S.length → k ≠ n → k ≠ q → S'[k]? = S[k]? := by
  have hqS := (List.getElem?_eq_some_iff.mp h).1
  obtain ⟨r, S1, e1, r0, r1, p1, f1, l1⟩ := draw_ok (k := 6) hp (by decide) (by decide) (by omega)
  have h1 : S1[q]? = some (.lst (ix.map (pD2 ws))) := by rw [f1.oth q hqS hq]; exact h
  by_cases z : r < ch
  · obtain ⟨r2, S2, e2, c0, c1, p2, f2, l2⟩ := draw_ok (k := (ix.length : Int) + 1) p1 (by omega) (by omega) (by omega)
    have h2 : S2[q]? = some (.lst (ix.map (pD2 ws))) := by rw [f2.oth q (by omega) hq]; exact h1
    have hq2 : q < S2.length := by omega
    have z2 : 2 ≤ sizeLine := by rw [sizeLine_eq]; decide
    have zl : ix.length < sizeLine := by rw [sizeLine_eq]; omega
    have zr : r2 < 9223372036854775808 := by omega
    have ep : pD2 ws (i, j) = .tup [.str a, .str b] := by
      show D.tup [.str (ws.getD i (Str.ofString "")), .str (ws.getD j (Str.ofString ""))] = _
      rw [getD_at ha, getD_at hb]
    have gl : gLen (.cell q) S1 = some (.int ix.length) := by
      show (asQ S1 (.cell q)).map _ = _
      simp [asQ, asL, h1]
    refine ⟨ix.take r2.toNat ++ [(i, j)] ++ ix.drop r2.toNat, S2.set q (.lst ((ix.take r2.toNat ++ [(i, j)] ++ ix.drop r2.toNat).map (pD2 ws))), ?_, .inr (ins_perm _ _ _), by rw [List.getElem?_set_self hq2], ?_, by simp; omega, fun k k1 k2 k3 => by rw [List.getElem?_set_ne (Ne.symm k3), f2.oth k (by omega) k2, f1.oth k k1 k2]⟩
    · have em : (ix.take r2.toNat ++ [(i, j)] ++ ix.drop r2.toNat).map (pD2 ws) = (ix.map (pD2 ws)).take r2.toNat ++ [.tup [.str a, .str b]] ++ (ix.map (pD2 ws)).drop r2.toNat := by
        rw [List.map_append, List.map_append, List.map_take, List.map_drop, List.map_cons, List.map_nil, ep]
      rw [em]
      have t : bE (opE gLt (callF (fnM 2 (M_law_draw)) (seqE [(vE 0), (cE (.int 6))])) (vE 4)) (pst n m ring ws ch q (some (.str a)) (some (.str b))) S = .ok true S1 := by
        simp -implicitDefEqProofs [pst, e1, z]
      refine (if_t t).trans ?_
      have ok : okL S1 (.cell q) = true := by simp [okL, asL, h1]
      have mi : mInsert (.cell q) [.int r2, .tup [.str a, .str b]] S2 = some (.non, S2.set q (.lst ((ix.map (pD2 ws)).take r2.toNat ++ [.tup [.str a, .str b]] ++ (ix.map (pD2 ws)).drop r2.toNat))) := by
        have mu : mutL S2 (.cell q) = some (q, ix.map (pD2 ws)) := by
          show (match S2[q]? with | some (.lst xs) => some (q, xs) | _ => none) = _
          rw [h2]
        unfold mInsert
        rw [mu]
        simp only
        rw [if_pos ⟨by rw [List.length_map]; exact zl, c0, by omega⟩]
      simp -implicitDefEqProofs only [es_expr, ev_meth, pst, ev_v, List.getElem?_cons_succ, List.getElem?_cons_zero, bind_ok, ok, if_true, ev_seq1, ev_seq0, ev_callF, ev_op, ev_callE, g_1, gl, Option.map_some, of2_some, ev_c, ga_i, ev_of, ev_fn, List.length_cons, List.length_nil, Nat.zero_add, Nat.reduceAdd, and_self, e2, ev_tup, z2, mi]
    · obtain ⟨x, y, w, q1, q2⟩ := p2
      exact ⟨x, y, w, by rw [List.getElem?_set_ne hq]; exact q1, q2⟩
  · refine ⟨ix, S1, ?_, .inl rfl, h1, p1.mono (by omega), l1, fun k k1 k2 k3 => f1.oth k k1 k2⟩
    have t : bE (opE gLt (callF (fnM 2 (M_law_draw)) (seqE [(vE 0), (cE (.int 6))])) (vE 4)) (pst n m ring ws ch q (some (.str a)) (some (.str b))) S = .ok false S1 := by
      simp -implicitDefEqProofs [pst, e1, z]
    exact (if_f t).trans rfl
/-- which places stand -/
structure Ix (len i j : Nat) (ix : List (Nat × Nat)) : Prop where
  nd : ix.Nodup
  at_ : ∀ p ∈ ix, (p.1 < i ∨ (p.1 = i ∧ p.2 < j)) ∧ p.1 < len ∧ p.2 < len
  len : ix.length ≤ i * len + j
theorem Ix.step {len i j : Nat} {ix ix' : List (Nat × Nat)} (h : Ix len i j ix) (hi : i < len) (hj : j < len) (e : ix' = ix ∨ ix'.Perm ((i, j) :: ix)) : Ix len i (j + 1) ix' := by
  rcases e with rfl | e
  · exact ⟨h.nd, fun p hp => by have := h.at_ p hp; omega, by have := h.len; omega⟩
  · refine ⟨?_, fun p hp => ?_, by rw [e.length_eq]; have := h.len; simp; omega⟩
    · rw [e.nodup_iff]
      exact List.nodup_cons.mpr ⟨fun z => by have := h.at_ _ z; simp at this, h.nd⟩
    · have := e.mem_iff.mp hp
      rcases List.mem_cons.mp this with rfl | hm
      · simp; omega
      · have := h.at_ p hm; omega
theorem Ix.next {len i : Nat} {ix : List (Nat × Nat)} (h : Ix len i len ix) : Ix len (i + 1) 0 ix :=
  ⟨h.nd, fun p hp => by have := h.at_ p hp; omega, by have := h.len; rw [Nat.add_mul]; omega⟩
theorem inner_ok {n m q B i : Nat} {ring : Bool} {ws : List Str} {ch : Int} {a : Str} {x7 : Option D} {ix : List (Nat × Nat)} {S : Store} (h5 : ws.length ≤ 5) (ha : ws[i]? = some a) (hx : Ix ws.length i 0 ix) (h : S[q]? = some (.lst (ix.map (pD2 ws)))) (hq : q ≠ n) (hp : PU S n B) (hB : B + 20 < 2 ^ 60) :
    ∃ ix' x7' S', forL (nameG 7) wrB (ws.map sD) (pst n m ring ws ch q (some (.str a)) x7) S = .nx (pst n m ring ws ch q (some (.str a)) x7') S' ∧ Ix ws.length (i + 1) 0 ix' ∧ S'[q]? = some (.lst (ix'.map (pD2 ws))) ∧ PU S' n (B + 10) ∧ S'.length = S.length ∧ ∀ k, k < S.length → k ≠ n → k ≠ q → S'[k]? = S[k]? := by
  have hi := (List.getElem?_eq_some_iff.mp ha).1
  obtain ⟨st', S', e, ix', x7', rfl, h1, h2, h3, h4, h6⟩ := for_inv (g := nameG 7) (b := wrB) (fun j st T => ∃ (ix' : List (Nat × Nat)) (x7' : Option D), st = pst n m ring ws ch q (some (.str a)) x7' ∧ Ix ws.length i j ix' ∧ T[q]? = some (.lst (ix'.map (pD2 ws))) ∧ PU T n (B + 2 * j) ∧ T.length = S.length ∧ ∀ k, k < S.length → k ≠ n → k ≠ q → T[k]? = S[k]?) (ws.map sD) 0
    (st := pst n m ring ws ch q (some (.str a)) x7) (S := S) ⟨ix, x7, rfl, hx, h, hp, rfl, fun _ _ _ _ => rfl⟩ (by
    rintro j d st T hd ⟨ix', x7', rfl, h1, h2, h3, h4, h6⟩
    rw [Nat.zero_add] at h1 h3
    rw [List.getElem?_map] at hd
    cases hb : ws[j]? with
    | none => rw [hb] at hd; cases hd
    | some b =>
      rw [hb] at hd
      cases hd
      have hj := (List.getElem?_eq_some_iff.mp hb).1
      have hl : ix'.length < 1000 := by
        have := h1.len
        have : i * ws.length ≤ 5 * 5 := Nat.mul_le_mul (by omega) h5
        omega
      obtain ⟨ix2, T', e1, k1, k2, k3, k4, k5⟩ := wire_step (m := m) (ring := ring) (ch := ch) ha hb h2 hq hl h3 (by omega)
      refine ⟨pst n m ring ws ch q (some (.str a)) (some (.str b)), T, _, T', rfl, e1, ix2, _, rfl, ?_, k2, ?_, by omega, fun k q1 q2 q3 => by rw [k5 k (by omega) q2 q3, h6 k q1 q2 q3]⟩
      · rw [Nat.zero_add]; exact h1.step hi hj k1
      · exact k3.mono (by omega))
  simp only [List.length_map, Nat.zero_add] at h1 h3
  exact ⟨ix', x7', S', e, h1.next, h2, h3.mono (by omega), h4, h6⟩
end K07

set_option linter.all false
set_option maxRecDepth 100000
set_option maxHeartbeats 2000000
/-! KP9: parts. -/
namespace K07
open PySem L2 KF
abbrev wrL : SM := forS (itE (vE 3)) (nameG 6) (forS (itE (vE 3)) (nameG 7) wrB)
theorem wires_ok {n m q B : Nat} {ring : Bool} {ws : List Str} {ch : Int} {S : Store} (h5 : ws.length ≤ 5) (h : S[q]? = some (.lst [])) (hq : q ≠ n) (hp : PU S n B) (hB : B + 100 < 2 ^ 60) :
    ∃ ix x6 x7 S', wrL (pst n m ring ws ch q none none) S = .nx (pst n m ring ws ch q x6 x7) S' ∧ Ix ws.length ws.length 0 ix ∧ S'[q]? = some (.lst (ix.map (pD2 ws))) ∧ PU S' n (B + 50) ∧ S'.length = S.length ∧ ∀ k, k < S.length → k ≠ n → k ≠ q → S'[k]? = S[k]? := by
  obtain ⟨st', S', e, ix, x6, x7, rfl, h1, h2, h3, h4, h6⟩ := for_inv (g := nameG 6) (b := forS (itE (vE 3)) (nameG 7) wrB) (fun i st T => ∃ (ix : List (Nat × Nat)) (x6 x7 : Option D), st = pst n m ring ws ch q x6 x7 ∧ Ix ws.length i 0 ix ∧ T[q]? = some (.lst (ix.map (pD2 ws))) ∧ PU T n (B + 10 * i) ∧ T.length = S.length ∧ ∀ k, k < S.length → k ≠ n → k ≠ q → T[k]? = S[k]?) (ws.map sD) 0
    (st := pst n m ring ws ch q none none) (S := S) ⟨[], none, none, rfl, ⟨by simp, by simp, by simp⟩, h, hp, rfl, fun _ _ _ _ => rfl⟩ (by
    rintro i d st T hd ⟨ix, x6, x7, rfl, h1, h2, h3, h4, h6⟩
    rw [Nat.zero_add] at h1 h3
    rw [List.getElem?_map] at hd
    cases ha : ws[i]? with
    | none => rw [ha] at hd; cases hd
    | some a =>
      rw [ha] at hd
      cases hd
      have hi := (List.getElem?_eq_some_iff.mp ha).1
      obtain ⟨ix2, x7', T', e1, k1, k2, k3, k4, k5⟩ := inner_ok (m := m) (ring := ring) (ch := ch) (x7 := x7) h5 ha h1 h2 hq h3 (by omega)
      refine ⟨pst n m ring ws ch q (some (.str a)) x7, T, _, T', rfl, (for_ok (ds := ws.map sD) (S1 := T) rfl).trans e1, ix2, _, x7', rfl, ?_, k2, ?_, by omega, fun k q1 q2 q3 => by rw [k5 k (by omega) q2 q3, h6 k q1 q2 q3]⟩
      · rw [Nat.zero_add]; exact k1
      · exact k3.mono (by omega))
  simp only [List.length_map, Nat.zero_add] at h1 h3
  exact ⟨ix, x6, x7, S', (for_ok (ds := ws.map sD) (S1 := S) rfl).trans e, h1, h2, h3.mono (by omega), h4, h6⟩
theorem tup_cell {q : Nat} {xs : List D} {S : Store} (h : S[q]? = some (.lst xs)) : gTuple (.cell q) S = some (.tup xs) := by
  have ha : asQ S (.cell q) = some xs := by
    show (match S[q]? with | some (.lst xs) => some xs | some (.fro xs) => some xs | _ => none) = _
    rw [h]
  unfold gTuple
  rw [ha]
  rfl
theorem ix_good {ws : List Str} {ix : List (Nat × Nat)} (hnd : ws.Nodup) (h : Ix ws.length ws.length 0 ix) : (ix.map (pr ws)).Nodup ∧ ∀ p ∈ ix.map (pr ws), p.1 ∈ ws ∧ p.2 ∈ ws := by
  refine ⟨?_, fun p hp => ?_⟩
  · refine List.Pairwise.map (pr ws) (fun a b h => h) (List.Pairwise.imp_of_mem ?_ h.nd)
    rintro ⟨a, b⟩ ⟨c, d⟩ h1 h2 hne z
    obtain ⟨_, a1, a2⟩ := h.at_ _ h1
    obtain ⟨_, b1, b2⟩ := h.at_ _ h2
    simp only at a1 a2 b1 b2
    simp only [pr, Prod.mk.injEq] at z
    rw [getD_at (List.getElem?_eq_getElem a1), getD_at (List.getElem?_eq_getElem a2), getD_at (List.getElem?_eq_getElem b1), getD_at (List.getElem?_eq_getElem b2)] at z
    have e1 := (List.getElem_inj (h₀ := a1) (h₁ := b1) hnd).mp z.1
    have e2 := (List.getElem_inj (h₀ := a2) (h₁ := b2) hnd).mp z.2
    exact hne (by rw [e1, e2])
  · obtain ⟨⟨a, b⟩, hm, rfl⟩ := List.mem_map.mp hp
    obtain ⟨_, a1, a2⟩ := h.at_ _ hm
    simp only at a1 a2
    simp only [pr]
    rw [getD_at (List.getElem?_eq_getElem a1), getD_at (List.getElem?_eq_getElem a2)]
    exact ⟨List.getElem_mem a1, List.getElem_mem a2⟩
theorem parts_ok {n m B : Nat} {ring : Bool} {S : Store} (h0 : 0 < m) (hm : m ≤ 5) (hp : PU S n B) (hB : B + 300 < 2 ^ 60) :
    ∃ ns ps fs ls S', M_law_parts [.cell n, .int m, .bl ring] S = .ok (partsD ns ps fs ls) S' ∧ Good ns ps fs ls ∧ PU S' n (B + 200) ∧ Fr n S S' := by
  obtain ⟨q0, S1, ws, e1, w1, w2, w3, w4, p1, f1, lq0⟩ := names_ok hm hp (by omega)
  have gq := tup_cell w1
  obtain ⟨r, S2, e2, r0, r1, p2, f2, l2⟩ := draw_ok (k := 5) p1 (by decide) (by decide) (by omega)
  have hn2 := p2.lt
  have p2' : PU (S2 ++ [.lst []]) n (B + 14 * m + 1) := by
    obtain ⟨a, b, c, q1, q2⟩ := p2
    exact ⟨a, b, c, by rw [List.getElem?_append_left hn2]; exact q1, q2⟩
  have f3 : Fr n S2 (S2 ++ [.lst []]) := ⟨by simp, fun i hi _ => by rw [List.getElem?_append_left hi]⟩
  obtain ⟨ix, x6, x7, S4, e4, i1, i2, p4, l4, i3⟩ := wires_ok (m := m) (ring := ring) (ch := 1 + r) (ws := ws) (q := S2.length) (by omega) (by simp) (by omega) p2' (by omega)
  have g4 := tup_cell i2
  obtain ⟨n1, n2⟩ := ix_good w2 i1
  have f12 := f1.trans f2
  have fl := f12.len
  have l4' : S4.length = S2.length + 1 := by simpa using l4
  have f4 : Fr n S S4 := ⟨by omega, fun i hi h => by rw [i3 i (by simp; omega) h (by omega), List.getElem?_append_left (by omega), f12.oth i hi h]⟩
  have em : ix.map (pD2 ws) = (ix.map (pr ws)).map pD := by rw [List.map_map]; rfl
  rw [em] at g4
  have hL : (ix.map (pr ws)).length ≤ 25 := by
    have := i1.len
    have : ws.length * ws.length ≤ 5 * 5 := Nat.mul_le_mul (by omega) (by omega)
    simp; omega
  have hw0 : ws ≠ [] := fun z => by rw [z] at w4; simp at w4; omega
  have z4 : 4 ≤ sizeLine := by rw [sizeLine_eq]; decide
  have s1 : setsS [3, 4, 5] (seqE [(callE (g1 gTuple) (seqE [(callF (fnM 2 (M_law_names)) (seqE [(vE 0), (vE 1)]))])), (opE gAdd (cE (.int 1)) (callF (fnM 2 (M_law_draw)) (seqE [(vE 0), (cE (.int 5))]))), (lstC (seqE []))]) [some (.cell n), some (.int m), some (.bl ring), none, none, none, none, none] S = .nx (pst n m ring ws (1 + r) S2.length none none) (S2 ++ [.lst []]) := by
    simp -implicitDefEqProofs [pst, e1, gq, e2]
  cases ring with
  | true =>
    refine ⟨ws, ix.map (pr ws), [], [], S4, ?_, ⟨hw0, by omega, w2, w3, n1, n2, by simp, by simp, by simp, by simp, by simp, by omega, by simp, by simp⟩, p4.mono (by omega), f4⟩
    have t : bE (vE 2) (pst n m true ws (1 + r) S2.length x6 x7) S4 = .ok true S4 := rfl
    have rr : (tupE (seqE [(vE 3), (callE (g1 gTuple) (seqE [(vE 5)])), (tupE (seqE [])), (tupE (seqE []))])) (pst n m true ws (1 + r) S2.length x6 x7) S4 = .ok (partsD ws (ix.map (pr ws)) [] []) S4 := by
      simp -implicitDefEqProofs only [ev_tup, ev_seq1, ev_seq0, pst, ev_v, List.getElem?_cons_succ, List.getElem?_cons_zero, bind_ok, ev_callE, g_1, g4, Option.map_some, of2_some, List.length_nil, Nat.zero_le, if_true, List.length_cons, Nat.zero_add, Nat.reduceAdd, z4, partsD, List.map_nil]
    have s3 : ifS (bE (vE 2)) (retS (tupE (seqE [(vE 3), (callE (g1 gTuple) (seqE [(vE 5)])), (tupE (seqE [])), (tupE (seqE []))]))) nextS (pst n m true ws (1 + r) S2.length x6 x7) S4 = .rt (partsD ws (ix.map (pr ws)) [] []) S4 := (if_t t).trans (ret_ok rr)
    exact run_rt (st := [some (.cell n), some (.int m), some (.bl true), none, none, none, none, none]) rfl ((seq_nx s1).trans ((seq_nx e4).trans (seq_rt s3)))
  | false =>
    obtain ⟨fs, S5, e5, a0, a1, a2, a3, p5, f5⟩ := ends_ok (ws := ws) hw0 (by omega) w2 p4 (by omega)
    obtain ⟨ls, S6, e6, b0, b1, b2, b3, p6, f6⟩ := ends_ok (ws := ws) hw0 (by omega) w2 p5 (by omega)
    refine ⟨ws, ix.map (pr ws), fs, ls, S6, ?_, ⟨hw0, by omega, w2, w3, n1, n2, a1, a2, b1, b2, ⟨fun z => absurd z a0, fun z => absurd z b0⟩, by omega, by omega, by omega⟩, p6.mono (by omega), (f4.trans f5).trans f6⟩
    have t : bE (vE 2) (pst n m false ws (1 + r) S2.length x6 x7) S4 = .ok false S4 := rfl
    have s3 : ifS (bE (vE 2)) (retS (tupE (seqE [(vE 3), (callE (g1 gTuple) (seqE [(vE 5)])), (tupE (seqE [])), (tupE (seqE []))]))) nextS (pst n m false ws (1 + r) S2.length x6 x7) S4 = .nx (pst n m false ws (1 + r) S2.length x6 x7) S4 := (if_f t).trans rfl
    have rr : (tupE (seqE [(vE 3), (callE (g1 gTuple) (seqE [(vE 5)])), (callF (fnM 2 (M_law_ends)) (seqE [(vE 0), (vE 3)])), (callF (fnM 2 (M_law_ends)) (seqE [(vE 0), (vE 3)]))])) (pst n m false ws (1 + r) S2.length x6 x7) S4 = .ok (partsD ws (ix.map (pr ws)) fs ls) S6 := by
      simp -implicitDefEqProofs only [ev_tup, ev_seq1, ev_seq0, pst, ev_v, List.getElem?_cons_succ, List.getElem?_cons_zero, bind_ok, ev_callE, ev_callF, ev_fn, and_self, g_1, g4, e5, e6, Option.map_some, of2_some, List.length_nil, Nat.zero_le, if_true, List.length_cons, Nat.zero_add, Nat.reduceAdd, z4, partsD]
    exact run_rt (st := [some (.cell n), some (.int m), some (.bl false), none, none, none, none, none]) rfl ((seq_nx s1).trans ((seq_nx e4).trans ((seq_nx s3).trans (ret_ok rr))))
end K07

set_option linter.all false
set_option maxRecDepth 100000
set_option maxHeartbeats 2000000
/-! KPA: things that are asked about; the rule and its pairs counted. -/
namespace K07
open PySem L2 KF
def Lf (x : D) : Prop := ∀ (S : Store) (n : Nat) (a : Str), ∃ k, eqD S (n + 1) (.str a) x = some k
def Nz (x : D) : Prop := ∀ (S : Store) (a b : Str), ∃ k, eqD S deep (.tup [.str a, .str b]) x = some k
theorem lf_non : Lf .non := fun S n a => ⟨_, by rw [eqD]; rfl⟩
theorem lf_int (i : Int) : Lf (.int i) := fun S n a => ⟨_, by rw [eqD]; rfl⟩
theorem lf_str (i : Str) : Lf (.str i) := fun S n a => ⟨_, by rw [eqD]; rfl⟩
theorem lf_lst (i : List D) : Lf (.lst i) := fun S n a => ⟨_, by rw [eqD]; rfl⟩
theorem lf_tup (i : List D) : Lf (.tup i) := fun S n a => ⟨_, by rw [eqD]; rfl⟩
theorem lf_dct (k : List Key) (i : List D) : Lf (.dct k i) := fun S n a => ⟨_, by rw [eqD]; rfl⟩
theorem nz_non : Nz .non := fun S a b => ⟨_, by unfold deep; rw [eqD]; rfl⟩
theorem nz_int (i : Int) : Nz (.int i) := fun S a b => ⟨_, by unfold deep; rw [eqD]; rfl⟩
theorem nz_bl (i : Bool) : Nz (.bl i) := fun S a b => ⟨_, by unfold deep; rw [eqD]; rfl⟩
theorem nz_str (i : Str) : Nz (.str i) := fun S a b => ⟨_, by unfold deep; rw [eqD]; rfl⟩
theorem nz_lst (i : List D) : Nz (.lst i) := fun S a b => ⟨_, by unfold deep; rw [eqD]; rfl⟩
theorem nz_dct (k : List Key) (i : List D) : Nz (.dct k i) := fun S a b => ⟨_, by unfold deep; rw [eqD]; rfl⟩
theorem nz_tup {xs : List D} (h : ∀ x ∈ xs, Lf x) : Nz (.tup xs) := fun S a b => by
  have e : eqD S deep (.tup [.str a, .str b]) (.tup xs) = (eqs (eqD S 59) [.str a, .str b] xs).map fun k => k && [D.str a, D.str b].length == xs.length := by
    unfold deep; rw [eqD]; rfl
  match xs, h with
  | [], _ => exact ⟨_, e⟩
  | [x], h =>
    obtain ⟨k, hk⟩ := h x (by simp) S 58 a
    rw [e]
    simp only [eqs, hk]
    exact ⟨_, rfl⟩
  | x :: y :: r, h =>
    obtain ⟨k, hk⟩ := h x (by simp) S 58 a
    obtain ⟨k2, hk2⟩ := h y (by simp) S 58 b
    rw [e]
    simp only [eqs, hk, hk2]
    exact ⟨_, rfl⟩
theorem nz_in {d : D} (h : Nz d) (ps : List (Str × Str)) (S : Store) : ∃ b, inD S d (.tup (ps.map pD)) = some b := by
  have e : inD S d (.tup (ps.map pD)) = optAny (fun z => eqD S deep z d) (ps.map pD) := by cases d <;> rfl
  rw [e]
  induction ps with
  | nil => exact ⟨_, rfl⟩
  | cons p ps ih =>
    obtain ⟨b, hb⟩ := ih (by cases d <;> rfl)
    obtain ⟨k, hk⟩ := h S p.1 p.2
    simp only [List.map_cons, optAny, hb, pD, hk]
    exact ⟨_, rfl⟩
/-! ### counting -/
def mate (ns : List Str) (ps : List (Str × Str)) (a : Str) : List Str := ns.filter fun b => decide ((a, b) ∈ ps)
def cnt (ns : List Str) (ps : List (Str × Str)) (l : List Str) : Nat := (l.map fun a => (mate ns ps a).length).sum
def allP (ns : List Str) (ps : List (Str × Str)) (l : List Str) : List (Str × Str) := l.flatMap fun a => (mate ns ps a).map fun b => (a, b)
theorem all_len (ns : List Str) (ps : List (Str × Str)) (l : List Str) : (allP ns ps l).length = cnt ns ps l := by
  unfold allP cnt
  induction l with
  | nil => rfl
  | cons a l ih => simp [List.flatMap_cons, ih]
theorem all_mem {ns : List Str} {ps : List (Str × Str)} {l : List Str} {p : Str × Str} : p ∈ allP ns ps l ↔ p.1 ∈ l ∧ p.2 ∈ ns ∧ p ∈ ps := by
  unfold allP mate
  simp only [List.mem_flatMap, List.mem_map, List.mem_filter, decide_eq_true_eq]
  constructor
  · rintro ⟨a, ha, b, ⟨hb, hp⟩, rfl⟩
    exact ⟨ha, hb, hp⟩
  · rintro ⟨h1, h2, h3⟩
    exact ⟨p.1, h1, p.2, ⟨h2, h3⟩, rfl⟩
theorem all_nd {ns : List Str} {ps : List (Str × Str)} (hn : ns.Nodup) : ∀ {l : List Str}, l.Nodup → (allP ns ps l).Nodup
  | [], _ => by simp [allP]
  | a :: l, h => by
    obtain ⟨h1, h2⟩ := List.nodup_cons.mp h
    have ih := all_nd (ps := ps) hn h2
    show ((a :: l).flatMap _).Nodup
    rw [List.flatMap_cons, List.nodup_append]
    refine ⟨?_, ih, ?_⟩
    · refine List.Pairwise.map _ (fun x y h => h) (List.Pairwise.imp (fun {x y} hne z => hne (by simpa using z)) (hn.sublist List.filter_sublist))
    · rintro p hp q hq rfl
      obtain ⟨b, _, rfl⟩ := List.mem_map.mp hp
      exact h1 (all_mem.mp hq).1
theorem cnt_all {ns : List Str} {ps : List (Str × Str)} (hn : ns.Nodup) (hp : ps.Nodup) (hs : ∀ p ∈ ps, p.1 ∈ ns ∧ p.2 ∈ ns) : cnt ns ps ns = ps.length := by
  rw [← all_len]
  apply Nat.le_antisymm
  · exact nd_le (all_nd hn hn) fun p h => (all_mem.mp h).2.2
  · exact nd_le hp fun p h => all_mem.mpr ⟨(hs p h).1, (hs p h).2, h⟩
theorem cnt_snoc {ns : List Str} {ps : List (Str × Str)} {l : List Str} {k : Nat} {a : Str} (h : l[k]? = some a) : cnt ns ps (l.take (k + 1)) = cnt ns ps (l.take k) + (mate ns ps a).length := by
  unfold cnt
  rw [List.take_add_one, h]
  simp
end K07

set_option linter.all false
set_option maxRecDepth 100000
set_option maxHeartbeats 2000000
/-! KPB: one rule is asked. -/
namespace K07
open PySem L2 KF
theorem for_fix {g : GM} {b : SM} {S : Store} (I : Nat → DSt → Prop) (ds : List D) {st : DSt} (h0 : I 0 st)
    (h : ∀ (i : Nat) (x : D) (st : DSt), ds[i]? = some x → I i st → ∃ st1 st2, g x st S = .nx st1 S ∧ b st1 S = .nx st2 S ∧ I (i + 1) st2) : ∃ st', forL g b ds st S = .nx st' S ∧ I ds.length st' := by
  obtain ⟨st', S', e, h1, rfl⟩ := for_inv (fun i st S' => I i st ∧ S' = S) ds 0 ⟨h0, rfl⟩ fun i d st T hd ⟨hi, eT⟩ => by
    subst eT
    obtain ⟨st1, st2, e1, e2, h2⟩ := h i d st hd (by simpa using hi)
    exact ⟨st1, T, st2, T, e1, e2, by simpa using h2, rfl⟩
  exact ⟨st', e, by simpa using h1⟩
abbrev rst (n cq : Nat) (ts : List D) (x3 : Option D) (p : D) (x5 x6 : Option D) (r : D) (x8 x9 : Option D) : DSt := [some (.cell n), some (.cell cq), some (.lst ts), x3, some p, x5, x6, some r, x8, x9, none]
abbrev B1 (C : Addr) : SM := ifS (notT (bE (callF (fnM 3 (M_law_says C)) (seqE [(vE 7), (vE 8), (opE gIn (vE 8) (opE gIx (vE 4) (cE (.int 1))))])))) (retS (cE (.bl false))) nextS
abbrev B2 (C : Addr) : SM := setS 9 (opE gAdd (vE 9) (callE (g1 gLen) (seqE [(lcE (itE (opE gIx (vE 4) (cE (.int 0)))) (nameP 6) (bE (opS (ownOr C (conD (fnM 2 (M_Rule__contains_ C)) false) gIn) (tupE (seqE [(vE 5), (vE 6)])) (vE 7))) (vE 6) [6])])))
abbrev B3 (C : Addr) : SM := ifS (bE (opE gNe (callE (g1 gRepr) (seqE [(callSE (lenD C (fnM 1 (M_Rule__len_ C))) (seqE [(vE 7)]))])) (callE (g1 gRepr) (seqE [(vE 9)])))) (retS (cE (.bl false))) nextS
abbrev BC (C : Addr) : SM := seqS (forS (itE (vE 2)) (nameG 8) (B1 C)) (seqS (setS 9 (cE (.int 0))) (seqS (forS (itE (opE gIx (vE 4) (cE (.int 0)))) (nameG 5) (B2 C)) (B3 C)))
section
variable {C : Addr} {ns : List Str} {ps : List (Str × Str)} {fs ls : List Str} {ds : List D} {S : Store} {n cq : Nat} {ts : List D} {x3 x5 x6 x8 x9 : Option D}
abbrev ruleD (C : Addr) (ns : List Str) (ps : List (Str × Str)) (fs ls : List Str) (ds : List D) : D := .ins C rks (rxs ns ps fs ls ds)
theorem p0 : atI [D.tup (ns.map sD), .tup (ps.map pD), .tup (fs.map sD), .tup (ls.map sD)] 0 = some (.tup (ns.map sD)) := rfl
theorem p1 : atI [D.tup (ns.map sD), .tup (ps.map pD), .tup (fs.map sD), .tup (ls.map sD)] 1 = some (.tup (ps.map pD)) := rfl
theorem says_loop (hz : ∀ d ∈ ts, Nz d) : ∃ x8', forL (nameG 8) (B1 C) ts (rst n cq ts x3 (partsD ns ps fs ls) x5 x6 (ruleD C ns ps fs ls ds) x8 x9) S = .nx (rst n cq ts x3 (partsD ns ps fs ls) x5 x6 (ruleD C ns ps fs ls ds) x8' x9) S := by
  obtain ⟨st', e, x8', rfl⟩ := for_fix (g := nameG 8) (b := B1 C) (S := S) (fun _ st => ∃ x8', st = rst n cq ts x3 (partsD ns ps fs ls) x5 x6 (ruleD C ns ps fs ls ds) x8' x9) ts (st := rst n cq ts x3 (partsD ns ps fs ls) x5 x6 (ruleD C ns ps fs ls ds) x8 x9) ⟨x8, rfl⟩ (by
    rintro i d st hd ⟨x8', rfl⟩
    obtain ⟨b, hb⟩ := nz_in (hz d (List.mem_of_getElem? hd)) ps S
    have hs := says_ok (C := C) (ns := ns) (fs := fs) (ls := ls) (ds := ds) hb
    have gi : gIn d (.tup (ps.map pD)) S = some (.bl b) := by unfold gIn; rw [hb]; rfl
    refine ⟨rst n cq ts x3 (partsD ns ps fs ls) x5 x6 (ruleD C ns ps fs ls ds) (some d) x9, rst n cq ts x3 (partsD ns ps fs ls) x5 x6 (ruleD C ns ps fs ls ds) (some d) x9, rfl, ?_, some d, rfl⟩
    have t : notT (bE (callF (fnM 3 (M_law_says C)) (seqE [(vE 7), (vE 8), (opE gIn (vE 8) (opE gIx (vE 4) (cE (.int 1))))]))) (rst n cq ts x3 (partsD ns ps fs ls) x5 x6 (ruleD C ns ps fs ls ds) (some d) x9) S = .ok false S := by
      simp -implicitDefEqProofs only [ev_notT, ev_b, ev_callF, ev_seq1, ev_seq0, ev_v, rst, List.getElem?_cons_succ, List.getElem?_cons_zero, bind_ok, ev_op, ev_c, partsD, gix_t, p1, ev_of, gi, ev_fn, List.length_cons, List.length_nil, Nat.zero_add, Nat.reduceAdd, and_self, if_true, hs, ev_asB, ev_ofb, Bool.not_true]
    exact (if_f t).trans rfl)
  exact ⟨x8', e⟩
theorem count_loop (hl : ns.length ≤ 5) : ∃ x5', forL (nameG 5) (B2 C) (ns.map sD) (rst n cq ts x3 (partsD ns ps fs ls) x5 x6 (ruleD C ns ps fs ls ds) x8 (some (.int 0))) S = .nx (rst n cq ts x3 (partsD ns ps fs ls) x5' x6 (ruleD C ns ps fs ls ds) x8 (some (.int (cnt ns ps ns)))) S := by
  obtain ⟨st', e, x5', rfl⟩ := for_fix (g := nameG 5) (b := B2 C) (S := S) (fun k st => ∃ x5', st = rst n cq ts x3 (partsD ns ps fs ls) x5' x6 (ruleD C ns ps fs ls ds) x8 (some (.int (cnt ns ps (ns.take k))))) (ns.map sD) (st := rst n cq ts x3 (partsD ns ps fs ls) x5 x6 (ruleD C ns ps fs ls ds) x8 (some (.int 0))) ⟨x5, by simp [cnt]⟩ (by
    rintro k d st hd ⟨x5', rfl⟩
    rw [List.getElem?_map] at hd
    cases ha : ns[k]? with
    | none => rw [ha] at hd; cases hd
    | some a =>
      rw [ha] at hd
      cases hd
      refine ⟨rst n cq ts x3 (partsD ns ps fs ls) (some (.str a)) x6 (ruleD C ns ps fs ls ds) x8 (some (.int (cnt ns ps (ns.take k)))), rst n cq ts x3 (partsD ns ps fs ls) (some (.str a)) x6 (ruleD C ns ps fs ls ds) x8 (some (.int (cnt ns ps (ns.take (k + 1))))), rfl, ?_, some (.str a), rfl⟩
      have lc : lcE (itE (opE gIx (vE 4) (cE (.int 0)))) (nameP 6) (bE (opS (ownOr C (conD (fnM 2 (M_Rule__contains_ C)) false) gIn) (tupE (seqE [(vE 5), (vE 6)])) (vE 7))) (vE 6) [6] (rst n cq ts x3 (partsD ns ps fs ls) (some (.str a)) x6 (ruleD C ns ps fs ls ds) x8 (some (.int (cnt ns ps (ns.take k))))) S = .ok (.lst ((mate ns ps a).map sD)) S := by
        have e0 : (mate ns ps a).map sD = ((ns.map sD).filter (fun d => match d with | .str b => decide ((a, b) ∈ ps) | _ => false)).map id := by
          rw [List.map_id, List.filter_map]
          rfl
        rw [e0]
        refine lcE_of (ds := ns.map sD) ?_ (by simp; omega) ?_
        · simp -implicitDefEqProofs only [ei_it, ev_op, ev_v, rst, List.getElem?_cons_succ, List.getElem?_cons_zero, bind_ok, ev_c, partsD, gix_t, p0, ev_of, seqOf]
        · refine lc_fm _ _ _ fun d hd => ?_
          obtain ⟨b, hb, rfl⟩ := List.mem_map.mp hd
          have ho := own_con (C := C) (ns := ns) (ps := ps) (fs := fs) (ls := ls) (ds := ds) (S := S) (neg := false) (g := gIn) (in_pairs (p := (a, b)) (ps := ps))
          have z2 : 2 ≤ sizeLine := by rw [sizeLine_eq]; decide
          have bf : ∀ x : Bool, (x != false) = x := by decide
          rw [bf] at ho
          refine ⟨rst n cq ts x3 (partsD ns ps fs ls) (some (.str a)) (some (.str b)) (ruleD C ns ps fs ls ds) x8 (some (.int (cnt ns ps (ns.take k)))), rfl, ?_, fun _ => rfl⟩
          simp -implicitDefEqProofs only [ev_b, ev_opS, ev_tup, ev_seq1, ev_seq0, ev_v, rst, List.getElem?_cons_succ, List.getElem?_cons_zero, bind_ok, List.length_cons, List.length_nil, Nat.zero_add, Nat.reduceAdd, z2, if_true, ho, noE_ok, ev_asB, ev_ofb]
      refine set_ok (d := .int (cnt ns ps (ns.take (k + 1)))) ?_
      rw [cnt_snoc ha]
      simp -implicitDefEqProofs only [ev_op, ev_v, List.getElem?_cons_succ, List.getElem?_cons_zero, bind_ok, ev_callE, ev_seq1, ev_seq0, lc, g_1, gl_l, List.length_map, Option.map_some, of2_some, ga_i, ev_of]
      rfl)
  simp only [List.length_map, List.take_length] at e
  exact ⟨x5', e⟩
theorem len_own (hp : ps.length ≤ 100) : lenD C (fnM 1 (M_Rule__len_ C)) [ruleD C ns ps fs ls ds] S = .ok (.int ps.length) S := by
  unfold lenD insOf
  show (if C = C then _ else _) = _
  rw [if_pos rfl, ev_fn, if_pos ⟨rfl, rfl⟩, len_ok]
  show (if 0 ≤ (ps.length : Int) ∧ (ps.length : Int) < 2 ^ 63 then _ else _) = _
  rw [if_pos ⟨by omega, by omega⟩]
theorem ne_ss {z : Str} : gNe (.str z) (.str z) S = some (.bl false) := by
  show (neD S deep (.str z) (.str z)).map D.bl = _
  unfold neD
  simp only [vw, eq_ss]
  simp
theorem len_end (hp : ps.length ≤ 100) : B3 C (rst n cq ts x3 (partsD ns ps fs ls) x5 x6 (ruleD C ns ps fs ls ds) x8 (some (.int ps.length))) S = .nx (rst n cq ts x3 (partsD ns ps fs ls) x5 x6 (ruleD C ns ps fs ls ds) x8 (some (.int ps.length))) S := by
  obtain ⟨z, hz⟩ := repr_i (S := S) (i := (ps.length : Int)) (by omega) (by omega)
  have t : bE (opE gNe (callE (g1 gRepr) (seqE [(callSE (lenD C (fnM 1 (M_Rule__len_ C))) (seqE [(vE 7)]))])) (callE (g1 gRepr) (seqE [(vE 9)]))) (rst n cq ts x3 (partsD ns ps fs ls) x5 x6 (ruleD C ns ps fs ls ds) x8 (some (.int ps.length))) S = .ok false S := by
    simp -implicitDefEqProofs only [ev_b, ev_op, ev_callE, ev_callSE, ev_seq1, ev_seq0, ev_v, rst, List.getElem?_cons_succ, List.getElem?_cons_zero, bind_ok, len_own hp, noE_ok, g_1, hz, Option.map_some, of2_some, ne_ss, ev_of, ev_asB, ev_ofb]
  exact (if_f t).trans rfl
theorem case_ok (G : Good ns ps fs ls) (hz : ∀ d ∈ ts, Nz d) : ∃ x5' x8' x9', BC C (rst n cq ts x3 (partsD ns ps fs ls) x5 x6 (ruleD C ns ps fs ls ds) x8 x9) S = .nx (rst n cq ts x3 (partsD ns ps fs ls) x5' x6 (ruleD C ns ps fs ls ds) x8' x9') S := by
  obtain ⟨x8', e1⟩ := says_loop (C := C) (ns := ns) (ps := ps) (fs := fs) (ls := ls) (ds := ds) (S := S) (n := n) (cq := cq) (x3 := x3) (x5 := x5) (x6 := x6) (x8 := x8) (x9 := x9) hz
  obtain ⟨x5', e2⟩ := count_loop (C := C) (ns := ns) (ps := ps) (fs := fs) (ls := ls) (ds := ds) (S := S) (n := n) (cq := cq) (ts := ts) (x3 := x3) (x5 := x5) (x6 := x6) (x8 := x8') G.n5
  rw [cnt_all G.nd G.pn G.pm] at e2
  have e3 := len_end (C := C) (ns := ns) (fs := fs) (ls := ls) (ds := ds) (S := S) (n := n) (cq := cq) (ts := ts) (x3 := x3) (x5 := x5') (x6 := x6) (x8 := x8') G.p9
  have i2 : itE (opE gIx (vE 4) (cE (.int 0))) (rst n cq ts x3 (partsD ns ps fs ls) x5 x6 (ruleD C ns ps fs ls ds) x8' (some (.int 0))) S = .ok (ns.map sD) S := by
    simp -implicitDefEqProofs only [ei_it, ev_op, ev_v, rst, List.getElem?_cons_succ, List.getElem?_cons_zero, bind_ok, ev_c, partsD, gix_t, p0, ev_of, seqOf]
  exact ⟨x5', x8', _, (seq_nx ((for_ok (ds := ts) (S1 := S) rfl).trans e1)).trans ((seq_nx (set_ok (d := .int 0) (S1 := S) rfl)).trans ((seq_nx ((for_ok i2).trans e2)).trans e3))⟩
end
end K07

set_option linter.all false
set_option maxRecDepth 100000
set_option maxHeartbeats 4000000
/-! KPC: a turn. -/
namespace K07
open PySem L2 KF
def CaseOk (C : Addr) (c : D) : Prop := ∃ ns ps fs ls ds, c = .tup [ruleD C ns ps fs ls ds, partsD ns ps fs ls] ∧ Good ns ps fs ls
abbrev tst (n cq : Nat) (ts : List D) (x3 x4 x5 x6 : Option D) : DSt := [some (.cell n), some (.cell cq), some (.lst ts), x3, x4, x5, x6, none, none, none, none]
abbrev TA : SM := setS 4 (callF (fnM 3 (M_law_parts)) (seqE [(vE 0), (opE gAdd (cE (.int 1)) (callF (fnM 2 (M_law_draw)) (seqE [(vE 0), (cE (.int 5))]))), (opE gEq (callF (fnM 2 (M_law_draw)) (seqE [(vE 0), (cE (.int 2))])) (cE (.int 0)))]))
abbrev TB (C : Addr) : SM := exprS (methE okL mAppend (vE 1) (seqE [(tupE (seqE [(callF (fnM 1 (M_law_rule C)) (seqE [(vE 4)])), (vE 4)]))]))
abbrev TC : SM := asgS (tupE (seqE [(opE gIx (opE gIx (vE 4) (cE (.int 0))) (callF (fnM 2 (M_law_draw)) (seqE [(vE 0), (callE (g1 gLen) (seqE [(opE gIx (vE 4) (cE (.int 0)))]))]))), (opE gIx (opE gIx (vE 4) (cE (.int 0))) (callF (fnM 2 (M_law_draw)) (seqE [(vE 0), (callE (g1 gLen) (seqE [(opE gIx (vE 4) (cE (.int 0)))]))])))])) (tupG 2 (consG (nameG 5) (consG (nameG 6) nilG)))
abbrev TD : SM := setS 2 (opE gAdd (vE 2) (lstE (seqE [(tupE (seqE [(vE 5), (vE 6)])), (tupE (seqE [(vE 6), (vE 5)])), (lstE (seqE [(vE 5), (vE 6)])), (tupE (seqE [(vE 5), (vE 6), (vE 5)])), (vE 5), (opE gAdd (vE 5) (vE 6)), (tupE (seqE [(vE 5), (opE gAdd (vE 6) (cE (.str (Str.ofString "q"))))]))])))
abbrev TE : SM := setS 2 (opE gAdd (opE gAdd (opE gAdd (vE 2) (callE (g1 gList) (seqE [(opE gIx (vE 4) (cE (.int 1)))]))) (lcE (itE (opE gIx (vE 4) (cE (.int 1)))) (nameP 10) yesT (tupE (seqE [(opE gIx (vE 10) (cE (.int 1))), (opE gIx (vE 10) (cE (.int 0)))])) [10])) (lstE (seqE [(tupE (seqE [(vE 5), (cE .non)])), (tupE (seqE [(opE gIx (vE 4) (cE (.int 1))), (vE 5)]))])))
abbrev TT (C : Addr) : SM := seqS TA (seqS (TB C) (seqS TC (seqS TD TE)))
theorem ga_ll {xs ys : List D} {S : Store} (h : xs.length + ys.length ≤ 2000) : gAdd (.lst xs) (.lst ys) S = some (.lst (xs ++ ys)) := by
  show catL (some xs) (some ys) = _
  unfold catL
  simp only
  rw [if_pos (by rw [sizeLine_eq]; omega)]
theorem ga_ss {a b : Str} {S : Store} (h : a.cps.size ≤ 20) (h2 : b.cps.size ≤ 20) : gAdd (.str a) (.str b) S = some (.str (a ++ b)) := by
  show (if a.cps.size + b.cps.size ≤ sizeLine then _ else _) = _
  rw [if_pos (by rw [sizeLine_eq]; omega)]
theorem pick {ns : List Str} {r : Int} (h0 : 0 ≤ r) (h : r < ns.length) : ∃ a, a ∈ ns ∧ atI (ns.map sD) r = some (sD a) := by
  have hlt : r.toNat < ns.length := by omega
  exact ⟨ns[r.toNat], List.getElem_mem hlt, by rw [at_nn _ h0, List.getElem?_map, List.getElem?_eq_getElem hlt]; rfl⟩
theorem pu_set {S : Store} {n q B : Nat} {c : Cell} (h : PU S n B) (hq : q ≠ n) : PU (S.set q c) n B := by
  obtain ⟨a, b, d, q1, q2⟩ := h
  exact ⟨a, b, d, by rw [List.getElem?_set_ne hq]; exact q1, q2⟩
theorem pu_app {S T : Store} {n B : Nat} (h : PU S n B) : PU (S ++ T) n B := by
  have hn := h.lt
  obtain ⟨a, b, d, q1, q2⟩ := h
  exact ⟨a, b, d, by rw [List.getElem?_append_left hn]; exact q1, q2⟩
theorem td_ok {n cq : Nat} {ts : List D} {x3 x4 : Option D} {a b : Str} {S : Store} (ha : NameOk a) (hb : NameOk b) (ht : ts.length ≤ 1000) :
    ∃ ys, TD (tst n cq ts x3 x4 (some (.str a)) (some (.str b))) S = .nx (tst n cq (ts ++ ys) x3 x4 (some (.str a)) (some (.str b))) S ∧ ys.length = 7 ∧ ∀ d ∈ ys, Nz d := by
  have z7 : 7 ≤ sizeLine := by rw [sizeLine_eq]; decide
  have z3 : 3 ≤ sizeLine := by omega
  have z2 : 2 ≤ sizeLine := by omega
  have a8 := ha.l8
  have b8 := hb.l8
  have q1 : (Str.ofString "q").cps.size ≤ 20 := by decide +kernel
  refine ⟨[.tup [.str a, .str b], .tup [.str b, .str a], .lst [.str a, .str b], .tup [.str a, .str b, .str a], .str a, .str (a ++ b), .tup [.str a, .str (b ++ Str.ofString "q")]], ?_, rfl, ?_⟩
  · have g1 := ga_ss (S := S) (a := a) (b := b) (by omega) (by omega)
    have g2 := ga_ss (S := S) (a := b) (b := Str.ofString "q") (by omega) q1
    have g3 := ga_ll (S := S) (xs := ts) (ys := [.tup [.str a, .str b], .tup [.str b, .str a], .lst [.str a, .str b], .tup [.str a, .str b, .str a], .str a, .str (a ++ b), .tup [.str a, .str (b ++ Str.ofString "q")]]) (by simp; omega)
    refine set_ok ?_
    simp -implicitDefEqProofs only [ev_op, ev_v, List.getElem?_cons_succ, List.getElem?_cons_zero, bind_ok, ev_lst, ev_tup, ev_seq1, ev_seq0, ev_c, List.length_cons, List.length_nil, Nat.zero_add, Nat.reduceAdd, z2, z3, z7, if_true, g1, g2, g3, ev_of]
  · intro d hd
    simp only [List.mem_cons, List.not_mem_nil, or_false] at hd
    have l : ∀ {xs : List Str}, ∀ x ∈ xs.map D.str, Lf x := fun {xs} x hx => by obtain ⟨w, _, rfl⟩ := List.mem_map.mp hx; exact lf_str w
    rcases hd with rfl | rfl | rfl | rfl | rfl | rfl | rfl
    · exact nz_tup (l (xs := [a, b]))
    · exact nz_tup (l (xs := [b, a]))
    · exact nz_lst _
    · exact nz_tup (l (xs := [a, b, a]))
    · exact nz_str _
    · exact nz_str _
    · exact nz_tup (l (xs := [a, b ++ Str.ofString "q"]))
theorem te_ok {n cq : Nat} {ts : List D} {x3 : Option D} {x6 : Option D} {a : Str} {ns fs ls : List Str} {ps : List (Str × Str)} {S : Store} (hp : ps.length ≤ 100) (ht : ts.length ≤ 1000) :
    ∃ ys, TE (tst n cq ts x3 (some (partsD ns ps fs ls)) (some (.str a)) x6) S = .nx (tst n cq (ts ++ ys) x3 (some (partsD ns ps fs ls)) (some (.str a)) x6) S ∧ ys.length ≤ 250 ∧ ∀ d ∈ ys, Nz d := by
  have z2 : 2 ≤ sizeLine := by rw [sizeLine_eq]; decide
  have i1 : itE (opE gIx (vE 4) (cE (.int 1))) (tst n cq ts x3 (some (partsD ns ps fs ls)) (some (.str a)) x6) S = .ok (ps.map pD) S := by
    simp -implicitDefEqProofs only [ei_it, ev_op, ev_v, tst, List.getElem?_cons_succ, List.getElem?_cons_zero, bind_ok, ev_c, partsD, gix_t, p1, ev_of, seqOf]
  have lc : lcE (itE (opE gIx (vE 4) (cE (.int 1)))) (nameP 10) yesT (tupE (seqE [(opE gIx (vE 10) (cE (.int 1))), (opE gIx (vE 10) (cE (.int 0)))])) [10] (tst n cq ts x3 (some (partsD ns ps fs ls)) (some (.str a)) x6) S = .ok (.lst (ps.map fun p => pD (p.2, p.1))) S := by
    have e0 : (ps.map fun p => pD (p.2, p.1)) = (ps.map pD).map (fun d => match d with | .tup [x, y] => .tup [y, x] | d => d) := by
      rw [List.map_map]; rfl
    rw [e0]
    refine lcE_of i1 (by simp; omega) (lc_map _ _ fun d hd => ?_)
    obtain ⟨p, _, rfl⟩ := List.mem_map.mp hd
    have a1 : atI [D.str p.1, .str p.2] 1 = some (.str p.2) := rfl
    have a0 : atI [D.str p.1, .str p.2] 0 = some (.str p.1) := rfl
    refine ⟨[some (.cell n), some (.cell cq), some (.lst ts), x3, some (partsD ns ps fs ls), some (.str a), x6, none, none, none, some (pD p)], rfl, ?_⟩
    simp -implicitDefEqProofs only [ev_tup, ev_seq1, ev_seq0, ev_op, ev_v, List.getElem?_cons_succ, List.getElem?_cons_zero, bind_ok, ev_c, pD, gix_t, a1, a0, ev_of, List.length_cons, List.length_nil, Nat.zero_add, Nat.reduceAdd, z2, if_true]
  have gl : gList (.tup (ps.map pD)) S = some (.lst (ps.map pD)) := rfl
  have g1 := ga_ll (S := S) (xs := ts) (ys := ps.map pD) (by simp; omega)
  have g2 := ga_ll (S := S) (xs := ts ++ ps.map pD) (ys := ps.map fun p => pD (p.2, p.1)) (by simp; omega)
  have g3 := ga_ll (S := S) (xs := ts ++ ps.map pD ++ ps.map fun p => pD (p.2, p.1)) (ys := [.tup [.str a, .non], .tup [.tup (ps.map pD), .str a]]) (by simp; omega)
  refine ⟨ps.map pD ++ (ps.map fun p => pD (p.2, p.1)) ++ [.tup [.str a, .non], .tup [.tup (ps.map pD), .str a]], ?_, by simp; omega, ?_⟩
  · have ea : ts ++ (ps.map pD ++ (ps.map fun p => pD (p.2, p.1)) ++ [.tup [.str a, .non], .tup [.tup (ps.map pD), .str a]]) = ts ++ ps.map pD ++ (ps.map fun p => pD (p.2, p.1)) ++ [.tup [.str a, .non], .tup [.tup (ps.map pD), .str a]] := by
      simp [List.append_assoc]
    rw [ea]
    refine set_ok ?_
    unfold partsD at lc
    rw [ev_op, ev_op, ev_op]
    simp -implicitDefEqProofs only [lc, ev_op, ev_v, List.getElem?_cons_succ, List.getElem?_cons_zero, bind_ok, ev_callE, g_1, gl, Option.map_some, of2_some, ev_lst, ev_tup, ev_seq1, ev_seq0, ev_c, partsD, gix_t, p1, List.length_cons, List.length_nil, Nat.zero_add, Nat.reduceAdd, z2, if_true, g1, g2, g3, ev_of]
  · intro d hd
    simp only [List.mem_append, List.mem_map, List.mem_cons, List.not_mem_nil, or_false] at hd
    rcases hd with (⟨p, _, rfl⟩ | ⟨p, _, rfl⟩) | rfl | rfl
    · exact nz_tup fun x hx => by simp at hx; rcases hx with rfl | rfl <;> exact lf_str _
    · exact nz_tup fun x hx => by simp at hx; rcases hx with rfl | rfl <;> exact lf_str _
    · exact nz_tup fun x hx => by
        simp at hx
        rcases hx with rfl | rfl
        · exact lf_str _
        · exact lf_non
    · exact nz_tup fun x hx => by
        simp only [List.mem_cons, List.not_mem_nil, or_false] at hx
        rcases hx with rfl | rfl
        · exact lf_tup _
        · exact lf_str _
theorem asg_ok {m : EM D} {g : GM} {st : DSt} {S S1 : Store} {d : D} (e : m st S = .ok d S1) : asgS m g st S = onlyNx (g d st S1) := by
  show (match m st S with | .ok d S1 => onlyNx (g d st S1) | .err e S1 => .err e st S1 | .bad => .bad) = _
  rw [e]
theorem turn_ok {C : Addr} {n cq B : Nat} {ts cs : List D} {x3 x4 x5 x6 : Option D} {S : Store} (hc : S[cq]? = some (.lst cs)) (hq : cq ≠ n) (hcl : cs.length ≤ 10) (ht : ts.length ≤ 600) (hp : PU S n B) (hB : B + 400 < 2 ^ 60) :
    ∃ ys x4' x5' x6' c S', TT C (tst n cq ts x3 x4 x5 x6) S = .nx (tst n cq (ts ++ ys) x3 x4' x5' x6') S' ∧ S'[cq]? = some (.lst (cs ++ [c])) ∧ CaseOk C c ∧ (∀ d ∈ ys, Nz d) ∧ ys.length ≤ 260 ∧ PU S' n (B + 210) := by
  obtain ⟨r1, S1, e1, a0, a1, p1, f1, l1⟩ := draw_ok (k := 5) hp (by decide) (by decide) (by omega)
  obtain ⟨r2, S2, e2, b0, b1, p2, f2, l2⟩ := draw_ok (k := 2) p1 (by decide) (by decide) (by omega)
  obtain ⟨ns, ps, fs, ls, S3, e3, G, p3, f3⟩ := parts_ok (m := (1 + r1).toNat) (ring := (r2 == 0)) (by omega) (by omega) p2 (by omega)
  have em : (((1 + r1).toNat : Nat) : Int) = 1 + r1 := by omega
  rw [em] at e3
  have hcS := (List.getElem?_eq_some_iff.mp hc).1
  have F3 := (f1.trans f2).trans f3
  have h3 : S3[cq]? = some (.lst cs) := by rw [F3.oth cq hcS hq]; exact hc
  have l3 := F3.len
  obtain ⟨ds, e4⟩ := rule_ok (C := C) G S3
  have h4 : (S3 ++ [Cell.fins C rks (rxs ns ps fs ls ds)])[cq]? = some (.lst cs) := by rw [List.getElem?_append_left (by omega)]; exact h3
  have z2 : 2 ≤ sizeLine := by rw [sizeLine_eq]; decide
  let c : D := .tup [ruleD C ns ps fs ls ds, partsD ns ps fs ls]
  let S5 : Store := (S3 ++ [Cell.fins C rks (rxs ns ps fs ls ds)]).set cq (.lst (cs ++ [c]))
  have p5 : PU S5 n (B + 2 + 200) := pu_set (pu_app p3) hq
  have h5 : S5[cq]? = some (.lst (cs ++ [c])) := by rw [List.getElem?_set_self (by simp; omega)]
  have nl : 0 < ns.length := List.length_pos_iff.mpr G.n0
  have n5 := G.n5
  obtain ⟨r5, S6, e5, c0, c1, p6, f6, l6⟩ := draw_ok (k := (ns.length : Int)) p5 (by omega) (by omega) (by omega)
  obtain ⟨r6, S7, e6, d0, d1, p7, f7, l7⟩ := draw_ok (k := (ns.length : Int)) p6 (by omega) (by omega) (by omega)
  obtain ⟨a, ha, ia⟩ := pick c0 c1
  obtain ⟨b, hb, ib⟩ := pick d0 d1
  obtain ⟨y1, t4, y4, z4⟩ := td_ok (n := n) (cq := cq) (ts := ts) (x3 := x3) (x4 := some (partsD ns ps fs ls)) (S := S7) (G.ok a ha) (G.ok b hb) (by omega)
  obtain ⟨y2, t5, y5, z5⟩ := te_ok (n := n) (cq := cq) (ts := ts ++ y1) (x3 := x3) (x6 := some (.str b)) (a := a) (ns := ns) (fs := fs) (ls := ls) (ps := ps) (S := S7) G.p9 (by rw [List.length_append]; omega)
  have s1 : TA (tst n cq ts x3 x4 x5 x6) S = .nx (tst n cq ts x3 (some (partsD ns ps fs ls)) x5 x6) S3 := by
    refine set_ok ?_
    simp -implicitDefEqProofs only [ev_callF, ev_seq1, ev_seq0, ev_v, tst, List.getElem?_cons_succ, List.getElem?_cons_zero, bind_ok, ev_op, ev_c, ev_fn, List.length_cons, List.length_nil, Nat.zero_add, Nat.reduceAdd, and_self, if_true, e1, ga_i, ev_of, e2, g_eq, eqi, Option.map_some, e3]
  have s2 : TB C (tst n cq ts x3 (some (partsD ns ps fs ls)) x5 x6) S3 = .nx (tst n cq ts x3 (some (partsD ns ps fs ls)) x5 x6) S5 := by
    have ok : okL S3 (.cell cq) = true := by simp [okL, asL, h3]
    have mu : mutL (S3 ++ [Cell.fins C rks (rxs ns ps fs ls ds)]) (.cell cq) = some (cq, cs) := by
      show (match (S3 ++ [Cell.fins C rks (rxs ns ps fs ls ds)])[cq]? with | some (.lst xs) => some (cq, xs) | _ => none) = _
      rw [h4]
    have ma : mAppend (.cell cq) [c] (S3 ++ [Cell.fins C rks (rxs ns ps fs ls ds)]) = some (.non, S5) := by
      unfold mAppend
      rw [mu]
      simp only
      rw [if_pos (by rw [sizeLine_eq]; omega)]
    simp -implicitDefEqProofs only [es_expr, ev_meth, tst, ev_v, List.getElem?_cons_succ, List.getElem?_cons_zero, bind_ok, ok, if_true, ev_seq1, ev_seq0, ev_tup, ev_callF, ev_fn, List.length_cons, List.length_nil, Nat.zero_add, Nat.reduceAdd, and_self, e4, z2]
    show (match Res.of2 (mAppend (.cell cq) [c] (S3 ++ [Cell.fins C rks (rxs ns ps fs ls ds)])) with | .ok d S1 => SRes.nx _ S1 | .err e S1 => .err e _ S1 | .bad => .bad) = _
    rw [ma]
    rfl
  have s3 : TC (tst n cq ts x3 (some (partsD ns ps fs ls)) x5 x6) S5 = .nx (tst n cq ts x3 (some (partsD ns ps fs ls)) (some (.str a)) (some (.str b))) S7 := by
    have tv : tupE (seqE [(opE gIx (opE gIx (vE 4) (cE (.int 0))) (callF (fnM 2 (M_law_draw)) (seqE [(vE 0), (callE (g1 gLen) (seqE [(opE gIx (vE 4) (cE (.int 0)))]))]))), (opE gIx (opE gIx (vE 4) (cE (.int 0))) (callF (fnM 2 (M_law_draw)) (seqE [(vE 0), (callE (g1 gLen) (seqE [(opE gIx (vE 4) (cE (.int 0)))]))])))]) (tst n cq ts x3 (some (partsD ns ps fs ls)) x5 x6) S5 = .ok (.tup [.str a, .str b]) S7 := by
      simp -implicitDefEqProofs only [ev_tup, ev_seq1, ev_seq0, ev_op, ev_v, tst, List.getElem?_cons_succ, List.getElem?_cons_zero, bind_ok, ev_c, partsD, gix_t, p0, ev_of, ev_callF, ev_callE, g_1, gl_t, List.length_map, Option.map_some, of2_some, ev_fn, List.length_cons, List.length_nil, Nat.zero_add, Nat.reduceAdd, and_self, if_true, e5, e6, ia, ib, z2]
    exact (asg_ok tv).trans rfl
  refine ⟨y1 ++ y2, some (partsD ns ps fs ls), some (.str a), some (.str b), c, S7, (seq_nx s1).trans ((seq_nx s2).trans ((seq_nx s3).trans ((seq_nx t4).trans (t5.trans ?_)))), ?_, ⟨ns, ps, fs, ls, ds, rfl, G⟩, ?_, by rw [List.length_append]; omega, p7.mono (by omega)⟩
  · rw [List.append_assoc]
  · have l5 : S5.length = S3.length + 1 := by simp [S5]
    rw [f7.oth cq (by omega) hq, f6.oth cq (by omega) hq]
    exact h5
  · intro d hd
    rcases List.mem_append.mp hd with hd | hd
    · exact z4 d hd
    · exact z5 d hd
end K07

set_option linter.all false
set_option maxRecDepth 100000
set_option maxHeartbeats 4000000
/-! KPD: the law. -/
namespace K07
open PySem L2 KF
def T0 : List D := [.non, .int 0, .bl true, .str (Str.ofString ""), .tup [], .lst [], .dct [] [], .str (Str.ofString "ab"), .tup [.str (Str.ofString "a")], .tup [.str (Str.ofString "a"), .int 1], .tup [.lst [], .str (Str.ofString "a")], .tup [.str (Str.ofString "a"), .dct [] []], .tup [.tup [.str (Str.ofString "a"), .str (Str.ofString "b")]]]
theorem t0_nz : ∀ d ∈ T0, Nz d := by
  intro d hd
  simp only [T0, List.mem_cons, List.not_mem_nil, or_false] at hd
  rcases hd with rfl | rfl | rfl | rfl | rfl | rfl | rfl | rfl | rfl | rfl | rfl | rfl | rfl
  · exact nz_non
  · exact nz_int _
  · exact nz_bl _
  · exact nz_str _
  · exact nz_tup (by simp)
  · exact nz_lst _
  · exact nz_dct _ _
  · exact nz_str _
  · exact nz_tup fun x hx => by simp at hx; subst hx; exact lf_str _
  · exact nz_tup fun x hx => by
      simp only [List.mem_cons, List.not_mem_nil, or_false] at hx
      rcases hx with rfl | rfl
      · exact lf_str _
      · exact lf_int _
  · exact nz_tup fun x hx => by
      simp only [List.mem_cons, List.not_mem_nil, or_false] at hx
      rcases hx with rfl | rfl
      · exact lf_lst _
      · exact lf_str _
  · exact nz_tup fun x hx => by
      simp only [List.mem_cons, List.not_mem_nil, or_false] at hx
      rcases hx with rfl | rfl
      · exact lf_str _
      · exact lf_dct _ _
  · exact nz_tup fun x hx => by simp at hx; subst hx; exact lf_tup _
theorem right_ok {C : Addr} {n : Nat} {S : Store} (hp : PU S n 0) : ∃ S', M_law_right C [.cell n] S = .ok (.bl true) S' := by
  have hn := hp.lt
  have z2 : 2 ≤ sizeLine := by rw [sizeLine_eq]; decide
  have z13 : 13 ≤ sizeLine := by rw [sizeLine_eq]; decide
  obtain ⟨st', S2, e, cs, ts, x3, x4, x5, x6, rfl, c1, c2, c3, c4, c5, c6⟩ := for_rng (g := nameG 3) (b := TT C) (fun i st T => ∃ (cs ts : List D) (x3 x4 x5 x6 : Option D), st = tst n S.length ts x3 x4 x5 x6 ∧ T[S.length]? = some (.lst cs) ∧ cs.length = i ∧ ts.length ≤ 13 + 260 * i ∧ (∀ d ∈ cs, CaseOk C d) ∧ (∀ d ∈ ts, Nz d) ∧ PU T n (210 * i)) 2
    (st := tst n S.length T0 none none none none) (S := S ++ [.lst []]) ⟨[], T0, none, none, none, none, rfl, by simp, rfl, by show 13 ≤ _; omega, by simp, t0_nz, pu_app hp⟩ (by
    rintro i st T hi ⟨cs, ts, x3, x4, x5, x6, rfl, c1, c2, c3, c4, c5, c6⟩
    obtain ⟨ys, x4', x5', x6', c, T', e, k1, k2, k3, k4, k5⟩ := turn_ok (C := C) (ts := ts) (cs := cs) (x3 := some (.int i)) (x4 := x4) (x5 := x5) (x6 := x6) c1 (by omega) (by omega) (by omega) c6 (by omega)
    exact ⟨tst n S.length ts (some (.int i)) x4 x5 x6, T, _, T', rfl, e, cs ++ [c], ts ++ ys, some (.int i), x4', x5', x6', rfl, k1, by simp [c2], by rw [List.length_append]; omega, fun d hd => by
      rcases List.mem_append.mp hd with hd | hd
      · exact c4 d hd
      · simp at hd; subst hd; exact k2, fun d hd => by
      rcases List.mem_append.mp hd with hd | hd
      · exact c5 d hd
      · exact k3 d hd, k5.mono (by omega)⟩)
  have ga : gAdd (.cell S.length) (.cell S.length) S2 = some (.lst (cs ++ cs)) := by
    have ao : asO S2 (.cell S.length) = some cs := by
      show (match S2[S.length]? with | some (.lst xs) => some xs | some (.fro xs) => some xs | _ => none) = _
      rw [c1]
    show catL (asO S2 (.cell S.length)) (asO S2 (.cell S.length)) = _
    rw [ao]
    unfold catL
    simp only
    rw [if_pos (by rw [sizeLine_eq]; omega)]
  obtain ⟨st3, e3, y3, y4, y5, y6, y7, y8, y9, rfl⟩ := for_fix (g := tupG 2 (consG (nameG 7) (consG (nameG 4) nilG))) (b := BC C) (S := S2) (fun _ st => ∃ (y3 y4 y5 y6 y7 y8 y9 : Option D), st = [some (.cell n), some (.cell S.length), some (.lst ts), y3, y4, y5, y6, y7, y8, y9, none]) (cs ++ cs) (st := tst n S.length ts x3 x4 x5 x6) ⟨_, _, _, _, _, _, _, rfl⟩ (by
    rintro i d st hd ⟨y3, y4, y5, y6, y7, y8, y9, rfl⟩
    have hm : d ∈ cs := by
      have := List.mem_of_getElem? hd
      simpa using this
    obtain ⟨ns, ps, fs, ls, ds, rfl, G⟩ := c4 d hm
    obtain ⟨x5', x8', x9', eb⟩ := case_ok (C := C) (ds := ds) (S := S2) (n := n) (cq := S.length) (ts := ts) (x3 := y3) (x5 := y5) (x6 := y6) (x8 := y8) (x9 := y9) G c5
    exact ⟨rst n S.length ts y3 (partsD ns ps fs ls) y5 y6 (ruleD C ns ps fs ls ds) y8 y9, _, rfl, eb, y3, _, x5', y6, _, x8', x9', rfl⟩)
  have s1 : setsS [1, 2] (seqE [(lstC (seqE [])), (lstE (seqE [(cE .non), (cE (.int 0)), (cE (.bl true)), (cE (.str (Str.ofString ""))), (tupE (seqE [])), (lstE (seqE [])), (cE (.dct [] [])), (cE (.str (Str.ofString "ab"))), (tupE (seqE [(cE (.str (Str.ofString "a")))])), (tupE (seqE [(cE (.str (Str.ofString "a"))), (cE (.int 1))])), (tupE (seqE [(lstE (seqE [])), (cE (.str (Str.ofString "a")))])), (tupE (seqE [(cE (.str (Str.ofString "a"))), (cE (.dct [] []))])), (tupE (seqE [(tupE (seqE [(cE (.str (Str.ofString "a"))), (cE (.str (Str.ofString "b")))]))]))]))]) [some (.cell n), none, none, none, none, none, none, none, none, none, none] S = .nx (tst n S.length T0 none none none none) (S ++ [.lst []]) := by
    have z1 : 1 ≤ sizeLine := by omega
    simp -implicitDefEqProofs only [es_sets, ev_seq1, ev_seq0, ev_lstC, ev_lst, ev_tup, ev_c, bind_ok, List.length_cons, List.length_nil, Nat.zero_le, if_true, Nat.zero_add, Nat.reduceAdd, z1, z2, z13]
    rfl
  have er : rng1E (cE (.int 2)) (tst n S.length T0 none none none none) (S ++ [.lst []]) = .ok (rangeI 0 (2 : Nat)) (S ++ [.lst []]) := ei_rng (k := 2) rfl (by decide) (by decide)
  have ei : itE (opE gAdd (vE 1) (vE 1)) (tst n S.length ts x3 x4 x5 x6) S2 = .ok (cs ++ cs) S2 := by
    simp -implicitDefEqProofs only [ei_it, ev_op, ev_v, tst, List.getElem?_cons_succ, List.getElem?_cons_zero, bind_ok, ga, ev_of, seqOf]
  exact ⟨S2, run_rt (st := [some (.cell n), none, none, none, none, none, none, none, none, none, none]) rfl ((seq_nx s1).trans ((seq_nx ((for_ok er).trans e)).trans ((seq_nx ((for_ok ei).trans e3)).trans (ret_ok rfl))))⟩
abbrev PL : SM := seqS (setS 3 (opE gAdd (opE gMul (vE 3) (cE (.int 6364136223846793005))) (opE gMod (callE (g1 gInt) (seqE [(vE 4)])) (cE (.int 2305843009213693907))))) (setS 3 (opE gMod (callE (g1 gInt) (seqE [(opE gAdd (vE 3) (cE (.int 17)))])) (cE (.int 2305843009213693951))))
abbrev pust (xs : List D) (k : Nat) (v : Int) (x : Int) (x4 : Option D) : DSt := [some (.scr xs), some (.int k), some (.int v), some (.int x), x4]
theorem purse_step {xs : List D} {k : Nat} {v x i : Int} {S : Store} (h0 : 0 ≤ x) (h1 : x < 2 ^ 62) : ∃ y, 0 ≤ y ∧ y < 2 ^ 62 ∧ PL (pust xs k v x (some (.int i))) S = .nx (pust xs k v y (some (.int i))) S := by
  have m1 : x.natAbs.log2 + Nat.log2 6364136223846793005 < 1000000 := by
    have : Nat.log2 6364136223846793005 = 62 := by decide +kernel
    have := log_lt (k := 62) h0 h1 (by decide)
    omega
  refine ⟨(x * 6364136223846793005 + i % 2305843009213693907 + 17) % 2305843009213693951, Int.emod_nonneg _ (by decide), ?_, ?_⟩
  · have := Int.emod_lt_of_pos (x * 6364136223846793005 + i % 2305843009213693907 + 17) (b := 2305843009213693951) (by decide)
    omega
  · have gm : gMul (.int x) (.int 6364136223846793005) S = some (.int (x * 6364136223846793005)) := by
      show (if x.natAbs.log2 + (6364136223846793005 : Int).natAbs.log2 < 1000000 then _ else _) = _
      exact if_pos m1
    have gi : ∀ j : Int, gInt (.int j) S = some (.int j) := fun _ => rfl
    have q1 : gMod (.int i) (.int 2305843009213693907) S = some (.int (i % 2305843009213693907)) := by
      show (if (0 : Int) < 2305843009213693907 then some (D.int (i % 2305843009213693907)) else none) = _
      exact if_pos (by decide)
    have q2 : ∀ j : Int, gMod (.int j) (.int 2305843009213693951) S = some (.int (j % 2305843009213693951)) := fun j => by
      show (if (0 : Int) < 2305843009213693951 then some (D.int (j % 2305843009213693951)) else none) = _
      exact if_pos (by decide)
    refine (seq_nx (st1 := pust xs k v (x * 6364136223846793005 + i % 2305843009213693907) (some (.int i))) (S1 := S) (set_ok ?_)).trans (set_ok ?_)
    · simp -implicitDefEqProofs only [ev_op, ev_v, pust, List.getElem?_cons_succ, List.getElem?_cons_zero, bind_ok, ev_c, ev_callE, ev_seq1, ev_seq0, g_1, gi, Option.map_some, of2_some, gm, q1, ga_i, ev_of]
    · simp -implicitDefEqProofs only [ev_op, ev_v, pust, List.getElem?_cons_succ, List.getElem?_cons_zero, bind_ok, ev_c, ev_callE, ev_seq1, ev_seq0, g_1, gi, Option.map_some, of2_some, q2, ga_i, ev_of]
theorem purse_ok {ns : List Int} {k : Nat} {S : Store} (hk : k < 5) (hl : ns.length ≤ 63) : ∃ S', M_law_purse [.scr (ns.map .int), .int k] S = .ok (.cell S.length) S' ∧ PU S' S.length 0 := by
  have hv : ∃ v : Int, ifE (bE (opE gLt (vE 1) (callE (g1 gLen) (seqE [(vE 0)])))) (opE gIx (vE 0) (vE 1)) (cE (.int 0)) [some (.scr (ns.map .int)), some (.int k), none, none, none] S = .ok (.int v) S := by
    by_cases h : k < ns.length
    · have gi : atI (ns.map D.int) (k : Int) = some (.int ns[k]) := by
        rw [at_nat, List.getElem?_map, List.getElem?_eq_getElem h]; rfl
      have hh : (k : Int) < ns.length := by omega
      exact ⟨ns[k], by simp -implicitDefEqProofs [gi, hh]⟩
    · have hh : ¬ (k : Int) < ns.length := by omega
      exact ⟨0, by simp -implicitDefEqProofs [hh]⟩
  obtain ⟨v, ev⟩ := hv
  have gm : gMul (.int 32452843) (.int k) S = some (.int (32452843 * (k : Int))) := by
    show (if (32452843 : Int).natAbs.log2 + (k : Int).natAbs.log2 < 1000000 then _ else _) = _
    refine if_pos ?_
    have a : (32452843 : Int).natAbs.log2 = 24 := by decide +kernel
    have := log_lt (k := 62) (i := (k : Int)) (by omega) (by omega) (by decide)
    omega
  have z1 : 1 ≤ sizeLine := by rw [sizeLine_eq]; decide
  have z3 : 3 ≤ sizeLine := by rw [sizeLine_eq]; decide
  have s2 : setS 3 (opE gAdd (cE (.int 15485863)) (opE gMul (cE (.int 32452843)) (vE 1))) [some (.scr (ns.map .int)), some (.int k), some (.int v), none, none] S = .nx (pust (ns.map .int) k v (15485863 + 32452843 * k) none) S := by
    refine set_ok (d := .int (15485863 + 32452843 * (k : Int))) ?_
    simp -implicitDefEqProofs only [ev_op, ev_v, List.getElem?_cons_succ, List.getElem?_cons_zero, bind_ok, ev_c, gm, ga_i, ev_of]
  have ei : itE (opE gAdd (slE (vE 0) none (some (cE (.int 4)))) (lstE (seqE [(vE 2)]))) (pust (ns.map .int) k v (15485863 + 32452843 * k) none) S = .ok ((ns.take 4 ++ [v]).map .int) S := by
    have es : slE (vE 0) none (some (cE (.int 4))) (pust (ns.map .int) k v (15485863 + 32452843 * k) none) S = .ok (.lst ((ns.take 4).map .int)) S := by
      have gs : gSl (.scr (ns.map D.int)) none (some ((4 : Nat) : Int)) S = some (.lst ((ns.take 4).map .int)) := by
        show some (D.lst (cutX (ns.map D.int) none (some ((4 : Nat) : Int)))) = _
        rw [cut_take, map_take]
      have ea : vE 0 (pust (ns.map .int) k v (15485863 + 32452843 * k) none) S = .ok (.scr (ns.map .int)) S := rfl
      unfold slE
      simp -implicitDefEqProofs only [ea, optE, bind_ok, ev_c, iRes]
      show Res.of (gSl (.scr (ns.map D.int)) none (some ((4 : Nat) : Int)) S) S = _
      rw [gs]
      rfl
    have ga := ga_ll (S := S) (xs := (ns.take 4).map D.int) (ys := [.int v]) (by simp; omega)
    have em : (ns.take 4 ++ [v]).map D.int = (ns.take 4).map D.int ++ [.int v] := by simp
    rw [em]
    simp -implicitDefEqProofs only [ei_it, ev_op, es, bind_ok, ev_lst, ev_seq1, ev_seq0, ev_v, List.getElem?_cons_succ, List.getElem?_cons_zero, List.length_cons, List.length_nil, Nat.zero_add, z1, if_true, ga, ev_of, seqOf]
  obtain ⟨st', e, x, x4, rfl, h0, h1⟩ := for_fix (g := nameG 4) (b := PL) (S := S) (fun _ st => ∃ (x : Int) (x4 : Option D), st = pust (ns.map .int) k v x x4 ∧ 0 ≤ x ∧ x < 2 ^ 62) ((ns.take 4 ++ [v]).map .int) (st := pust (ns.map .int) k v (15485863 + 32452843 * k) none) ⟨_, none, rfl, by omega, by omega⟩ (by
    rintro j d st hd ⟨x, x4, rfl, h0, h1⟩
    obtain ⟨i, _, rfl⟩ := List.mem_map.mp (List.mem_of_getElem? hd)
    obtain ⟨y, y0, y1, e⟩ := purse_step (xs := ns.map .int) (k := k) (v := v) (i := i) (S := S) h0 h1
    exact ⟨pust (ns.map .int) k v x (some (.int i)), _, rfl, e, y, some (.int i), rfl, y0, y1⟩)
  have gp : gPow (.int 10) (.int 18) S = some (.int (10 ^ 18)) := by
    show (if (0 : Int) ≤ 18 ∧ (18 : Int) ≤ 1000000 ∧ (10 : Int).natAbs < 2 ^ 64 then some (D.int ((10 : Int) ^ (18 : Int).toNat)) else none) = _
    rw [if_pos ⟨by decide, by decide, by decide⟩]
    rfl
  have gabs : ∀ j : Int, gAbs (.int j) S = some (.int (if j < 0 then -j else j)) := fun _ => rfl
  have hb : ∃ b : Int, lstC (seqE [(vE 3), (ifE (bE (opE gGe (callE (g1 gAbs) (seqE [(vE 2)])) (opE gPow (cE (.int 10)) (cE (.int 18))))) (callE (g1 gAbs) (seqE [(vE 2)])) (cE (.int 0))), (cE (.int 0))]) (pust (ns.map .int) k v x x4) S = .ok (.cell S.length) (S ++ [.lst [.int x, .int b, .int 0]]) := by
    have gg : gGe (.int (if v < 0 then -v else v)) (.int (10 ^ 18)) S = some (.bl (decide ((10 : Int) ^ 18 ≤ (if v < 0 then -v else v)))) := rfl
    by_cases hh : (10 : Int) ^ 18 ≤ (if v < 0 then -v else v)
    · refine ⟨if v < 0 then -v else v, ?_⟩
      simp -implicitDefEqProofs only [ev_lstC, ev_seq1, ev_seq0, ev_v, pust, List.getElem?_cons_succ, List.getElem?_cons_zero, bind_ok, ev_if, ev_b, ev_op, ev_callE, g_1, gabs, Option.map_some, of2_some, ev_c, gp, ev_of, gg, ev_asB, ev_ofb, decide_eq_true hh, if_true, List.length_cons, List.length_nil, Nat.zero_add, Nat.reduceAdd, z3]
    · refine ⟨0, ?_⟩
      simp -implicitDefEqProofs only [ev_lstC, ev_seq1, ev_seq0, ev_v, pust, List.getElem?_cons_succ, List.getElem?_cons_zero, bind_ok, ev_if, ev_b, ev_op, ev_callE, g_1, gabs, Option.map_some, of2_some, ev_c, gp, ev_of, gg, ev_asB, ev_ofb, decide_eq_false hh, if_true, if_false, Bool.false_eq_true, List.length_cons, List.length_nil, Nat.zero_add, Nat.reduceAdd, z3]
  obtain ⟨b, eb⟩ := hb
  exact ⟨S ++ [.lst [.int x, .int b, .int 0]], run_rt (st := [some (.scr (ns.map .int)), some (.int k), none, none, none]) rfl ((seq_nx (set_ok ev)).trans ((seq_nx s2).trans ((seq_nx ((for_ok ei).trans e)).trans (ret_ok eb)))), ⟨x, b, 0, by simp, h0, h1, by omega, by omega⟩⟩
theorem law_true (C : Addr) : LawTrue (M_law C) 63 := fun ns hl => by
  have hm : ∃ m : Nat, m ≤ 4 ∧ callE (g2 gMax) (seqE [(cE (.int 2)), (callE (g2 gMin) (seqE [(callE (g1 gLen) (seqE [(vE 0)])), (cE (.int 4))]))]) [some (.scr (ns.map .int)), none] [] = .ok (.int m) [] := by
    have gn : gMin (.int ns.length) (.int 4) [] = some (.int (if (4 : Int) < ns.length then 4 else ns.length)) := rfl
    have gx : ∀ w : Int, gMax (.int 2) (.int w) [] = some (.int (if w > 2 then w else 2)) := fun _ => rfl
    refine ⟨(if (if (4 : Int) < ns.length then (4 : Int) else ns.length) > 2 then (if (4 : Int) < ns.length then (4 : Int) else ns.length) else 2).toNat, by split <;> split <;> omega, ?_⟩
    have en : (((if (if (4 : Int) < ns.length then (4 : Int) else ns.length) > 2 then (if (4 : Int) < ns.length then (4 : Int) else ns.length) else 2).toNat : Nat) : Int) = (if (if (4 : Int) < ns.length then (4 : Int) else ns.length) > 2 then (if (4 : Int) < ns.length then (4 : Int) else ns.length) else 2) := by split <;> split <;> omega
    rw [en]
    simp -implicitDefEqProofs only [ev_callE, ev_seq1, ev_seq0, ev_v, ev_c, List.getElem?_cons_succ, List.getElem?_cons_zero, bind_ok, g_1, g_2, gl_s, List.length_map, Option.map_some, of2_some, gn, gx]
  obtain ⟨m, m4, em⟩ := hm
  obtain ⟨st', S', e, x, rfl⟩ := for_rng (g := nameG 1) (b := ifS (notT (bE (callF (fnM 1 (M_law_right C)) (seqE [(callF (fnM 2 (M_law_purse)) (seqE [(vE 0), (vE 1)]))])))) (retS (cE (.bl false))) nextS) (fun _ st _ => ∃ x : Option D, st = [some (.scr (ns.map .int)), x]) m (st := [some (.scr (ns.map .int)), none]) (S := []) ⟨none, rfl⟩ (by
    rintro i st T hi ⟨x, rfl⟩
    obtain ⟨T1, e1, p1⟩ := purse_ok (ns := ns) (k := i) (S := T) (by omega) hl
    obtain ⟨T2, e2⟩ := right_ok (C := C) p1
    have t : notT (bE (callF (fnM 1 (M_law_right C)) (seqE [(callF (fnM 2 (M_law_purse)) (seqE [(vE 0), (vE 1)]))]))) [some (.scr (ns.map .int)), some (.int i)] T = .ok false T2 := by
      simp -implicitDefEqProofs only [ev_notT, ev_b, ev_callF, ev_seq1, ev_seq0, ev_v, List.getElem?_cons_succ, List.getElem?_cons_zero, bind_ok, ev_fn, List.length_cons, List.length_nil, Nat.zero_add, Nat.reduceAdd, and_self, if_true, e1, e2, ev_asB, ev_ofb, Bool.not_true]
    exact ⟨[some (.scr (ns.map .int)), some (.int i)], T, _, T2, rfl, (if_f t).trans rfl, some (.int i), rfl⟩)
  exact ⟨S', run_rt (st := [some (.scr (ns.map .int)), none]) rfl ((seq_nx ((for_ok (ei_rng em (by omega) (by omega))).trans (by rw [Int.toNat_natCast]; exact e))).trans (ret_ok rfl))⟩
end K07

set_option Elab.async false
set_option linter.all false
set_option maxRecDepth 100000
set_option maxHeartbeats 4000000
/-! the derivations of kindsfollow_k07_pairs_in_rules's defs, and the head; printed by gen.py -/
namespace K07
open PySem PySem.Spec PyProof.Rows L2 KF
def top (i : Nat) : Stmt := PySem.Challenge.pw_kindsfollow_k07_pairs_in_rules.main.body.getD i (.Pass ⟨0, 0, 0, 0⟩)
abbrev t_law_draw : Stmt := top 30
abbrev t_law_names : Stmt := top 32
abbrev t_law_order : Stmt := top 31
abbrev t_law_ends : Stmt := top 33
abbrev t_law_parts : Stmt := top 34
abbrev t_is_name : Stmt := top 13
abbrev t_wrong_kind : Stmt := top 15
abbrev t_check_new_kinds : Stmt := top 19
abbrev t_is_pair : Stmt := top 16
abbrev t_wrong_pair : Stmt := top 17
abbrev t_check_pairs : Stmt := top 20
abbrev t_wrong_end : Stmt := top 18
abbrev t_check_ends : Stmt := top 21
abbrev t_place_of : Stmt := top 25
abbrev t_arcs_of : Stmt := top 26
abbrev t_Rule__init_ : Stmt := inClass (top 27) 0
abbrev t_law_rule : Stmt := top 35
abbrev t_Rule__contains_ : Stmt := inClass (top 27) 8
abbrev t_law_says : Stmt := top 36
abbrev t_Rule__len_ : Stmt := inClass (top 27) 10
abbrev t_law_right : Stmt := top 37
abbrev t_law_purse : Stmt := top 29
abbrev t_law : Stmt := top 38
structure Ad where
  f_law_draw : Addr
  d_law_draw : FuncData
  f_law_names : Addr
  d_law_names : FuncData
  f_law_order : Addr
  d_law_order : FuncData
  f_law_ends : Addr
  d_law_ends : FuncData
  f_law_parts : Addr
  d_law_parts : FuncData
  f_is_name : Addr
  d_is_name : FuncData
  f_wrong_kind : Addr
  d_wrong_kind : FuncData
  f_check_new_kinds : Addr
  d_check_new_kinds : FuncData
  f_is_pair : Addr
  d_is_pair : FuncData
  f_wrong_pair : Addr
  d_wrong_pair : FuncData
  f_check_pairs : Addr
  d_check_pairs : FuncData
  f_wrong_end : Addr
  d_wrong_end : FuncData
  f_check_ends : Addr
  d_check_ends : FuncData
  f_place_of : Addr
  d_place_of : FuncData
  f_arcs_of : Addr
  d_arcs_of : FuncData
  f_Rule__init_ : Addr
  d_Rule__init_ : FuncData
  f_law_rule : Addr
  d_law_rule : FuncData
  f_Rule__contains_ : Addr
  d_Rule__contains_ : FuncData
  f_law_says : Addr
  d_law_says : FuncData
  f_Rule__len_ : Addr
  d_Rule__len_ : FuncData
  f_law_right : Addr
  d_law_right : FuncData
  f_law_purse : Addr
  d_law_purse : FuncData
  f_law : Addr
  d_law : FuncData
structure Txt (K : PySem.W.Frag) (mg : Str → Option Value) (C : Addr) (a : Ad) : Prop where
  kits : Kits K []
  n_abs : mg (Str.ofString "abs") = none
  n_all : mg (Str.ofString "all") = none
  n_divmod : mg (Str.ofString "divmod") = none
  n_enumerate : mg (Str.ofString "enumerate") = none
  n_int : mg (Str.ofString "int") = none
  n_isinstance : mg (Str.ofString "isinstance") = none
  n_len : mg (Str.ofString "len") = none
  n_list : mg (Str.ofString "list") = none
  n_max : mg (Str.ofString "max") = none
  n_min : mg (Str.ofString "min") = none
  n_range : mg (Str.ofString "range") = none
  n_repr : mg (Str.ofString "repr") = none
  n_str : mg (Str.ofString "str") = none
  n_tuple : mg (Str.ofString "tuple") = none
  v_DIGITS : ∃ t, mg (Str.ofString "DIGITS") = some (.str (Str.ofString "0123456789") t)
  v_LETTERS : ∃ t, mg (Str.ofString "LETTERS") = some (.str (Str.ofString "abcdefghijklmnopqrstuvwxyz") t)
  v_LONGEST_NAME : ∃ t, mg (Str.ofString "LONGEST_NAME") = some (.int 8 t)
  v_MOST_KINDS : ∃ t, mg (Str.ofString "MOST_KINDS") = some (.int 5 t)
  F_law_draw : FnIs K (Str.ofString "_law_draw") (Str.ofString "_law_draw") t_law_draw a.f_law_draw a.d_law_draw
  b_law_draw : Binds K a.d_law_draw [(Str.ofString "_law_purse_here"), (Str.ofString "_law_many")] []
  k_law_draw : PySem.W.keepIn K (.ref a.f_law_draw) = true
  g_law_draw : mg (Str.ofString "_law_draw") = some (.ref a.f_law_draw)
  F_law_names : FnIs K (Str.ofString "_law_names") (Str.ofString "_law_names") t_law_names a.f_law_names a.d_law_names
  b_law_names : Binds K a.d_law_names [(Str.ofString "_law_purse_here"), (Str.ofString "_law_many")] []
  k_law_names : PySem.W.keepIn K (.ref a.f_law_names) = true
  g_law_names : mg (Str.ofString "_law_names") = some (.ref a.f_law_names)
  F_law_order : FnIs K (Str.ofString "_law_order") (Str.ofString "_law_order") t_law_order a.f_law_order a.d_law_order
  b_law_order : Binds K a.d_law_order [(Str.ofString "_law_purse_here"), (Str.ofString "_law_many")] []
  k_law_order : PySem.W.keepIn K (.ref a.f_law_order) = true
  g_law_order : mg (Str.ofString "_law_order") = some (.ref a.f_law_order)
  F_law_ends : FnIs K (Str.ofString "_law_ends") (Str.ofString "_law_ends") t_law_ends a.f_law_ends a.d_law_ends
  b_law_ends : Binds K a.d_law_ends [(Str.ofString "_law_purse_here"), (Str.ofString "_law_names_here")] []
  k_law_ends : PySem.W.keepIn K (.ref a.f_law_ends) = true
  g_law_ends : mg (Str.ofString "_law_ends") = some (.ref a.f_law_ends)
  F_law_parts : FnIs K (Str.ofString "_law_parts") (Str.ofString "_law_parts") t_law_parts a.f_law_parts a.d_law_parts
  b_law_parts : Binds K a.d_law_parts [(Str.ofString "_law_purse_here"), (Str.ofString "_law_many"), (Str.ofString "_law_ring")] []
  k_law_parts : PySem.W.keepIn K (.ref a.f_law_parts) = true
  g_law_parts : mg (Str.ofString "_law_parts") = some (.ref a.f_law_parts)
  F_is_name : FnIs K (Str.ofString "is_name") (Str.ofString "is_name") t_is_name a.f_is_name a.d_is_name
  b_is_name : Binds K a.d_is_name [(Str.ofString "value")] []
  k_is_name : PySem.W.keepIn K (.ref a.f_is_name) = true
  g_is_name : mg (Str.ofString "is_name") = some (.ref a.f_is_name)
  F_wrong_kind : FnIs K (Str.ofString "wrong_kind") (Str.ofString "wrong_kind") t_wrong_kind a.f_wrong_kind a.d_wrong_kind
  b_wrong_kind : Binds K a.d_wrong_kind [(Str.ofString "kinds")] []
  k_wrong_kind : PySem.W.keepIn K (.ref a.f_wrong_kind) = true
  g_wrong_kind : mg (Str.ofString "wrong_kind") = some (.ref a.f_wrong_kind)
  F_check_new_kinds : FnIs K (Str.ofString "check_new_kinds") (Str.ofString "check_new_kinds") t_check_new_kinds a.f_check_new_kinds a.d_check_new_kinds
  b_check_new_kinds : Binds K a.d_check_new_kinds [(Str.ofString "kinds")] []
  k_check_new_kinds : PySem.W.keepIn K (.ref a.f_check_new_kinds) = true
  g_check_new_kinds : mg (Str.ofString "check_new_kinds") = some (.ref a.f_check_new_kinds)
  F_is_pair : FnIs K (Str.ofString "is_pair") (Str.ofString "is_pair") t_is_pair a.f_is_pair a.d_is_pair
  b_is_pair : Binds K a.d_is_pair [(Str.ofString "value"), (Str.ofString "kinds")] []
  k_is_pair : PySem.W.keepIn K (.ref a.f_is_pair) = true
  g_is_pair : mg (Str.ofString "is_pair") = some (.ref a.f_is_pair)
  F_wrong_pair : FnIs K (Str.ofString "wrong_pair") (Str.ofString "wrong_pair") t_wrong_pair a.f_wrong_pair a.d_wrong_pair
  b_wrong_pair : Binds K a.d_wrong_pair [(Str.ofString "pairs"), (Str.ofString "kinds")] []
  k_wrong_pair : PySem.W.keepIn K (.ref a.f_wrong_pair) = true
  g_wrong_pair : mg (Str.ofString "wrong_pair") = some (.ref a.f_wrong_pair)
  F_check_pairs : FnIs K (Str.ofString "check_pairs") (Str.ofString "check_pairs") t_check_pairs a.f_check_pairs a.d_check_pairs
  b_check_pairs : Binds K a.d_check_pairs [(Str.ofString "pairs"), (Str.ofString "kinds")] []
  k_check_pairs : PySem.W.keepIn K (.ref a.f_check_pairs) = true
  g_check_pairs : mg (Str.ofString "check_pairs") = some (.ref a.f_check_pairs)
  F_wrong_end : FnIs K (Str.ofString "wrong_end") (Str.ofString "wrong_end") t_wrong_end a.f_wrong_end a.d_wrong_end
  b_wrong_end : Binds K a.d_wrong_end [(Str.ofString "ends"), (Str.ofString "kinds")] []
  k_wrong_end : PySem.W.keepIn K (.ref a.f_wrong_end) = true
  g_wrong_end : mg (Str.ofString "wrong_end") = some (.ref a.f_wrong_end)
  F_check_ends : FnIs K (Str.ofString "check_ends") (Str.ofString "check_ends") t_check_ends a.f_check_ends a.d_check_ends
  b_check_ends : Binds K a.d_check_ends [(Str.ofString "firsts"), (Str.ofString "lasts"), (Str.ofString "kinds")] []
  k_check_ends : PySem.W.keepIn K (.ref a.f_check_ends) = true
  g_check_ends : mg (Str.ofString "check_ends") = some (.ref a.f_check_ends)
  F_place_of : FnIs K (Str.ofString "place_of") (Str.ofString "place_of") t_place_of a.f_place_of a.d_place_of
  b_place_of : Binds K a.d_place_of [(Str.ofString "kinds"), (Str.ofString "kind")] []
  k_place_of : PySem.W.keepIn K (.ref a.f_place_of) = true
  g_place_of : mg (Str.ofString "place_of") = some (.ref a.f_place_of)
  F_arcs_of : FnIs K (Str.ofString "arcs_of") (Str.ofString "arcs_of") t_arcs_of a.f_arcs_of a.d_arcs_of
  b_arcs_of : Binds K a.d_arcs_of [(Str.ofString "kinds"), (Str.ofString "pairs"), (Str.ofString "firsts"), (Str.ofString "lasts")] []
  k_arcs_of : PySem.W.keepIn K (.ref a.f_arcs_of) = true
  g_arcs_of : mg (Str.ofString "arcs_of") = some (.ref a.f_arcs_of)
  F_Rule__init_ : FnIs K (Str.ofString "__init__") (Str.ofString "Rule.__init__") t_Rule__init_ a.f_Rule__init_ a.d_Rule__init_
  F_law_rule : FnIs K (Str.ofString "_law_rule") (Str.ofString "_law_rule") t_law_rule a.f_law_rule a.d_law_rule
  b_law_rule : Binds K a.d_law_rule [(Str.ofString "_law_parts_here")] []
  k_law_rule : PySem.W.keepIn K (.ref a.f_law_rule) = true
  g_law_rule : mg (Str.ofString "_law_rule") = some (.ref a.f_law_rule)
  F_Rule__contains_ : FnIs K (Str.ofString "__contains__") (Str.ofString "Rule.__contains__") t_Rule__contains_ a.f_Rule__contains_ a.d_Rule__contains_
  b_Rule__contains_ : Binds K a.d_Rule__contains_ [(Str.ofString "self"), (Str.ofString "value")] []
  F_law_says : FnIs K (Str.ofString "_law_says") (Str.ofString "_law_says") t_law_says a.f_law_says a.d_law_says
  b_law_says : Binds K a.d_law_says [(Str.ofString "_law_here"), (Str.ofString "_law_thing"), (Str.ofString "_law_due")] []
  k_law_says : PySem.W.keepIn K (.ref a.f_law_says) = true
  g_law_says : mg (Str.ofString "_law_says") = some (.ref a.f_law_says)
  F_Rule__len_ : FnIs K (Str.ofString "__len__") (Str.ofString "Rule.__len__") t_Rule__len_ a.f_Rule__len_ a.d_Rule__len_
  b_Rule__len_ : Binds K a.d_Rule__len_ [(Str.ofString "self")] []
  F_law_right : FnIs K (Str.ofString "_law_right") (Str.ofString "_law_right") t_law_right a.f_law_right a.d_law_right
  b_law_right : Binds K a.d_law_right [(Str.ofString "_law_purse_here")] []
  k_law_right : PySem.W.keepIn K (.ref a.f_law_right) = true
  g_law_right : mg (Str.ofString "_law_right") = some (.ref a.f_law_right)
  F_law_purse : FnIs K (Str.ofString "_law_purse") (Str.ofString "_law_purse") t_law_purse a.f_law_purse a.d_law_purse
  b_law_purse : Binds K a.d_law_purse [(Str.ofString "_law_script"), (Str.ofString "_law_at")] []
  k_law_purse : PySem.W.keepIn K (.ref a.f_law_purse) = true
  g_law_purse : mg (Str.ofString "_law_purse") = some (.ref a.f_law_purse)
  F_law : FnIs K (Str.ofString "law") (Str.ofString "law") t_law a.f_law a.d_law
  b_law : Binds K a.d_law [(Str.ofString "_law_script")] []
  k_law : PySem.W.keepIn K (.ref a.f_law) = true
  g_law : mg (Str.ofString "law") = some (.ref a.f_law)
  cl : Cls K C
  na_heads : NoAttr K C (Str.ofString "heads")
  na_links : NoAttr K C (Str.ofString "links")
  na_sorts : NoAttr K C (Str.ofString "sorts")
  na_tails : NoAttr K C (Str.ofString "tails")
  na_ways : NoAttr K C (Str.ofString "ways")
  mkR : Mk K C a.f_Rule__init_
  g_Rule : mg (Str.ofString "Rule") = some (.ref C)
  bm_4 : BD K a.d_Rule__init_ [(Str.ofString "self"), (Str.ofString "kinds"), (Str.ofString "pairs"), (Str.ofString "firsts"), (Str.ofString "lasts")] [] (4 + 1) (fun ds _ => ds)
  du___contains__ : Dun K C (Str.ofString "__contains__") a.f_Rule__contains_
  du___len__ : Dun K C (Str.ofString "__len__") a.f_Rule__len_
section
variable {P : Program} {w : World} {K : PySem.W.Frag} {mg : Str → Option Value} {base : Heap} {C : Addr} {a : Ad}
theorem sc_law_draw : FnScope [(Str.ofString "_law_purse_here"), (Str.ofString "_law_many"), (Str.ofString "_law_digit"), (Str.ofString "_law_mixed")] [(Str.ofString "_law_purse_here"), (Str.ofString "_law_many")] (defScope t_law_draw) := ⟨rfl, rfl, rfl, by decide +kernel, rfl, by decide +kernel, by decide +kernel⟩
theorem ok_law_draw (T : Txt K mg C a) : FnG P w K mg base 1 a.f_law_draw a.d_law_draw [(Str.ofString "_law_purse_here"), (Str.ofString "_law_many")] (spD K (M_law_draw) 2) :=
  fnX T.F_law_draw sc_law_draw fun cdv A outer s H E c => have nd := sc_law_draw.nd
    (dss_cons (ds_if (dt_cmp op_gtK (de_ix (dv 0) de_int) de_int (by rfl)) (dss_cons (ds_asg (de_callB call_divmodK (by rfl) T.n_divmod b_divmod (da_cons (de_ix (dv 0) de_int) (da_cons (dv 1) da_nil))) (dg_tup c.cm (dgs_cons (dg_sub (dv 0) de_int) (dgs_cons (dg_name 2 nd) dgs_nil))))
    (dss_one (ds_ret (dv 2)))) dss_nil)
    (dss_cons (ds_asg (de_op op_addK (de_ix (dv 0) de_int) de_int) (dg_sub (dv 0) de_int))
    (dss_cons (ds_set (i := 3) nd (de_op op_addK (de_op op_addK (de_op op_mulK (de_ix (dv 0) de_int) de_int) (de_op op_mulK (de_op op_mulK de_int (de_ix (dv 0) de_int)) (de_ix (dv 0) de_int))) de_int))
    (dss_cons (ds_asg (de_op op_modK (de_callT call_intK (by rfl) T.n_int b_int (da_cons (dv 3) da_nil)) de_int) (dg_sub (dv 0) de_int))
    (dss_one (ds_ret (de_op op_modK (de_callT call_intK (by rfl) T.n_int b_int (da_cons (de_op op_divK (de_ix (dv 0) de_int) de_int) da_nil)) (dv 1))))))))
theorem sc_law_names : FnScope [(Str.ofString "_law_purse_here"), (Str.ofString "_law_many"), (Str.ofString "_law_signs"), (Str.ofString "_law_words"), (Str.ofString "_law_found"), (Str.ofString "_law_at"), (Str.ofString "_law_longer"), (Str.ofString "_law_word"), (Str.ofString "_law_more"), (Str.ofString "_law_each"), (Str.ofString "_law_k")] [(Str.ofString "_law_purse_here"), (Str.ofString "_law_many")] (defScope t_law_names) := ⟨rfl, rfl, rfl, by decide +kernel, rfl, by decide +kernel, by decide +kernel⟩
theorem ok_law_names (T : Txt K mg C a) : FnG P w K mg base 2 a.f_law_names a.d_law_names [(Str.ofString "_law_purse_here"), (Str.ofString "_law_many")] (spD K (M_law_names) 2) :=
  fnX T.F_law_names sc_law_names fun cdv A outer s H E c => have nd := sc_law_names.nd
    (dss_cons (ds_par (i := 2) (j := 3) c.cm nd (da_cons de_str (da_cons (de_lst (da_cons de_str (da_cons de_str (da_cons de_str (da_cons de_str (da_cons de_str (da_cons de_str (da_cons de_str (da_cons de_str da_nil))))))))) da_nil)))
    (dss_cons (ds_set (i := 4) nd (de_lstC da_nil))
    (dss_cons (ds_for c.po c.cm (di_range1 (by rfl) T.n_range (dv 1)) (dg_name 5 nd) (dss_cons (ds_par (i := 6) (j := 7) c.cm nd (da_cons (de_fn (cal_fn (ok_law_draw T) (c.rj (by decide)) c.gd c.tk (bd_all rfl T.b_law_draw)) T.k_law_draw (by rfl) T.g_law_draw (da_cons (dv 0) (da_cons de_int da_nil))) (da_cons (de_ix (dv 2) (de_fn (cal_fn (ok_law_draw T) (c.rj (by decide)) c.gd c.tk (bd_all rfl T.b_law_draw)) T.k_law_draw (by rfl) T.g_law_draw (da_cons (dv 0) (da_cons de_int da_nil)))) da_nil)))
    (dss_cons (ds_for c.po c.cm (di_range1 (by rfl) T.n_range (de_fn (cal_fn (ok_law_draw T) (c.rj (by decide)) c.gd c.tk (bd_all rfl T.b_law_draw)) T.k_law_draw (by rfl) T.g_law_draw (da_cons (dv 0) (da_cons (de_if (dt_cmp (op_eqK c.u) (dv 6) de_int (by rfl)) de_int de_int) da_nil)))) (dg_name 8 nd) (dss_one (ds_set (i := 7) nd (de_op op_addK (dv 7) (de_ix (dv 2) (de_fn (cal_fn (ok_law_draw T) (c.rj (by decide)) c.gd c.tk (bd_all rfl T.b_law_draw)) T.k_law_draw (by rfl) T.g_law_draw (da_cons (dv 0) (da_cons de_int da_nil))))))))
    (dss_cons (ds_if (dt_cmp (op_eqK c.u) (de_fn (cal_fn (ok_law_draw T) (c.rj (by decide)) c.gd c.tk (bd_all rfl T.b_law_draw)) T.k_law_draw (by rfl) T.g_law_draw (da_cons (dv 0) (da_cons de_int da_nil))) de_int (by rfl)) (dss_one (ds_set (i := 7) nd (de_ix (dv 3) (de_fn (cal_fn (ok_law_draw T) (c.rj (by decide)) c.gd c.tk (bd_all rfl T.b_law_draw)) T.k_law_draw (by rfl) T.g_law_draw (da_cons (dv 0) (da_cons de_int da_nil)))))) dss_nil)
    (dss_cons (ds_if (dt_cmp (op_inK c.u70) (dv 7) (dv 4) (by rfl)) (dss_one (ds_set (i := 7) nd (de_ix (de_lc (own := [(Str.ofString "_law_each", 9)]) c.cm nd (di_val (de_lc (own := [(Str.ofString "_law_k", 10)]) c.cm nd (di_range1 (by rfl) T.n_range (dv 1)) (blk_ok (by kernel_rfl)) (fun _ _ _ _ _ => (dx_name 10 nd)) (fun _ _ _ _ _ => dts_nil) (fun _ _ _ _ _ => (de_op op_addK de_str (de_callT call_strK (by rfl) T.n_str b_str (da_cons (dv 10) da_nil)))))) (blk_ok (by kernel_rfl)) (fun _ _ _ _ _ => (dx_name 9 nd)) (fun _ _ _ _ _ => (dts_one (dt_cmp (op_notInK c.u70) (dv 9) (dv 4) (by rfl)))) (fun _ _ _ _ _ => (dv 9))) de_int))) dss_nil)
    (dss_one (ds_expr (q_m PySem.F.plainAttrs_list PySem.F.slot_list_append PySem.F.type_list_append mt_appendK okL_ty (dv 4) (da_cons (dv 7) da_nil)))))))))
    (dss_one (ds_ret (dv 4))))))
theorem sc_law_order : FnScope [(Str.ofString "_law_purse_here"), (Str.ofString "_law_many"), (Str.ofString "_law_found"), (Str.ofString "_law_at")] [(Str.ofString "_law_purse_here"), (Str.ofString "_law_many")] (defScope t_law_order) := ⟨rfl, rfl, rfl, by decide +kernel, rfl, by decide +kernel, by decide +kernel⟩
theorem ok_law_order (T : Txt K mg C a) : FnG P w K mg base 2 a.f_law_order a.d_law_order [(Str.ofString "_law_purse_here"), (Str.ofString "_law_many")] (spD K (M_law_order) 2) :=
  fnX T.F_law_order sc_law_order fun cdv A outer s H E c => have nd := sc_law_order.nd
    (dss_cons (ds_set (i := 2) nd (de_lstC da_nil))
    (dss_cons (ds_for c.po c.cm (di_range1 (by rfl) T.n_range (dv 1)) (dg_name 3 nd) (dss_one (ds_expr (q_m PySem.F.plainAttrs_list PySem.F.slot_list_insert PySem.F.type_list_insert mt_insertK okL_ty (dv 2) (da_cons (de_fn (cal_fn (ok_law_draw T) (c.rj (by decide)) c.gd c.tk (bd_all rfl T.b_law_draw)) T.k_law_draw (by rfl) T.g_law_draw (da_cons (dv 0) (da_cons (de_op op_addK (dv 3) de_int) da_nil))) (da_cons (dv 3) da_nil))))))
    (dss_one (ds_ret (dv 2)))))
theorem sc_law_ends : FnScope [(Str.ofString "_law_purse_here"), (Str.ofString "_law_names_here"), (Str.ofString "_law_order_here"), (Str.ofString "_law_at")] [(Str.ofString "_law_purse_here"), (Str.ofString "_law_names_here")] (defScope t_law_ends) := ⟨rfl, rfl, rfl, by decide +kernel, rfl, by decide +kernel, by decide +kernel⟩
theorem ok_law_ends (T : Txt K mg C a) : FnG P w K mg base 3 a.f_law_ends a.d_law_ends [(Str.ofString "_law_purse_here"), (Str.ofString "_law_names_here")] (spD K (M_law_ends) 2) :=
  fnX T.F_law_ends sc_law_ends fun cdv A outer s H E c => have nd := sc_law_ends.nd
    (dss_cons (ds_set (i := 2) nd (de_fn (cal_fn (ok_law_order T) (c.rj (by decide)) c.gd c.tk (bd_all rfl T.b_law_order)) T.k_law_order (by rfl) T.g_law_order (da_cons (dv 0) (da_cons (de_callB call_lenK (by rfl) T.n_len b_len (da_cons (dv 1) da_nil)) da_nil))))
    (dss_one (ds_ret (de_callT call_tupleK (by rfl) T.n_tuple b_tuple (da_cons (de_lc (own := [(Str.ofString "_law_at", 3)]) c.cm nd (di_val (de_sl (dv 2) .none (.some (de_op op_addK de_int (de_fn (cal_fn (ok_law_draw T) (c.rj (by decide)) c.gd c.tk (bd_all rfl T.b_law_draw)) T.k_law_draw (by rfl) T.g_law_draw (da_cons (dv 0) (da_cons (de_callB call_lenK (by rfl) T.n_len b_len (da_cons (dv 1) da_nil)) da_nil))))))) (blk_ok (by kernel_rfl)) (fun _ _ _ _ _ => (dx_name 3 nd)) (fun _ _ _ _ _ => dts_nil) (fun _ _ _ _ _ => (de_ix (dv 1) (dv 3)))) da_nil)))))
theorem sc_law_parts : FnScope [(Str.ofString "_law_purse_here"), (Str.ofString "_law_many"), (Str.ofString "_law_ring"), (Str.ofString "_law_names_here"), (Str.ofString "_law_chance"), (Str.ofString "_law_wires"), (Str.ofString "_law_one"), (Str.ofString "_law_two")] [(Str.ofString "_law_purse_here"), (Str.ofString "_law_many"), (Str.ofString "_law_ring")] (defScope t_law_parts) := ⟨rfl, rfl, rfl, by decide +kernel, rfl, by decide +kernel, by decide +kernel⟩
theorem ok_law_parts (T : Txt K mg C a) : FnG P w K mg base 4 a.f_law_parts a.d_law_parts [(Str.ofString "_law_purse_here"), (Str.ofString "_law_many"), (Str.ofString "_law_ring")] (spD K (M_law_parts) 3) :=
  fnX T.F_law_parts sc_law_parts fun cdv A outer s H E c => have nd := sc_law_parts.nd
    (dss_cons (ds_par3 (i := 3) (j := 4) (l := 5) c.cm nd (da_cons (de_callT call_tupleK (by rfl) T.n_tuple b_tuple (da_cons (de_fn (cal_fn (ok_law_names T) (c.rj (by decide)) c.gd c.tk (bd_all rfl T.b_law_names)) T.k_law_names (by rfl) T.g_law_names (da_cons (dv 0) (da_cons (dv 1) da_nil))) da_nil)) (da_cons (de_op op_addK de_int (de_fn (cal_fn (ok_law_draw T) (c.rj (by decide)) c.gd c.tk (bd_all rfl T.b_law_draw)) T.k_law_draw (by rfl) T.g_law_draw (da_cons (dv 0) (da_cons de_int da_nil)))) (da_cons (de_lstC da_nil) da_nil))))
    (dss_cons (ds_for c.po c.cm (di_val (dv 3)) (dg_name 6 nd) (dss_one (ds_for c.po c.cm (di_val (dv 3)) (dg_name 7 nd) (dss_one (ds_if (dt_cmp op_ltK (de_fn (cal_fn (ok_law_draw T) (c.rj (by decide)) c.gd c.tk (bd_all rfl T.b_law_draw)) T.k_law_draw (by rfl) T.g_law_draw (da_cons (dv 0) (da_cons de_int da_nil))) (dv 4) (by rfl)) (dss_one (ds_expr (q_m PySem.F.plainAttrs_list PySem.F.slot_list_insert PySem.F.type_list_insert mt_insertK okL_ty (dv 5) (da_cons (de_fn (cal_fn (ok_law_draw T) (c.rj (by decide)) c.gd c.tk (bd_all rfl T.b_law_draw)) T.k_law_draw (by rfl) T.g_law_draw (da_cons (dv 0) (da_cons (de_op op_addK (de_callB call_lenK (by rfl) T.n_len b_len (da_cons (dv 5) da_nil)) de_int) da_nil))) (da_cons (de_tup (da_cons (dv 6) (da_cons (dv 7) da_nil))) da_nil))))) dss_nil)))))
    (dss_cons (ds_if (dt_b (dv 2)) (dss_one (ds_ret (de_tup (da_cons (dv 3) (da_cons (de_callT call_tupleK (by rfl) T.n_tuple b_tuple (da_cons (dv 5) da_nil)) (da_cons (de_tup da_nil) (da_cons (de_tup da_nil) da_nil))))))) dss_nil)
    (dss_one (ds_ret (de_tup (da_cons (dv 3) (da_cons (de_callT call_tupleK (by rfl) T.n_tuple b_tuple (da_cons (dv 5) da_nil)) (da_cons (de_fn (cal_fn (ok_law_ends T) (c.rj (by decide)) c.gd c.tk (bd_all rfl T.b_law_ends)) T.k_law_ends (by rfl) T.g_law_ends (da_cons (dv 0) (da_cons (dv 3) da_nil))) (da_cons (de_fn (cal_fn (ok_law_ends T) (c.rj (by decide)) c.gd c.tk (bd_all rfl T.b_law_ends)) T.k_law_ends (by rfl) T.g_law_ends (da_cons (dv 0) (da_cons (dv 3) da_nil))) da_nil))))))))))
theorem sc_is_name : FnScope [(Str.ofString "value"), (Str.ofString "sign")] [(Str.ofString "value")] (defScope t_is_name) := ⟨rfl, rfl, rfl, by decide +kernel, rfl, by decide +kernel, by decide +kernel⟩
theorem ok_is_name (T : Txt K mg C a) : FnG P w K mg base 1 a.f_is_name a.d_is_name [(Str.ofString "value")] (spD K (M_is_name) 1) :=
  fnX T.F_is_name sc_is_name fun cdv A outer s H E c => have nd := sc_is_name.nd
    (dss_cons (ds_if (dw_pt (dw_or (dt_not (dt_b (de_callB (call_isiK T.kits) (by rfl) T.n_isinstance b_isinstance (da_cons (dv 0) (da_cons (de_bty (by rfl) T.n_str b_str) da_nil))))) (dw_or1 (dt_not (dt_chain op_leK op_leK de_int (de_callB call_lenK (by rfl) T.n_len b_len (da_cons (dv 0) da_nil)) (de_gI (by rfl) T.v_LONGEST_NAME)))))) (dss_one (ds_ret de_bl)) dss_nil)
    (dss_one (ds_ret (de_and (de_cmp (op_inK c.u70) (de_ix (dv 0) de_int) (de_gS (by rfl) T.v_LETTERS) (by rfl)) (de_one (de_callB (call_allK c.cm) (by rfl) T.n_all b_all (da_cons (de_lc (own := [(Str.ofString "sign", 1)]) c.cm nd (di_val (dv 0)) (blk_ok (by kernel_rfl)) (fun _ _ _ _ _ => (dx_name 1 nd)) (fun _ _ _ _ _ => dts_nil) (fun _ _ _ _ _ => (de_or (de_cmp (op_inK c.u70) (dv 1) (de_gS (by rfl) T.v_LETTERS) (by rfl)) (de_one (de_cmp (op_inK c.u70) (dv 1) (de_gS (by rfl) T.v_DIGITS) (by rfl)))))) da_nil)))))))
theorem sc_wrong_kind : FnScope [(Str.ofString "kinds"), (Str.ofString "at"), (Str.ofString "kind")] [(Str.ofString "kinds")] (defScope t_wrong_kind) := ⟨rfl, rfl, rfl, by decide +kernel, rfl, by decide +kernel, by decide +kernel⟩
theorem ok_wrong_kind (T : Txt K mg C a) : FnG P w K mg base 2 a.f_wrong_kind a.d_wrong_kind [(Str.ofString "kinds")] (spD K (M_wrong_kind) 1) :=
  fnX T.F_wrong_kind sc_wrong_kind fun cdv A outer s H E c => have nd := sc_wrong_kind.nd
    (dss_cons (ds_for c.po c.cm (di_enum (by rfl) T.n_enumerate (dv 0)) (dg_tup c.cm (dgs_cons (dg_name 1 nd) (dgs_cons (dg_name 2 nd) dgs_nil))) (dss_one (ds_if (dw_pt (dw_or (dt_not (dt_b (de_fn (cal_fn (ok_is_name T) (c.rj (by decide)) c.gd c.tk (bd_all rfl T.b_is_name)) T.k_is_name (by rfl) T.g_is_name (da_cons (dv 2) da_nil)))) (dw_or (dt_cmp (op_inK c.u70) (dv 2) (de_sl (dv 0) .none (.some (dv 1))) (by rfl)) (dw_or1 (dt_cmp op_geK (dv 1) (de_gI (by rfl) T.v_MOST_KINDS) (by rfl)))))) (dss_one (ds_ret (dv 1))) dss_nil)))
    (dss_one (ds_ret de_non)))
theorem sc_check_new_kinds : FnScope [(Str.ofString "kinds"), (Str.ofString "wrong")] [(Str.ofString "kinds")] (defScope t_check_new_kinds) := ⟨rfl, rfl, rfl, by decide +kernel, rfl, by decide +kernel, by decide +kernel⟩
theorem ok_check_new_kinds (T : Txt K mg C a) : FnG P w K mg base 3 a.f_check_new_kinds a.d_check_new_kinds [(Str.ofString "kinds")] (spD K (M_check_new_kinds) 1) :=
  fnX T.F_check_new_kinds sc_check_new_kinds fun cdv A outer s H E c => have nd := sc_check_new_kinds.nd
    (dss_cons (ds_if (dw_pt (dw_or (dt_not (dt_b (de_callB (call_isiK T.kits) (by rfl) T.n_isinstance b_isinstance (da_cons (dv 0) (da_cons (de_bty (by rfl) T.n_tuple b_tuple) da_nil))))) (dw_or1 (dt_cmp (op_eqK c.u) (de_callB call_lenK (by rfl) T.n_len b_len (da_cons (dv 0) da_nil)) de_int (by rfl))))) (dss_one ds_never) dss_nil)
    (dss_cons (ds_set (i := 1) nd (de_fn (cal_fn (ok_wrong_kind T) (c.rj (by decide)) c.gd c.tk (bd_all rfl T.b_wrong_kind)) T.k_wrong_kind (by rfl) T.g_wrong_kind (da_cons (dv 0) da_nil)))
    (dss_one (ds_if (dt_cmp op_notK (dv 1) de_non (by rfl)) (dss_one ds_never) dss_nil))))
theorem sc_is_pair : FnScope [(Str.ofString "value"), (Str.ofString "kinds")] [(Str.ofString "value"), (Str.ofString "kinds")] (defScope t_is_pair) := ⟨rfl, rfl, rfl, by decide +kernel, rfl, by decide +kernel, by decide +kernel⟩
theorem ok_is_pair (T : Txt K mg C a) : FnG P w K mg base 1 a.f_is_pair a.d_is_pair [(Str.ofString "value"), (Str.ofString "kinds")] (spD K (M_is_pair) 2) :=
  fnX T.F_is_pair sc_is_pair fun cdv A outer s H E c => have nd := sc_is_pair.nd
    (dss_one (ds_ret (de_and (de_callB (call_isiK T.kits) (by rfl) T.n_isinstance b_isinstance (da_cons (dv 0) (da_cons (de_bty (by rfl) T.n_tuple b_tuple) da_nil))) (de_and (de_cmp (op_eqK c.u) (de_callB call_lenK (by rfl) T.n_len b_len (da_cons (dv 0) da_nil)) de_int (by rfl)) (de_and (de_cmp (op_inK c.u70) (de_ix (dv 0) de_int) (dv 1) (by rfl)) (de_one (de_cmp (op_inK c.u70) (de_ix (dv 0) de_int) (dv 1) (by rfl))))))))
theorem sc_wrong_pair : FnScope [(Str.ofString "pairs"), (Str.ofString "kinds"), (Str.ofString "at"), (Str.ofString "pair")] [(Str.ofString "pairs"), (Str.ofString "kinds")] (defScope t_wrong_pair) := ⟨rfl, rfl, rfl, by decide +kernel, rfl, by decide +kernel, by decide +kernel⟩
theorem ok_wrong_pair (T : Txt K mg C a) : FnG P w K mg base 2 a.f_wrong_pair a.d_wrong_pair [(Str.ofString "pairs"), (Str.ofString "kinds")] (spD K (M_wrong_pair) 2) :=
  fnX T.F_wrong_pair sc_wrong_pair fun cdv A outer s H E c => have nd := sc_wrong_pair.nd
    (dss_cons (ds_for c.po c.cm (di_enum (by rfl) T.n_enumerate (dv 0)) (dg_tup c.cm (dgs_cons (dg_name 2 nd) (dgs_cons (dg_name 3 nd) dgs_nil))) (dss_one (ds_if (dw_pt (dw_or (dt_not (dt_b (de_fn (cal_fn (ok_is_pair T) (c.rj (by decide)) c.gd c.tk (bd_all rfl T.b_is_pair)) T.k_is_pair (by rfl) T.g_is_pair (da_cons (dv 3) (da_cons (dv 1) da_nil))))) (dw_or1 (dt_cmp (op_inK c.u70) (dv 3) (de_sl (dv 0) .none (.some (dv 2))) (by rfl))))) (dss_one (ds_ret (dv 2))) dss_nil)))
    (dss_one (ds_ret de_non)))
theorem sc_check_pairs : FnScope [(Str.ofString "pairs"), (Str.ofString "kinds"), (Str.ofString "wrong")] [(Str.ofString "pairs"), (Str.ofString "kinds")] (defScope t_check_pairs) := ⟨rfl, rfl, rfl, by decide +kernel, rfl, by decide +kernel, by decide +kernel⟩
theorem ok_check_pairs (T : Txt K mg C a) : FnG P w K mg base 3 a.f_check_pairs a.d_check_pairs [(Str.ofString "pairs"), (Str.ofString "kinds")] (spD K (M_check_pairs) 2) :=
  fnX T.F_check_pairs sc_check_pairs fun cdv A outer s H E c => have nd := sc_check_pairs.nd
    (dss_cons (ds_if (dt_not (dt_b (de_callB (call_isiK T.kits) (by rfl) T.n_isinstance b_isinstance (da_cons (dv 0) (da_cons (de_bty (by rfl) T.n_tuple b_tuple) da_nil))))) (dss_one ds_never) dss_nil)
    (dss_cons (ds_set (i := 2) nd (de_fn (cal_fn (ok_wrong_pair T) (c.rj (by decide)) c.gd c.tk (bd_all rfl T.b_wrong_pair)) T.k_wrong_pair (by rfl) T.g_wrong_pair (da_cons (dv 0) (da_cons (dv 1) da_nil))))
    (dss_one (ds_if (dt_cmp op_notK (dv 2) de_non (by rfl)) (dss_one ds_never) dss_nil))))
theorem sc_wrong_end : FnScope [(Str.ofString "ends"), (Str.ofString "kinds"), (Str.ofString "at"), (Str.ofString "kind")] [(Str.ofString "ends"), (Str.ofString "kinds")] (defScope t_wrong_end) := ⟨rfl, rfl, rfl, by decide +kernel, rfl, by decide +kernel, by decide +kernel⟩
theorem ok_wrong_end (T : Txt K mg C a) : FnG P w K mg base 1 a.f_wrong_end a.d_wrong_end [(Str.ofString "ends"), (Str.ofString "kinds")] (spD K (M_wrong_end) 2) :=
  fnX T.F_wrong_end sc_wrong_end fun cdv A outer s H E c => have nd := sc_wrong_end.nd
    (dss_cons (ds_for c.po c.cm (di_enum (by rfl) T.n_enumerate (dv 0)) (dg_tup c.cm (dgs_cons (dg_name 2 nd) (dgs_cons (dg_name 3 nd) dgs_nil))) (dss_one (ds_if (dw_pt (dw_or (dt_cmp (op_notInK c.u70) (dv 3) (dv 1) (by rfl)) (dw_or1 (dt_cmp (op_inK c.u70) (dv 3) (de_sl (dv 0) .none (.some (dv 2))) (by rfl))))) (dss_one (ds_ret (dv 2))) dss_nil)))
    (dss_one (ds_ret de_non)))
theorem sc_check_ends : FnScope [(Str.ofString "firsts"), (Str.ofString "lasts"), (Str.ofString "kinds"), (Str.ofString "wrong")] [(Str.ofString "firsts"), (Str.ofString "lasts"), (Str.ofString "kinds")] (defScope t_check_ends) := ⟨rfl, rfl, rfl, by decide +kernel, rfl, by decide +kernel, by decide +kernel⟩
theorem ok_check_ends (T : Txt K mg C a) : FnG P w K mg base 2 a.f_check_ends a.d_check_ends [(Str.ofString "firsts"), (Str.ofString "lasts"), (Str.ofString "kinds")] (spD K (M_check_ends) 3) :=
  fnX T.F_check_ends sc_check_ends fun cdv A outer s H E c => have nd := sc_check_ends.nd
    (dss_cons (ds_if (dt_not (dt_b (de_callB (call_isiK T.kits) (by rfl) T.n_isinstance b_isinstance (da_cons (dv 0) (da_cons (de_bty (by rfl) T.n_tuple b_tuple) da_nil))))) (dss_one ds_never) dss_nil)
    (dss_cons (ds_set (i := 3) nd (de_fn (cal_fn (ok_wrong_end T) (c.rj (by decide)) c.gd c.tk (bd_all rfl T.b_wrong_end)) T.k_wrong_end (by rfl) T.g_wrong_end (da_cons (dv 0) (da_cons (dv 2) da_nil))))
    (dss_cons (ds_if (dt_cmp op_notK (dv 3) de_non (by rfl)) (dss_one ds_never) dss_nil)
    (dss_cons (ds_if (dt_not (dt_b (de_callB (call_isiK T.kits) (by rfl) T.n_isinstance b_isinstance (da_cons (dv 1) (da_cons (de_bty (by rfl) T.n_tuple b_tuple) da_nil))))) (dss_one ds_never) dss_nil)
    (dss_cons (ds_set (i := 3) nd (de_fn (cal_fn (ok_wrong_end T) (c.rj (by decide)) c.gd c.tk (bd_all rfl T.b_wrong_end)) T.k_wrong_end (by rfl) T.g_wrong_end (da_cons (dv 1) (da_cons (dv 2) da_nil))))
    (dss_cons (ds_if (dt_cmp op_notK (dv 3) de_non (by rfl)) (dss_one ds_never) dss_nil)
    (dss_one (ds_if (dt_cmp (op_neK c.u) (de_cmp (op_eqK c.u) (de_callB call_lenK (by rfl) T.n_len b_len (da_cons (dv 0) da_nil)) de_int (by rfl)) (de_cmp (op_eqK c.u) (de_callB call_lenK (by rfl) T.n_len b_len (da_cons (dv 1) da_nil)) de_int (by rfl)) (by rfl)) (dss_one ds_never) dss_nil))))))))
theorem sc_place_of : FnScope [(Str.ofString "kinds"), (Str.ofString "kind"), (Str.ofString "at"), (Str.ofString "known")] [(Str.ofString "kinds"), (Str.ofString "kind")] (defScope t_place_of) := ⟨rfl, rfl, rfl, by decide +kernel, rfl, by decide +kernel, by decide +kernel⟩
theorem ok_place_of (T : Txt K mg C a) : FnG P w K mg base 1 a.f_place_of a.d_place_of [(Str.ofString "kinds"), (Str.ofString "kind")] (spD K (M_place_of) 2) :=
  fnX T.F_place_of sc_place_of fun cdv A outer s H E c => have nd := sc_place_of.nd
    (dss_one (ds_ret (de_ix (de_lc (own := [(Str.ofString "at", 2), (Str.ofString "known", 3)]) c.cm nd (di_enum (by rfl) T.n_enumerate (dv 0)) (blk_ok (by kernel_rfl)) (fun _ _ _ _ _ => (dx_tup c.cm (dxs_cons (dx_name 2 nd) (dxs_cons (dx_name 3 nd) dxs_nil)))) (fun _ _ _ _ _ => (dts_one (dt_cmp (op_eqK c.u) (dv 3) (dv 1) (by rfl)))) (fun _ _ _ _ _ => (dv 2))) de_int)))
theorem sc_arcs_of : FnScope [(Str.ofString "kinds"), (Str.ofString "pairs"), (Str.ofString "firsts"), (Str.ofString "lasts"), (Str.ofString "border"), (Str.ofString "found"), (Str.ofString "one"), (Str.ofString "two"), (Str.ofString "kind")] [(Str.ofString "kinds"), (Str.ofString "pairs"), (Str.ofString "firsts"), (Str.ofString "lasts")] (defScope t_arcs_of) := ⟨rfl, rfl, rfl, by decide +kernel, rfl, by decide +kernel, by decide +kernel⟩
theorem ok_arcs_of (T : Txt K mg C a) : FnG P w K mg base 2 a.f_arcs_of a.d_arcs_of [(Str.ofString "kinds"), (Str.ofString "pairs"), (Str.ofString "firsts"), (Str.ofString "lasts")] (spD K (M_arcs_of) 4) :=
  fnX T.F_arcs_of sc_arcs_of fun cdv A outer s H E c => have nd := sc_arcs_of.nd
    (dss_cons (ds_set (i := 4) nd (de_callB call_lenK (by rfl) T.n_len b_len (da_cons (dv 0) da_nil)))
    (dss_cons (ds_setLc (i := 5) (own := [(Str.ofString "one", 6), (Str.ofString "two", 7)]) c.cm nd (di_val (dv 1)) (blk_ok (by kernel_rfl)) (fun _ _ _ _ _ => (dx_tup c.cm (dxs_cons (dx_name 6 nd) (dxs_cons (dx_name 7 nd) dxs_nil)))) (fun _ _ _ _ _ => dts_nil) (fun _ _ _ _ _ => (de_tup (da_cons (de_fn (cal_fn (ok_place_of T) (c.rj (by decide)) c.gd (c.blk _ _ _ _ _).tk (bd_all rfl T.b_place_of)) T.k_place_of (by rfl) T.g_place_of (da_cons (dv 0) (da_cons (dv 6) da_nil))) (da_cons (de_fn (cal_fn (ok_place_of T) (c.rj (by decide)) c.gd (c.blk _ _ _ _ _).tk (bd_all rfl T.b_place_of)) T.k_place_of (by rfl) T.g_place_of (da_cons (dv 0) (da_cons (dv 7) da_nil))) da_nil)))) (by rfl))
    (dss_cons (ds_set (i := 5) nd (de_op op_addK (dv 5) (de_lc (own := [(Str.ofString "kind", 8)]) c.cm nd (di_val (dv 2)) (blk_ok (by kernel_rfl)) (fun _ _ _ _ _ => (dx_name 8 nd)) (fun _ _ _ _ _ => dts_nil) (fun _ _ _ _ _ => (de_tup (da_cons (dv 4) (da_cons (de_fn (cal_fn (ok_place_of T) (c.rj (by decide)) c.gd (c.blk _ _ _ _ _).tk (bd_all rfl T.b_place_of)) T.k_place_of (by rfl) T.g_place_of (da_cons (dv 0) (da_cons (dv 8) da_nil))) da_nil)))))))
    (dss_one (ds_ret (de_callT call_tupleK (by rfl) T.n_tuple b_tuple (da_cons (de_op op_addK (dv 5) (de_lc (own := [(Str.ofString "kind", 8)]) c.cm nd (di_val (dv 3)) (blk_ok (by kernel_rfl)) (fun _ _ _ _ _ => (dx_name 8 nd)) (fun _ _ _ _ _ => dts_nil) (fun _ _ _ _ _ => (de_tup (da_cons (de_fn (cal_fn (ok_place_of T) (c.rj (by decide)) c.gd (c.blk _ _ _ _ _).tk (bd_all rfl T.b_place_of)) T.k_place_of (by rfl) T.g_place_of (da_cons (dv 0) (da_cons (dv 8) da_nil))) (da_cons (dv 4) da_nil)))))) da_nil)))))))
theorem sc_Rule__init_ : FnScope [(Str.ofString "self"), (Str.ofString "kinds"), (Str.ofString "pairs"), (Str.ofString "firsts"), (Str.ofString "lasts")] [(Str.ofString "self"), (Str.ofString "kinds"), (Str.ofString "pairs"), (Str.ofString "firsts"), (Str.ofString "lasts")] (defScope t_Rule__init_) := ⟨rfl, rfl, rfl, by decide +kernel, rfl, by decide +kernel, by decide +kernel⟩
theorem ok_Rule__init_ (T : Txt K mg C a) : FnG P w K mg base 4 a.f_Rule__init_ a.d_Rule__init_ [(Str.ofString "self"), (Str.ofString "kinds"), (Str.ofString "pairs"), (Str.ofString "firsts"), (Str.ofString "lasts")] (spD K (M_Rule__init_ C) 5) :=
  fnX T.F_Rule__init_ sc_Rule__init_ fun cdv A outer s H E c => have nd := sc_Rule__init_.nd
    (dss_cons (ds_expr (de_fn (cal_fn (ok_check_new_kinds T) (c.rj (by decide)) c.gd c.tk (bd_all rfl T.b_check_new_kinds)) T.k_check_new_kinds (by rfl) T.g_check_new_kinds (da_cons (dv 1) da_nil)))
    (dss_cons (ds_expr (de_fn (cal_fn (ok_check_pairs T) (c.rj (by decide)) c.gd c.tk (bd_all rfl T.b_check_pairs)) T.k_check_pairs (by rfl) T.g_check_pairs (da_cons (dv 2) (da_cons (dv 1) da_nil))))
    (dss_cons (ds_expr (de_fn (cal_fn (ok_check_ends T) (c.rj (by decide)) c.gd c.tk (bd_all rfl T.b_check_ends)) T.k_check_ends (by rfl) T.g_check_ends (da_cons (dv 3) (da_cons (dv 4) (da_cons (dv 1) da_nil)))))
    (dss_cons (ds_fset T.cl T.na_sorts (dv 0) (dv 1))
    (dss_cons (ds_fset T.cl T.na_links (dv 0) (dv 2))
    (dss_cons (ds_fset T.cl T.na_heads (dv 0) (dv 3))
    (dss_cons (ds_fset T.cl T.na_tails (dv 0) (dv 4))
    (dss_one (ds_fset T.cl T.na_ways (dv 0) (de_fn (cal_fn (ok_arcs_of T) (c.rj (by decide)) c.gd c.tk (bd_all rfl T.b_arcs_of)) T.k_arcs_of (by rfl) T.g_arcs_of (da_cons (dv 1) (da_cons (dv 2) (da_cons (dv 3) (da_cons (dv 4) da_nil))))))))))))))
theorem sc_law_rule : FnScope [(Str.ofString "_law_parts_here")] [(Str.ofString "_law_parts_here")] (defScope t_law_rule) := ⟨rfl, rfl, rfl, by decide +kernel, rfl, by decide +kernel, by decide +kernel⟩
theorem ok_law_rule (T : Txt K mg C a) : FnG P w K mg base 6 a.f_law_rule a.d_law_rule [(Str.ofString "_law_parts_here")] (spD K (M_law_rule C) 1) :=
  fnX T.F_law_rule sc_law_rule fun cdv A outer s H E c => have nd := sc_law_rule.nd
    (dss_one (ds_ret (de_fn (cal_mkF T.mkR (ok_Rule__init_ T) (c.rj (by decide)) c.gd c.tk T.bm_4) T.mkR.kp (by rfl) T.g_Rule (da_cons (de_ix (dv 0) de_int) (da_cons (de_ix (dv 0) de_int) (da_cons (de_ix (dv 0) de_int) (da_cons (de_ix (dv 0) de_int) da_nil)))))))
theorem sc_Rule__contains_ : FnScope [(Str.ofString "self"), (Str.ofString "value")] [(Str.ofString "self"), (Str.ofString "value")] (defScope t_Rule__contains_) := ⟨rfl, rfl, rfl, by decide +kernel, rfl, by decide +kernel, by decide +kernel⟩
theorem ok_Rule__contains_ (T : Txt K mg C a) : FnG P w K mg base 1 a.f_Rule__contains_ a.d_Rule__contains_ [(Str.ofString "self"), (Str.ofString "value")] (spD K (M_Rule__contains_ C) 2) :=
  fnX T.F_Rule__contains_ sc_Rule__contains_ fun cdv A outer s H E c => have nd := sc_Rule__contains_.nd
    (dss_one (ds_ret (de_cmp (op_inK c.u70) (dv 1) (de_fld T.cl T.na_links (dv 0)) (by rfl))))
theorem sc_law_says : FnScope [(Str.ofString "_law_here"), (Str.ofString "_law_thing"), (Str.ofString "_law_due")] [(Str.ofString "_law_here"), (Str.ofString "_law_thing"), (Str.ofString "_law_due")] (defScope t_law_says) := ⟨rfl, rfl, rfl, by decide +kernel, rfl, by decide +kernel, by decide +kernel⟩
theorem ok_law_says (T : Txt K mg C a) : FnG P w K mg base 3 a.f_law_says a.d_law_says [(Str.ofString "_law_here"), (Str.ofString "_law_thing"), (Str.ofString "_law_due")] (spD K (M_law_says C) 3) :=
  fnX T.F_law_says sc_law_says fun cdv A outer s H E c => have nd := sc_law_says.nd
    (dss_one (ds_ret (de_cmp (op_eqK c.u) (de_callB (call_reprK c.gd c.u) (by rfl) T.n_repr b_repr (da_cons (de_lst (da_cons (de_cmpS (op_inO T.du___contains__ (own_of (ok_Rule__contains_ T) (c.rj (by decide)) c.gd (bd_all rfl T.b_Rule__contains_)) c.u70) (dv 1) (dv 0) (by rfl)) (da_cons (de_cmpS (op_notInO T.du___contains__ (own_of (ok_Rule__contains_ T) (c.rj (by decide)) c.gd (bd_all rfl T.b_Rule__contains_)) c.u70) (dv 1) (dv 0) (by rfl)) da_nil))) da_nil)) (de_callB (call_reprK c.gd c.u) (by rfl) T.n_repr b_repr (da_cons (de_lst (da_cons (dv 2) (da_cons (de_not (dv 2)) da_nil))) da_nil)) (by rfl))))
theorem sc_Rule__len_ : FnScope [(Str.ofString "self")] [(Str.ofString "self")] (defScope t_Rule__len_) := ⟨rfl, rfl, rfl, by decide +kernel, rfl, by decide +kernel, by decide +kernel⟩
theorem ok_Rule__len_ (T : Txt K mg C a) : FnG P w K mg base 1 a.f_Rule__len_ a.d_Rule__len_ [(Str.ofString "self")] (spD K (M_Rule__len_ C) 1) :=
  fnX T.F_Rule__len_ sc_Rule__len_ fun cdv A outer s H E c => have nd := sc_Rule__len_.nd
    (dss_one (ds_ret (de_callB call_lenK (by rfl) T.n_len b_len (da_cons (de_fld T.cl T.na_links (dv 0)) da_nil))))
theorem sc_law_right : FnScope [(Str.ofString "_law_purse_here"), (Str.ofString "_law_cases"), (Str.ofString "_law_things"), (Str.ofString "_law_turn"), (Str.ofString "_law_parts_here"), (Str.ofString "_law_one"), (Str.ofString "_law_two"), (Str.ofString "_law_here"), (Str.ofString "_law_thing"), (Str.ofString "_law_many"), (Str.ofString "_law_pair")] [(Str.ofString "_law_purse_here")] (defScope t_law_right) := ⟨rfl, rfl, rfl, by decide +kernel, rfl, by decide +kernel, by decide +kernel⟩
theorem ok_law_right (T : Txt K mg C a) : FnG P w K mg base 7 a.f_law_right a.d_law_right [(Str.ofString "_law_purse_here")] (spD K (M_law_right C) 1) :=
  fnX T.F_law_right sc_law_right fun cdv A outer s H E c => have nd := sc_law_right.nd
    (dss_cons (ds_par (i := 1) (j := 2) c.cm nd (da_cons (de_lstC da_nil) (da_cons (de_lst (da_cons de_non (da_cons de_int (da_cons de_bl (da_cons de_str (da_cons (de_tup da_nil) (da_cons (de_lst da_nil) (da_cons de_dct0 (da_cons de_str (da_cons (de_tup (da_cons de_str da_nil)) (da_cons (de_tup (da_cons de_str (da_cons de_int da_nil))) (da_cons (de_tup (da_cons (de_lst da_nil) (da_cons de_str da_nil))) (da_cons (de_tup (da_cons de_str (da_cons de_dct0 da_nil))) (da_cons (de_tup (da_cons (de_tup (da_cons de_str (da_cons de_str da_nil))) da_nil)) da_nil)))))))))))))) da_nil)))
    (dss_cons (ds_for c.po c.cm (di_range1 (by rfl) T.n_range de_int) (dg_name 3 nd) (dss_cons (ds_set (i := 4) nd (de_fn (cal_fn (ok_law_parts T) (c.rj (by decide)) c.gd c.tk (bd_all rfl T.b_law_parts)) T.k_law_parts (by rfl) T.g_law_parts (da_cons (dv 0) (da_cons (de_op op_addK de_int (de_fn (cal_fn (ok_law_draw T) (c.rj (by decide)) c.gd c.tk (bd_all rfl T.b_law_draw)) T.k_law_draw (by rfl) T.g_law_draw (da_cons (dv 0) (da_cons de_int da_nil)))) (da_cons (de_cmp (op_eqK c.u) (de_fn (cal_fn (ok_law_draw T) (c.rj (by decide)) c.gd c.tk (bd_all rfl T.b_law_draw)) T.k_law_draw (by rfl) T.g_law_draw (da_cons (dv 0) (da_cons de_int da_nil))) de_int (by rfl)) da_nil)))))
    (dss_cons (ds_expr (q_m PySem.F.plainAttrs_list PySem.F.slot_list_append PySem.F.type_list_append mt_appendK okL_ty (dv 1) (da_cons (de_tup (da_cons (de_fn (cal_fn (ok_law_rule T) (c.rj (by decide)) c.gd c.tk (bd_all rfl T.b_law_rule)) T.k_law_rule (by rfl) T.g_law_rule (da_cons (dv 4) da_nil)) (da_cons (dv 4) da_nil))) da_nil)))
    (dss_cons (ds_asg (de_tup (da_cons (de_ix (de_ix (dv 4) de_int) (de_fn (cal_fn (ok_law_draw T) (c.rj (by decide)) c.gd c.tk (bd_all rfl T.b_law_draw)) T.k_law_draw (by rfl) T.g_law_draw (da_cons (dv 0) (da_cons (de_callB call_lenK (by rfl) T.n_len b_len (da_cons (de_ix (dv 4) de_int) da_nil)) da_nil)))) (da_cons (de_ix (de_ix (dv 4) de_int) (de_fn (cal_fn (ok_law_draw T) (c.rj (by decide)) c.gd c.tk (bd_all rfl T.b_law_draw)) T.k_law_draw (by rfl) T.g_law_draw (da_cons (dv 0) (da_cons (de_callB call_lenK (by rfl) T.n_len b_len (da_cons (de_ix (dv 4) de_int) da_nil)) da_nil)))) da_nil))) (dg_tup c.cm (dgs_cons (dg_name 5 nd) (dgs_cons (dg_name 6 nd) dgs_nil))))
    (dss_cons (ds_set (i := 2) nd (de_op op_addK (dv 2) (de_lst (da_cons (de_tup (da_cons (dv 5) (da_cons (dv 6) da_nil))) (da_cons (de_tup (da_cons (dv 6) (da_cons (dv 5) da_nil))) (da_cons (de_lst (da_cons (dv 5) (da_cons (dv 6) da_nil))) (da_cons (de_tup (da_cons (dv 5) (da_cons (dv 6) (da_cons (dv 5) da_nil)))) (da_cons (dv 5) (da_cons (de_op op_addK (dv 5) (dv 6)) (da_cons (de_tup (da_cons (dv 5) (da_cons (de_op op_addK (dv 6) de_str) da_nil))) da_nil))))))))))
    (dss_one (ds_set (i := 2) nd (de_op op_addK (de_op op_addK (de_op op_addK (dv 2) (de_callT call_listK (by rfl) T.n_list b_list (da_cons (de_ix (dv 4) de_int) da_nil))) (de_lc (own := [(Str.ofString "_law_pair", 10)]) c.cm nd (di_val (de_ix (dv 4) de_int)) (blk_ok (by kernel_rfl)) (fun _ _ _ _ _ => (dx_name 10 nd)) (fun _ _ _ _ _ => dts_nil) (fun _ _ _ _ _ => (de_tup (da_cons (de_ix (dv 10) de_int) (da_cons (de_ix (dv 10) de_int) da_nil)))))) (de_lst (da_cons (de_tup (da_cons (dv 5) (da_cons de_non da_nil))) (da_cons (de_tup (da_cons (de_ix (dv 4) de_int) (da_cons (dv 5) da_nil))) da_nil)))))))))))
    (dss_cons (ds_for c.po c.cm (di_val (de_op op_addK (dv 1) (dv 1))) (dg_tup c.cm (dgs_cons (dg_name 7 nd) (dgs_cons (dg_name 4 nd) dgs_nil))) (dss_cons (ds_for c.po c.cm (di_val (dv 2)) (dg_name 8 nd) (dss_one (ds_if (dt_not (dt_b (de_fn (cal_fn (ok_law_says T) (c.rj (by decide)) c.gd c.tk (bd_all rfl T.b_law_says)) T.k_law_says (by rfl) T.g_law_says (da_cons (dv 7) (da_cons (dv 8) (da_cons (de_cmp (op_inK c.u70) (dv 8) (de_ix (dv 4) de_int) (by rfl)) da_nil)))))) (dss_one (ds_ret de_bl)) dss_nil)))
    (dss_cons (ds_set (i := 9) nd de_int)
    (dss_cons (ds_for c.po c.cm (di_val (de_ix (dv 4) de_int)) (dg_name 5 nd) (dss_one (ds_set (i := 9) nd (de_op op_addK (dv 9) (de_callB call_lenK (by rfl) T.n_len b_len (da_cons (de_lc (own := [(Str.ofString "_law_two", 6)]) c.cm nd (di_val (de_ix (dv 4) de_int)) (blk_ok (by kernel_rfl)) (fun _ _ _ _ _ => (dx_name 6 nd)) (fun _ _ _ _ _ => (dts_one (dt_cmpS (op_inO T.du___contains__ (own_of (ok_Rule__contains_ T) (c.rj (by decide)) c.gd (bd_all rfl T.b_Rule__contains_)) c.u70) (de_tup (da_cons (dv 5) (da_cons (dv 6) da_nil))) (dv 7) (by rfl)))) (fun _ _ _ _ _ => (dv 6))) da_nil))))))
    (dss_one (ds_if (dt_cmp (op_neK c.u) (de_callB (call_reprK c.gd c.u) (by rfl) T.n_repr b_repr (da_cons (de_callBS (call_lenO T.du___len__ (own_of (ok_Rule__len_ T) (c.rj (by decide)) c.gd (bd_all rfl T.b_Rule__len_))) (by rfl) T.n_len b_len (da_cons (dv 7) da_nil)) da_nil)) (de_callB (call_reprK c.gd c.u) (by rfl) T.n_repr b_repr (da_cons (dv 9) da_nil)) (by rfl)) (dss_one (ds_ret de_bl)) dss_nil))))))
    (dss_one (ds_ret de_bl)))))
theorem sc_law_purse : FnScope [(Str.ofString "_law_script"), (Str.ofString "_law_at"), (Str.ofString "_law_cell"), (Str.ofString "_law_mixed"), (Str.ofString "_law_each")] [(Str.ofString "_law_script"), (Str.ofString "_law_at")] (defScope t_law_purse) := ⟨rfl, rfl, rfl, by decide +kernel, rfl, by decide +kernel, by decide +kernel⟩
theorem ok_law_purse (T : Txt K mg C a) : FnG P w K mg base 1 a.f_law_purse a.d_law_purse [(Str.ofString "_law_script"), (Str.ofString "_law_at")] (spD K (M_law_purse) 2) :=
  fnX T.F_law_purse sc_law_purse fun cdv A outer s H E c => have nd := sc_law_purse.nd
    (dss_cons (ds_set (i := 2) nd (de_if (dt_cmp op_ltK (dv 1) (de_callB call_lenK (by rfl) T.n_len b_len (da_cons (dv 0) da_nil)) (by rfl)) (de_ix (dv 0) (dv 1)) de_int))
    (dss_cons (ds_set (i := 3) nd (de_op op_addK de_int (de_op op_mulK de_int (dv 1))))
    (dss_cons (ds_for c.po c.cm (di_val (de_op op_addK (de_sl (dv 0) .none (.some de_int)) (de_lst (da_cons (dv 2) da_nil)))) (dg_name 4 nd) (dss_cons (ds_set (i := 3) nd (de_op op_addK (de_op op_mulK (dv 3) de_int) (de_op op_modK (de_callT call_intK (by rfl) T.n_int b_int (da_cons (dv 4) da_nil)) de_int)))
    (dss_one (ds_set (i := 3) nd (de_op op_modK (de_callT call_intK (by rfl) T.n_int b_int (da_cons (de_op op_addK (dv 3) de_int) da_nil)) de_int)))))
    (dss_one (ds_ret (de_lstC (da_cons (dv 3) (da_cons (de_if (dt_cmp op_geK (de_callB call_absK (by rfl) T.n_abs b_abs (da_cons (dv 2) da_nil)) (de_op op_powK de_int de_int) (by rfl)) (de_callB call_absK (by rfl) T.n_abs b_abs (da_cons (dv 2) da_nil)) de_int) (da_cons de_int da_nil)))))))))
theorem sc_law : FnScope [(Str.ofString "_law_script"), (Str.ofString "_law_k")] [(Str.ofString "_law_script")] (defScope t_law) := ⟨rfl, rfl, rfl, by decide +kernel, rfl, by decide +kernel, by decide +kernel⟩
theorem ok_law (T : Txt K mg C a) : FnG P w K mg base 8 a.f_law a.d_law [(Str.ofString "_law_script")] (spD K (M_law C) 1) :=
  fnX T.F_law sc_law fun cdv A outer s H E c => have nd := sc_law.nd
    (dss_cons (ds_for c.po c.cm (di_range1 (by rfl) T.n_range (de_callB (call_maxK c.cm) (by rfl) T.n_max b_max (da_cons de_int (da_cons (de_callB (call_minK c.cm) (by rfl) T.n_min b_min (da_cons (de_callB call_lenK (by rfl) T.n_len b_len (da_cons (dv 0) da_nil)) (da_cons de_int da_nil))) da_nil)))) (dg_name 1 nd) (dss_one (ds_if (dt_not (dt_b (de_fn (cal_fn (ok_law_right T) (c.rj (by decide)) c.gd c.tk (bd_all rfl T.b_law_right)) T.k_law_right (by rfl) T.g_law_right (da_cons (de_fn (cal_fn (ok_law_purse T) (c.rj (by decide)) c.gd c.tk (bd_all rfl T.b_law_purse)) T.k_law_purse (by rfl) T.g_law_purse (da_cons (dv 0) (da_cons (dv 1) da_nil))) da_nil)))) (dss_one (ds_ret de_bl)) dss_nil)))
    (dss_one (ds_ret de_bl)))
end
theorem all_mk {l : PySem.W.OpenLaw} {w : World} {K : PySem.W.Frag} {h : Heap} {mg : Str → Option Value} {fa : Addr} (X : K.In h) (G : h.Ns mainGlobals mg) (hfa : mg (Str.ofString "law") = some (.ref fa)) (L : ∀ C : Addr, LawTrue (M_law C) 63)
    {C : Addr}
    {f0 : Addr} {od0 an0 : Option Addr} {sl0 : Array (Option Value)} {oc0 kV0 dc0 pm0 cd0 ct0 : Value}
    {f1 : Addr} {od1 an1 : Option Addr} {sl1 : Array (Option Value)} {oc1 kV1 dc1 pm1 cd1 ct1 : Value}
    {f2 : Addr} {od2 an2 : Option Addr} {sl2 : Array (Option Value)} {oc2 kV2 dc2 pm2 cd2 ct2 : Value}
    {f3 : Addr} {od3 an3 : Option Addr} {sl3 : Array (Option Value)} {oc3 kV3 dc3 pm3 cd3 ct3 : Value}
    {f4 : Addr} {od4 an4 : Option Addr} {sl4 : Array (Option Value)} {oc4 kV4 dc4 pm4 cd4 ct4 : Value}
    {f5 : Addr} {od5 an5 : Option Addr} {sl5 : Array (Option Value)} {oc5 kV5 dc5 pm5 cd5 ct5 : Value}
    {f6 : Addr} {od6 an6 : Option Addr} {sl6 : Array (Option Value)} {oc6 kV6 dc6 pm6 cd6 ct6 : Value}
    {f7 : Addr} {od7 an7 : Option Addr} {sl7 : Array (Option Value)} {oc7 kV7 dc7 pm7 cd7 ct7 : Value}
    {f8 : Addr} {od8 an8 : Option Addr} {sl8 : Array (Option Value)} {oc8 kV8 dc8 pm8 cd8 ct8 : Value}
    {f9 : Addr} {od9 an9 : Option Addr} {sl9 : Array (Option Value)} {oc9 kV9 dc9 pm9 cd9 ct9 : Value}
    {f10 : Addr} {od10 an10 : Option Addr} {sl10 : Array (Option Value)} {oc10 kV10 dc10 pm10 cd10 ct10 : Value}
    {f11 : Addr} {od11 an11 : Option Addr} {sl11 : Array (Option Value)} {oc11 kV11 dc11 pm11 cd11 ct11 : Value}
    {f12 : Addr} {od12 an12 : Option Addr} {sl12 : Array (Option Value)} {oc12 kV12 dc12 pm12 cd12 ct12 : Value}
    {f13 : Addr} {od13 an13 : Option Addr} {sl13 : Array (Option Value)} {oc13 kV13 dc13 pm13 cd13 ct13 : Value}
    {f14 : Addr} {od14 an14 : Option Addr} {sl14 : Array (Option Value)} {oc14 kV14 dc14 pm14 cd14 ct14 : Value}
    {f15 : Addr} {od15 an15 : Option Addr} {sl15 : Array (Option Value)} {oc15 kV15 dc15 pm15 cd15 ct15 : Value}
    {TD : Addr} {tcl : Value} {tod : Option Addr} {tn : Nat} {tsl : Array (Option Value)} {e15_0 e15_1 : Value}
    {f16 : Addr} {od16 an16 : Option Addr} {sl16 : Array (Option Value)} {oc16 kV16 dc16 pm16 cd16 ct16 : Value}
    {f17 : Addr} {od17 an17 : Option Addr} {sl17 : Array (Option Value)} {oc17 kV17 dc17 pm17 cd17 ct17 : Value}
    {f18 : Addr} {od18 an18 : Option Addr} {sl18 : Array (Option Value)} {oc18 kV18 dc18 pm18 cd18 ct18 : Value}
    {f19 : Addr} {od19 an19 : Option Addr} {sl19 : Array (Option Value)} {oc19 kV19 dc19 pm19 cd19 ct19 : Value}
    {f20 : Addr} {od20 an20 : Option Addr} {sl20 : Array (Option Value)} {oc20 kV20 dc20 pm20 cd20 ct20 : Value}
    {f21 : Addr} {od21 an21 : Option Addr} {sl21 : Array (Option Value)} {oc21 kV21 dc21 pm21 cd21 ct21 : Value}
    {f22 : Addr} {od22 an22 : Option Addr} {sl22 : Array (Option Value)} {oc22 kV22 dc22 pm22 cd22 ct22 : Value}
    {t_DIGITS : Tok}
    {t_LETTERS : Tok}
    {t_LONGEST_NAME : Tok}
    {t_MOST_KINDS : Tok}
    (aC : PySem.W.nsIn K mainGlobals (Str.ofString "Rule") = some (some (.ref C)))
    (a0 : PySem.W.nsIn K mainGlobals (Str.ofString "_law_draw") = some (some (.ref f0)))
    (l0 : K.lookup f0 = some ⟨oc0, od0, .func (PySem.W.fnOf (Str.ofString "_law_draw") (Str.ofString "_law_draw") (defArgs t_law_draw) (defBody t_law_draw) (defScope t_law_draw) .none kV0 dc0 pm0 an0 cd0 ct0), sl0⟩)
    (c0 : PySem.W.codeIn K cd0 (Str.ofString "_law_draw") = true)
    (k0 : PySem.W.keepIn K (.ref f0) = true)
    (a1 : PySem.W.nsIn K mainGlobals (Str.ofString "_law_names") = some (some (.ref f1)))
    (l1 : K.lookup f1 = some ⟨oc1, od1, .func (PySem.W.fnOf (Str.ofString "_law_names") (Str.ofString "_law_names") (defArgs t_law_names) (defBody t_law_names) (defScope t_law_names) .none kV1 dc1 pm1 an1 cd1 ct1), sl1⟩)
    (c1 : PySem.W.codeIn K cd1 (Str.ofString "_law_names") = true)
    (k1 : PySem.W.keepIn K (.ref f1) = true)
    (a2 : PySem.W.nsIn K mainGlobals (Str.ofString "_law_order") = some (some (.ref f2)))
    (l2 : K.lookup f2 = some ⟨oc2, od2, .func (PySem.W.fnOf (Str.ofString "_law_order") (Str.ofString "_law_order") (defArgs t_law_order) (defBody t_law_order) (defScope t_law_order) .none kV2 dc2 pm2 an2 cd2 ct2), sl2⟩)
    (c2 : PySem.W.codeIn K cd2 (Str.ofString "_law_order") = true)
    (k2 : PySem.W.keepIn K (.ref f2) = true)
    (a3 : PySem.W.nsIn K mainGlobals (Str.ofString "_law_ends") = some (some (.ref f3)))
    (l3 : K.lookup f3 = some ⟨oc3, od3, .func (PySem.W.fnOf (Str.ofString "_law_ends") (Str.ofString "_law_ends") (defArgs t_law_ends) (defBody t_law_ends) (defScope t_law_ends) .none kV3 dc3 pm3 an3 cd3 ct3), sl3⟩)
    (c3 : PySem.W.codeIn K cd3 (Str.ofString "_law_ends") = true)
    (k3 : PySem.W.keepIn K (.ref f3) = true)
    (a4 : PySem.W.nsIn K mainGlobals (Str.ofString "_law_parts") = some (some (.ref f4)))
    (l4 : K.lookup f4 = some ⟨oc4, od4, .func (PySem.W.fnOf (Str.ofString "_law_parts") (Str.ofString "_law_parts") (defArgs t_law_parts) (defBody t_law_parts) (defScope t_law_parts) .none kV4 dc4 pm4 an4 cd4 ct4), sl4⟩)
    (c4 : PySem.W.codeIn K cd4 (Str.ofString "_law_parts") = true)
    (k4 : PySem.W.keepIn K (.ref f4) = true)
    (a5 : PySem.W.nsIn K mainGlobals (Str.ofString "is_name") = some (some (.ref f5)))
    (l5 : K.lookup f5 = some ⟨oc5, od5, .func (PySem.W.fnOf (Str.ofString "is_name") (Str.ofString "is_name") (defArgs t_is_name) (defBody t_is_name) (defScope t_is_name) .none kV5 dc5 pm5 an5 cd5 ct5), sl5⟩)
    (c5 : PySem.W.codeIn K cd5 (Str.ofString "is_name") = true)
    (k5 : PySem.W.keepIn K (.ref f5) = true)
    (a6 : PySem.W.nsIn K mainGlobals (Str.ofString "wrong_kind") = some (some (.ref f6)))
    (l6 : K.lookup f6 = some ⟨oc6, od6, .func (PySem.W.fnOf (Str.ofString "wrong_kind") (Str.ofString "wrong_kind") (defArgs t_wrong_kind) (defBody t_wrong_kind) (defScope t_wrong_kind) .none kV6 dc6 pm6 an6 cd6 ct6), sl6⟩)
    (c6 : PySem.W.codeIn K cd6 (Str.ofString "wrong_kind") = true)
    (k6 : PySem.W.keepIn K (.ref f6) = true)
    (a7 : PySem.W.nsIn K mainGlobals (Str.ofString "check_new_kinds") = some (some (.ref f7)))
    (l7 : K.lookup f7 = some ⟨oc7, od7, .func (PySem.W.fnOf (Str.ofString "check_new_kinds") (Str.ofString "check_new_kinds") (defArgs t_check_new_kinds) (defBody t_check_new_kinds) (defScope t_check_new_kinds) .none kV7 dc7 pm7 an7 cd7 ct7), sl7⟩)
    (c7 : PySem.W.codeIn K cd7 (Str.ofString "check_new_kinds") = true)
    (k7 : PySem.W.keepIn K (.ref f7) = true)
    (a8 : PySem.W.nsIn K mainGlobals (Str.ofString "is_pair") = some (some (.ref f8)))
    (l8 : K.lookup f8 = some ⟨oc8, od8, .func (PySem.W.fnOf (Str.ofString "is_pair") (Str.ofString "is_pair") (defArgs t_is_pair) (defBody t_is_pair) (defScope t_is_pair) .none kV8 dc8 pm8 an8 cd8 ct8), sl8⟩)
    (c8 : PySem.W.codeIn K cd8 (Str.ofString "is_pair") = true)
    (k8 : PySem.W.keepIn K (.ref f8) = true)
    (a9 : PySem.W.nsIn K mainGlobals (Str.ofString "wrong_pair") = some (some (.ref f9)))
    (l9 : K.lookup f9 = some ⟨oc9, od9, .func (PySem.W.fnOf (Str.ofString "wrong_pair") (Str.ofString "wrong_pair") (defArgs t_wrong_pair) (defBody t_wrong_pair) (defScope t_wrong_pair) .none kV9 dc9 pm9 an9 cd9 ct9), sl9⟩)
    (c9 : PySem.W.codeIn K cd9 (Str.ofString "wrong_pair") = true)
    (k9 : PySem.W.keepIn K (.ref f9) = true)
    (a10 : PySem.W.nsIn K mainGlobals (Str.ofString "check_pairs") = some (some (.ref f10)))
    (l10 : K.lookup f10 = some ⟨oc10, od10, .func (PySem.W.fnOf (Str.ofString "check_pairs") (Str.ofString "check_pairs") (defArgs t_check_pairs) (defBody t_check_pairs) (defScope t_check_pairs) .none kV10 dc10 pm10 an10 cd10 ct10), sl10⟩)
    (c10 : PySem.W.codeIn K cd10 (Str.ofString "check_pairs") = true)
    (k10 : PySem.W.keepIn K (.ref f10) = true)
    (a11 : PySem.W.nsIn K mainGlobals (Str.ofString "wrong_end") = some (some (.ref f11)))
    (l11 : K.lookup f11 = some ⟨oc11, od11, .func (PySem.W.fnOf (Str.ofString "wrong_end") (Str.ofString "wrong_end") (defArgs t_wrong_end) (defBody t_wrong_end) (defScope t_wrong_end) .none kV11 dc11 pm11 an11 cd11 ct11), sl11⟩)
    (c11 : PySem.W.codeIn K cd11 (Str.ofString "wrong_end") = true)
    (k11 : PySem.W.keepIn K (.ref f11) = true)
    (a12 : PySem.W.nsIn K mainGlobals (Str.ofString "check_ends") = some (some (.ref f12)))
    (l12 : K.lookup f12 = some ⟨oc12, od12, .func (PySem.W.fnOf (Str.ofString "check_ends") (Str.ofString "check_ends") (defArgs t_check_ends) (defBody t_check_ends) (defScope t_check_ends) .none kV12 dc12 pm12 an12 cd12 ct12), sl12⟩)
    (c12 : PySem.W.codeIn K cd12 (Str.ofString "check_ends") = true)
    (k12 : PySem.W.keepIn K (.ref f12) = true)
    (a13 : PySem.W.nsIn K mainGlobals (Str.ofString "place_of") = some (some (.ref f13)))
    (l13 : K.lookup f13 = some ⟨oc13, od13, .func (PySem.W.fnOf (Str.ofString "place_of") (Str.ofString "place_of") (defArgs t_place_of) (defBody t_place_of) (defScope t_place_of) .none kV13 dc13 pm13 an13 cd13 ct13), sl13⟩)
    (c13 : PySem.W.codeIn K cd13 (Str.ofString "place_of") = true)
    (k13 : PySem.W.keepIn K (.ref f13) = true)
    (a14 : PySem.W.nsIn K mainGlobals (Str.ofString "arcs_of") = some (some (.ref f14)))
    (l14 : K.lookup f14 = some ⟨oc14, od14, .func (PySem.W.fnOf (Str.ofString "arcs_of") (Str.ofString "arcs_of") (defArgs t_arcs_of) (defBody t_arcs_of) (defScope t_arcs_of) .none kV14 dc14 pm14 an14 cd14 ct14), sl14⟩)
    (c14 : PySem.W.codeIn K cd14 (Str.ofString "arcs_of") = true)
    (k14 : PySem.W.keepIn K (.ref f14) = true)
    (a15 : PySem.W.findIn K (.ref C) (Str.ofString "__init__") = some (some (.ref f15)))
    (i15 : PySem.W.isFn K (.ref f15) = true)
    (l15 : K.lookup f15 = some ⟨oc15, od15, .func (PySem.W.fnOf (Str.ofString "__init__") (Str.ofString "Rule.__init__") (defArgs t_Rule__init_) (defBody t_Rule__init_) (defScope t_Rule__init_) (.ref TD) kV15 dc15 pm15 an15 cd15 ct15), sl15⟩)
    (c15 : PySem.W.codeIn K cd15 (Str.ofString "Rule.__init__") = true)
    (dd : K.lookup TD = some ⟨tcl, tod, .seq #[e15_0, e15_1] tn, tsl⟩)
    (a16 : PySem.W.nsIn K mainGlobals (Str.ofString "_law_rule") = some (some (.ref f16)))
    (l16 : K.lookup f16 = some ⟨oc16, od16, .func (PySem.W.fnOf (Str.ofString "_law_rule") (Str.ofString "_law_rule") (defArgs t_law_rule) (defBody t_law_rule) (defScope t_law_rule) .none kV16 dc16 pm16 an16 cd16 ct16), sl16⟩)
    (c16 : PySem.W.codeIn K cd16 (Str.ofString "_law_rule") = true)
    (k16 : PySem.W.keepIn K (.ref f16) = true)
    (a17 : PySem.W.findIn K (.ref C) (Str.ofString "__contains__") = some (some (.ref f17)))
    (i17 : PySem.W.isFn K (.ref f17) = true)
    (l17 : K.lookup f17 = some ⟨oc17, od17, .func (PySem.W.fnOf (Str.ofString "__contains__") (Str.ofString "Rule.__contains__") (defArgs t_Rule__contains_) (defBody t_Rule__contains_) (defScope t_Rule__contains_) .none kV17 dc17 pm17 an17 cd17 ct17), sl17⟩)
    (c17 : PySem.W.codeIn K cd17 (Str.ofString "Rule.__contains__") = true)
    (a18 : PySem.W.nsIn K mainGlobals (Str.ofString "_law_says") = some (some (.ref f18)))
    (l18 : K.lookup f18 = some ⟨oc18, od18, .func (PySem.W.fnOf (Str.ofString "_law_says") (Str.ofString "_law_says") (defArgs t_law_says) (defBody t_law_says) (defScope t_law_says) .none kV18 dc18 pm18 an18 cd18 ct18), sl18⟩)
    (c18 : PySem.W.codeIn K cd18 (Str.ofString "_law_says") = true)
    (k18 : PySem.W.keepIn K (.ref f18) = true)
    (a19 : PySem.W.findIn K (.ref C) (Str.ofString "__len__") = some (some (.ref f19)))
    (i19 : PySem.W.isFn K (.ref f19) = true)
    (l19 : K.lookup f19 = some ⟨oc19, od19, .func (PySem.W.fnOf (Str.ofString "__len__") (Str.ofString "Rule.__len__") (defArgs t_Rule__len_) (defBody t_Rule__len_) (defScope t_Rule__len_) .none kV19 dc19 pm19 an19 cd19 ct19), sl19⟩)
    (c19 : PySem.W.codeIn K cd19 (Str.ofString "Rule.__len__") = true)
    (a20 : PySem.W.nsIn K mainGlobals (Str.ofString "_law_right") = some (some (.ref f20)))
    (l20 : K.lookup f20 = some ⟨oc20, od20, .func (PySem.W.fnOf (Str.ofString "_law_right") (Str.ofString "_law_right") (defArgs t_law_right) (defBody t_law_right) (defScope t_law_right) .none kV20 dc20 pm20 an20 cd20 ct20), sl20⟩)
    (c20 : PySem.W.codeIn K cd20 (Str.ofString "_law_right") = true)
    (k20 : PySem.W.keepIn K (.ref f20) = true)
    (a21 : PySem.W.nsIn K mainGlobals (Str.ofString "_law_purse") = some (some (.ref f21)))
    (l21 : K.lookup f21 = some ⟨oc21, od21, .func (PySem.W.fnOf (Str.ofString "_law_purse") (Str.ofString "_law_purse") (defArgs t_law_purse) (defBody t_law_purse) (defScope t_law_purse) .none kV21 dc21 pm21 an21 cd21 ct21), sl21⟩)
    (c21 : PySem.W.codeIn K cd21 (Str.ofString "_law_purse") = true)
    (k21 : PySem.W.keepIn K (.ref f21) = true)
    (a22 : PySem.W.nsIn K mainGlobals (Str.ofString "law") = some (some (.ref f22)))
    (l22 : K.lookup f22 = some ⟨oc22, od22, .func (PySem.W.fnOf (Str.ofString "law") (Str.ofString "law") (defArgs t_law) (defBody t_law) (defScope t_law) .none kV22 dc22 pm22 an22 cd22 ct22), sl22⟩)
    (c22 : PySem.W.codeIn K cd22 (Str.ofString "law") = true)
    (k22 : PySem.W.keepIn K (.ref f22) = true)
    (h1 : PySem.W.plainGet K C Str.empty = true)
    (h2 : PySem.W.hasDictIn K C = true)
    (h3 : PySem.W.plainOver K C = true)
    (h4 : PySem.W.findIn K (.ref C) (Str.ofString "__setattr__") = some (some (.builtin "object.__setattr__")))
    (h5 : PySem.W.makesIn K C = true)
    (h6 : PySem.W.keepIn K (.ref C) = true)
    (na_heads : PySem.W.findIn K (.ref C) (Str.ofString "heads") = some none)
    (na_links : PySem.W.findIn K (.ref C) (Str.ofString "links") = some none)
    (na_sorts : PySem.W.findIn K (.ref C) (Str.ofString "sorts") = some none)
    (na_tails : PySem.W.findIn K (.ref C) (Str.ofString "tails") = some none)
    (na_ways : PySem.W.findIn K (.ref C) (Str.ofString "ways") = some none)
    (z_abs : PySem.W.nsIn K mainGlobals (Str.ofString "abs") = some none)
    (z_all : PySem.W.nsIn K mainGlobals (Str.ofString "all") = some none)
    (z_divmod : PySem.W.nsIn K mainGlobals (Str.ofString "divmod") = some none)
    (z_enumerate : PySem.W.nsIn K mainGlobals (Str.ofString "enumerate") = some none)
    (z_int : PySem.W.nsIn K mainGlobals (Str.ofString "int") = some none)
    (z_isinstance : PySem.W.nsIn K mainGlobals (Str.ofString "isinstance") = some none)
    (z_len : PySem.W.nsIn K mainGlobals (Str.ofString "len") = some none)
    (z_list : PySem.W.nsIn K mainGlobals (Str.ofString "list") = some none)
    (z_max : PySem.W.nsIn K mainGlobals (Str.ofString "max") = some none)
    (z_min : PySem.W.nsIn K mainGlobals (Str.ofString "min") = some none)
    (z_range : PySem.W.nsIn K mainGlobals (Str.ofString "range") = some none)
    (z_repr : PySem.W.nsIn K mainGlobals (Str.ofString "repr") = some none)
    (z_str : PySem.W.nsIn K mainGlobals (Str.ofString "str") = some none)
    (z_tuple : PySem.W.nsIn K mainGlobals (Str.ofString "tuple") = some none)
    (v_DIGITS : PySem.W.nsIn K mainGlobals (Str.ofString "DIGITS") = some (some (.str (Str.ofString "0123456789") t_DIGITS)))
    (v_LETTERS : PySem.W.nsIn K mainGlobals (Str.ofString "LETTERS") = some (some (.str (Str.ofString "abcdefghijklmnopqrstuvwxyz") t_LETTERS)))
    (v_LONGEST_NAME : PySem.W.nsIn K mainGlobals (Str.ofString "LONGEST_NAME") = some (some (.int 8 t_LONGEST_NAME)))
    (v_MOST_KINDS : PySem.W.nsIn K mainGlobals (Str.ofString "MOST_KINDS") = some (some (.int 5 t_MOST_KINDS)))
    (ke : PySem.W.specialIn K (.builtin "object.__class__") (Str.ofString "__get__") = some (some (.builtin "getset_descriptor.__get__")))
    (kf : PySem.W.takesIn K (.builtin "object.__class__") = some true)
    : ∃ (fd : FuncData) (m : List D → Store → Res D), LawTrue m 63 ∧ (∀ (s : Shared) (v : Value), BindsTo s fd ⟨[v], []⟩ [((Str.ofString "_law_script"), v)]) ∧ ∀ base : Heap, K.In base → base.Ns mainGlobals mg → FnG l.prog w K mg base 8 fa fd [(Str.ofString "_law_script")] (spD K m 1) := by
  have e := hfa.symm.trans (PySem.W.mg_of X G a22)
  cases e
  have T : Txt K mg C ⟨f0,
    (PySem.W.fnOf (Str.ofString "_law_draw") (Str.ofString "_law_draw") (defArgs t_law_draw) (defBody t_law_draw) (defScope t_law_draw) .none kV0 dc0 pm0 an0 cd0 ct0),
    f1,
    (PySem.W.fnOf (Str.ofString "_law_names") (Str.ofString "_law_names") (defArgs t_law_names) (defBody t_law_names) (defScope t_law_names) .none kV1 dc1 pm1 an1 cd1 ct1),
    f2,
    (PySem.W.fnOf (Str.ofString "_law_order") (Str.ofString "_law_order") (defArgs t_law_order) (defBody t_law_order) (defScope t_law_order) .none kV2 dc2 pm2 an2 cd2 ct2),
    f3,
    (PySem.W.fnOf (Str.ofString "_law_ends") (Str.ofString "_law_ends") (defArgs t_law_ends) (defBody t_law_ends) (defScope t_law_ends) .none kV3 dc3 pm3 an3 cd3 ct3),
    f4,
    (PySem.W.fnOf (Str.ofString "_law_parts") (Str.ofString "_law_parts") (defArgs t_law_parts) (defBody t_law_parts) (defScope t_law_parts) .none kV4 dc4 pm4 an4 cd4 ct4),
    f5,
    (PySem.W.fnOf (Str.ofString "is_name") (Str.ofString "is_name") (defArgs t_is_name) (defBody t_is_name) (defScope t_is_name) .none kV5 dc5 pm5 an5 cd5 ct5),
    f6,
    (PySem.W.fnOf (Str.ofString "wrong_kind") (Str.ofString "wrong_kind") (defArgs t_wrong_kind) (defBody t_wrong_kind) (defScope t_wrong_kind) .none kV6 dc6 pm6 an6 cd6 ct6),
    f7,
    (PySem.W.fnOf (Str.ofString "check_new_kinds") (Str.ofString "check_new_kinds") (defArgs t_check_new_kinds) (defBody t_check_new_kinds) (defScope t_check_new_kinds) .none kV7 dc7 pm7 an7 cd7 ct7),
    f8,
    (PySem.W.fnOf (Str.ofString "is_pair") (Str.ofString "is_pair") (defArgs t_is_pair) (defBody t_is_pair) (defScope t_is_pair) .none kV8 dc8 pm8 an8 cd8 ct8),
    f9,
    (PySem.W.fnOf (Str.ofString "wrong_pair") (Str.ofString "wrong_pair") (defArgs t_wrong_pair) (defBody t_wrong_pair) (defScope t_wrong_pair) .none kV9 dc9 pm9 an9 cd9 ct9),
    f10,
    (PySem.W.fnOf (Str.ofString "check_pairs") (Str.ofString "check_pairs") (defArgs t_check_pairs) (defBody t_check_pairs) (defScope t_check_pairs) .none kV10 dc10 pm10 an10 cd10 ct10),
    f11,
    (PySem.W.fnOf (Str.ofString "wrong_end") (Str.ofString "wrong_end") (defArgs t_wrong_end) (defBody t_wrong_end) (defScope t_wrong_end) .none kV11 dc11 pm11 an11 cd11 ct11),
    f12,
    (PySem.W.fnOf (Str.ofString "check_ends") (Str.ofString "check_ends") (defArgs t_check_ends) (defBody t_check_ends) (defScope t_check_ends) .none kV12 dc12 pm12 an12 cd12 ct12),
    f13,
    (PySem.W.fnOf (Str.ofString "place_of") (Str.ofString "place_of") (defArgs t_place_of) (defBody t_place_of) (defScope t_place_of) .none kV13 dc13 pm13 an13 cd13 ct13),
    f14,
    (PySem.W.fnOf (Str.ofString "arcs_of") (Str.ofString "arcs_of") (defArgs t_arcs_of) (defBody t_arcs_of) (defScope t_arcs_of) .none kV14 dc14 pm14 an14 cd14 ct14),
    f15,
    (PySem.W.fnOf (Str.ofString "__init__") (Str.ofString "Rule.__init__") (defArgs t_Rule__init_) (defBody t_Rule__init_) (defScope t_Rule__init_) (.ref TD) kV15 dc15 pm15 an15 cd15 ct15),
    f16,
    (PySem.W.fnOf (Str.ofString "_law_rule") (Str.ofString "_law_rule") (defArgs t_law_rule) (defBody t_law_rule) (defScope t_law_rule) .none kV16 dc16 pm16 an16 cd16 ct16),
    f17,
    (PySem.W.fnOf (Str.ofString "__contains__") (Str.ofString "Rule.__contains__") (defArgs t_Rule__contains_) (defBody t_Rule__contains_) (defScope t_Rule__contains_) .none kV17 dc17 pm17 an17 cd17 ct17),
    f18,
    (PySem.W.fnOf (Str.ofString "_law_says") (Str.ofString "_law_says") (defArgs t_law_says) (defBody t_law_says) (defScope t_law_says) .none kV18 dc18 pm18 an18 cd18 ct18),
    f19,
    (PySem.W.fnOf (Str.ofString "__len__") (Str.ofString "Rule.__len__") (defArgs t_Rule__len_) (defBody t_Rule__len_) (defScope t_Rule__len_) .none kV19 dc19 pm19 an19 cd19 ct19),
    f20,
    (PySem.W.fnOf (Str.ofString "_law_right") (Str.ofString "_law_right") (defArgs t_law_right) (defBody t_law_right) (defScope t_law_right) .none kV20 dc20 pm20 an20 cd20 ct20),
    f21,
    (PySem.W.fnOf (Str.ofString "_law_purse") (Str.ofString "_law_purse") (defArgs t_law_purse) (defBody t_law_purse) (defScope t_law_purse) .none kV21 dc21 pm21 an21 cd21 ct21),
    fa,
    (PySem.W.fnOf (Str.ofString "law") (Str.ofString "law") (defArgs t_law) (defBody t_law) (defScope t_law) .none kV22 dc22 pm22 an22 cd22 ct22)⟩ := {
    kits := ⟨by simp, by simp, by simp, by simp, by simp, ke, kf, by simp⟩,
    n_abs := PySem.W.mg_none_of X G z_abs,
    n_all := PySem.W.mg_none_of X G z_all,
    n_divmod := PySem.W.mg_none_of X G z_divmod,
    n_enumerate := PySem.W.mg_none_of X G z_enumerate,
    n_int := PySem.W.mg_none_of X G z_int,
    n_isinstance := PySem.W.mg_none_of X G z_isinstance,
    n_len := PySem.W.mg_none_of X G z_len,
    n_list := PySem.W.mg_none_of X G z_list,
    n_max := PySem.W.mg_none_of X G z_max,
    n_min := PySem.W.mg_none_of X G z_min,
    n_range := PySem.W.mg_none_of X G z_range,
    n_repr := PySem.W.mg_none_of X G z_repr,
    n_str := PySem.W.mg_none_of X G z_str,
    n_tuple := PySem.W.mg_none_of X G z_tuple,
    v_DIGITS := ⟨_, PySem.W.mg_of X G v_DIGITS⟩,
    v_LETTERS := ⟨_, PySem.W.mg_of X G v_LETTERS⟩,
    v_LONGEST_NAME := ⟨_, PySem.W.mg_of X G v_LONGEST_NAME⟩,
    v_MOST_KINDS := ⟨_, PySem.W.mg_of X G v_MOST_KINDS⟩,
    F_law_draw := fnIs_mk l0 c0,
    b_law_draw := .all fun us hl => match us, hl with | [_, _], _ => rfl,
    k_law_draw := k0,
    g_law_draw := PySem.W.mg_of X G a0,
    F_law_names := fnIs_mk l1 c1,
    b_law_names := .all fun us hl => match us, hl with | [_, _], _ => rfl,
    k_law_names := k1,
    g_law_names := PySem.W.mg_of X G a1,
    F_law_order := fnIs_mk l2 c2,
    b_law_order := .all fun us hl => match us, hl with | [_, _], _ => rfl,
    k_law_order := k2,
    g_law_order := PySem.W.mg_of X G a2,
    F_law_ends := fnIs_mk l3 c3,
    b_law_ends := .all fun us hl => match us, hl with | [_, _], _ => rfl,
    k_law_ends := k3,
    g_law_ends := PySem.W.mg_of X G a3,
    F_law_parts := fnIs_mk l4 c4,
    b_law_parts := .all fun us hl => match us, hl with | [_, _, _], _ => rfl,
    k_law_parts := k4,
    g_law_parts := PySem.W.mg_of X G a4,
    F_is_name := fnIs_mk l5 c5,
    b_is_name := .all fun us hl => match us, hl with | [_], _ => rfl,
    k_is_name := k5,
    g_is_name := PySem.W.mg_of X G a5,
    F_wrong_kind := fnIs_mk l6 c6,
    b_wrong_kind := .all fun us hl => match us, hl with | [_], _ => rfl,
    k_wrong_kind := k6,
    g_wrong_kind := PySem.W.mg_of X G a6,
    F_check_new_kinds := fnIs_mk l7 c7,
    b_check_new_kinds := .all fun us hl => match us, hl with | [_], _ => rfl,
    k_check_new_kinds := k7,
    g_check_new_kinds := PySem.W.mg_of X G a7,
    F_is_pair := fnIs_mk l8 c8,
    b_is_pair := .all fun us hl => match us, hl with | [_, _], _ => rfl,
    k_is_pair := k8,
    g_is_pair := PySem.W.mg_of X G a8,
    F_wrong_pair := fnIs_mk l9 c9,
    b_wrong_pair := .all fun us hl => match us, hl with | [_, _], _ => rfl,
    k_wrong_pair := k9,
    g_wrong_pair := PySem.W.mg_of X G a9,
    F_check_pairs := fnIs_mk l10 c10,
    b_check_pairs := .all fun us hl => match us, hl with | [_, _], _ => rfl,
    k_check_pairs := k10,
    g_check_pairs := PySem.W.mg_of X G a10,
    F_wrong_end := fnIs_mk l11 c11,
    b_wrong_end := .all fun us hl => match us, hl with | [_, _], _ => rfl,
    k_wrong_end := k11,
    g_wrong_end := PySem.W.mg_of X G a11,
    F_check_ends := fnIs_mk l12 c12,
    b_check_ends := .all fun us hl => match us, hl with | [_, _, _], _ => rfl,
    k_check_ends := k12,
    g_check_ends := PySem.W.mg_of X G a12,
    F_place_of := fnIs_mk l13 c13,
    b_place_of := .all fun us hl => match us, hl with | [_, _], _ => rfl,
    k_place_of := k13,
    g_place_of := PySem.W.mg_of X G a13,
    F_arcs_of := fnIs_mk l14 c14,
    b_arcs_of := .all fun us hl => match us, hl with | [_, _, _, _], _ => rfl,
    k_arcs_of := k14,
    g_arcs_of := PySem.W.mg_of X G a14,
    F_Rule__init_ := fnIs_mk l15 c15,
    F_law_rule := fnIs_mk l16 c16,
    b_law_rule := .all fun us hl => match us, hl with | [_], _ => rfl,
    k_law_rule := k16,
    g_law_rule := PySem.W.mg_of X G a16,
    F_Rule__contains_ := fnIs_mk l17 c17,
    b_Rule__contains_ := .all fun us hl => match us, hl with | [_, _], _ => rfl,
    F_law_says := fnIs_mk l18 c18,
    b_law_says := .all fun us hl => match us, hl with | [_, _, _], _ => rfl,
    k_law_says := k18,
    g_law_says := PySem.W.mg_of X G a18,
    F_Rule__len_ := fnIs_mk l19 c19,
    b_Rule__len_ := .all fun us hl => match us, hl with | [_], _ => rfl,
    F_law_right := fnIs_mk l20 c20,
    b_law_right := .all fun us hl => match us, hl with | [_], _ => rfl,
    k_law_right := k20,
    g_law_right := PySem.W.mg_of X G a20,
    F_law_purse := fnIs_mk l21 c21,
    b_law_purse := .all fun us hl => match us, hl with | [_, _], _ => rfl,
    k_law_purse := k21,
    g_law_purse := PySem.W.mg_of X G a21,
    F_law := fnIs_mk l22 c22,
    b_law := .all fun us hl => match us, hl with | [_], _ => rfl,
    k_law := k22,
    g_law := PySem.W.mg_of X G a22,
    cl := ⟨h1, h2, h3, h4⟩,
    na_heads := na_heads,
    na_links := na_links,
    na_sorts := na_sorts,
    na_tails := na_tails,
    na_ways := na_ways,
    mkR := ⟨h5, a15, i15, h6⟩,
    g_Rule := PySem.W.mg_of X G aC,
    bm_4 := bd_full rfl dd rfl fun us hl => match us, hl with | [_, _, _, _, _], _ => ⟨_, rfl, rfl⟩,
    du___contains__ := ⟨a17, i17⟩,
    du___len__ := ⟨a19, i19⟩ }
  exact ⟨_, M_law C, L C, fun s v => .of_eq rfl, fun base _ _ => ok_law T⟩
theorem walk {l : PySem.W.OpenLaw} {q : Program} {loose : List Str} {XP : (Str → Option Value) → Heap → Prop} {YP : World → Heap → Prop} {d : DefRec} {K : Params → PySem.W.Frag} (hn : l.most = some 63) (hdf : d.params.defaults = [])
    (hY : ∀ (w : World) (h : Heap), YP w h → (K w.params).In h)
    (F : ∀ (w : World) (mg : Str → Option Value) (fa : Addr) (h : Heap), (K w.params).In h → h.Ns mainGlobals mg → mg d.name = some (.ref fa) →
      ∃ (fd : FuncData) (m : List D → Store → Res D), LawTrue m 63 ∧ (∀ (s : Shared) (u : Value), BindsTo s fd ⟨[u], []⟩ [((Str.ofString "_law_script"), u)]) ∧ ∀ base : Heap, (K w.params).In base → base.Ns mainGlobals mg → FnG l.prog w (K w.params) mg base 8 fa fd [(Str.ofString "_law_script")] (spD (K w.params) m 1)) :
    PySem.W.WalkO q loose XP YP l.row.toRowW d [] (fun f vs => PySem.call f vs) :=
  walkG hn (by decide) hdf ⟨rfl, by decide, by decide⟩ hY F
end K07

set_option Elab.async false
open PySem PySem.W PyProof.Rows in
set_option maxRecDepth 100000 in
set_option maxHeartbeats 0 in
theorem PySem.Challenge.cw_kindsfollow_k07_pairs_in_rules_holds : PySem.Challenge.rw_kindsfollow_k07_pairs_in_rules.Holds := by
  w_on; o_law; k_head; (case hw => w_witness2)
  k_fill
  refine K07.walk (l := PySem.Challenge.rw_kindsfollow_k07_pairs_in_rules) rfl rfl (fun w h Y => PySem.W.kIn_of Y) ?F
  case F =>
    intro w mg fa h KX G hmg
    refine' K07.all_mk KX G hmg K07.law_true ?aC ?a0 ?l0 ?c0 ?k0 ?a1 ?l1 ?c1 ?k1 ?a2 ?l2 ?c2 ?k2 ?a3 ?l3 ?c3 ?k3 ?a4 ?l4 ?c4 ?k4 ?a5 ?l5 ?c5 ?k5 ?a6 ?l6 ?c6 ?k6 ?a7 ?l7 ?c7 ?k7 ?a8 ?l8 ?c8 ?k8 ?a9 ?l9 ?c9 ?k9 ?a10 ?l10 ?c10 ?k10 ?a11 ?l11 ?c11 ?k11 ?a12 ?l12 ?c12 ?k12 ?a13 ?l13 ?c13 ?k13 ?a14 ?l14 ?c14 ?k14 ?a15 ?i15 ?l15 ?c15 ?dd ?a16 ?l16 ?c16 ?k16 ?a17 ?i17 ?l17 ?c17 ?a18 ?l18 ?c18 ?k18 ?a19 ?i19 ?l19 ?c19 ?a20 ?l20 ?c20 ?k20 ?a21 ?l21 ?c21 ?k21 ?a22 ?l22 ?c22 ?k22 ?h1 ?h2 ?h3 ?h4 ?h5 ?h6 ?na_heads ?na_links ?na_sorts ?na_tails ?na_ways ?z_abs ?z_all ?z_divmod ?z_enumerate ?z_int ?z_isinstance ?z_len ?z_list ?z_max ?z_min ?z_range ?z_repr ?z_str ?z_tuple ?v_DIGITS ?v_LETTERS ?v_LONGEST_NAME ?v_MOST_KINDS ?ke ?kf
    (case aC => k_is)
    (case a0 => k_is)
    (case l0 => k_is)
    (case c0 => k_is)
    (case k0 => k_is)
    (case a1 => k_is)
    (case l1 => k_is)
    (case c1 => k_is)
    (case k1 => k_is)
    (case a2 => k_is)
    (case l2 => k_is)
    (case c2 => k_is)
    (case k2 => k_is)
    (case a3 => k_is)
    (case l3 => k_is)
    (case c3 => k_is)
    (case k3 => k_is)
    (case a4 => k_is)
    (case l4 => k_is)
    (case c4 => k_is)
    (case k4 => k_is)
    (case a5 => k_is)
    (case l5 => k_is)
    (case c5 => k_is)
    (case k5 => k_is)
    (case a6 => k_is)
    (case l6 => k_is)
    (case c6 => k_is)
    (case k6 => k_is)
    (case a7 => k_is)
    (case l7 => k_is)
    (case c7 => k_is)
    (case k7 => k_is)
    (case a8 => k_is)
    (case l8 => k_is)
    (case c8 => k_is)
    (case k8 => k_is)
    (case a9 => k_is)
    (case l9 => k_is)
    (case c9 => k_is)
    (case k9 => k_is)
    (case a10 => k_is)
    (case l10 => k_is)
    (case c10 => k_is)
    (case k10 => k_is)
    (case a11 => k_is)
    (case l11 => k_is)
    (case c11 => k_is)
    (case k11 => k_is)
    (case a12 => k_is)
    (case l12 => k_is)
    (case c12 => k_is)
    (case k12 => k_is)
    (case a13 => k_is)
    (case l13 => k_is)
    (case c13 => k_is)
    (case k13 => k_is)
    (case a14 => k_is)
    (case l14 => k_is)
    (case c14 => k_is)
    (case k14 => k_is)
    (case a15 => k_is)
    (case i15 => k_is)
    (case l15 => k_is)
    (case c15 => k_is)
    (case dd => k_is)
    (case a16 => k_is)
    (case l16 => k_is)
    (case c16 => k_is)
    (case k16 => k_is)
    (case a17 => k_is)
    (case i17 => k_is)
    (case l17 => k_is)
    (case c17 => k_is)
    (case a18 => k_is)
    (case l18 => k_is)
    (case c18 => k_is)
    (case k18 => k_is)
    (case a19 => k_is)
    (case i19 => k_is)
    (case l19 => k_is)
    (case c19 => k_is)
    (case a20 => k_is)
    (case l20 => k_is)
    (case c20 => k_is)
    (case k20 => k_is)
    (case a21 => k_is)
    (case l21 => k_is)
    (case c21 => k_is)
    (case k21 => k_is)
    (case a22 => k_is)
    (case l22 => k_is)
    (case c22 => k_is)
    (case k22 => k_is)
    (case h1 => k_is)
    (case h2 => k_is)
    (case h3 => k_is)
    (case h4 => k_is)
    (case h5 => k_is)
    (case h6 => k_is)
    (case na_heads => k_is)
    (case na_links => k_is)
    (case na_sorts => k_is)
    (case na_tails => k_is)
    (case na_ways => k_is)
    (case z_abs => k_is)
    (case z_all => k_is)
    (case z_divmod => k_is)
    (case z_enumerate => k_is)
    (case z_int => k_is)
    (case z_isinstance => k_is)
    (case z_len => k_is)
    (case z_list => k_is)
    (case z_max => k_is)
    (case z_min => k_is)
    (case z_range => k_is)
    (case z_repr => k_is)
    (case z_str => k_is)
    (case z_tuple => k_is)
    (case v_DIGITS => k_is)
    (case v_LETTERS => k_is)
    (case v_LONGEST_NAME => k_is)
    (case v_MOST_KINDS => k_is)
    (case ke => k_is)
    (case kf => k_is)
