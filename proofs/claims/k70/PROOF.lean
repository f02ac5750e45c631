import PyProof.Rows.All
import HandS.ForMost
import HandS.TupAny
import HandS.TupLe
import HandS.IsInst
import HandS.Deep
import HandS.Wide
import HandS.SortOrd
import HandS.Style
import HandS.WideMore
import HandS.TupMul
import KE.SortData
import HandS.Conv
import PySem.Challenge.RW_apartcells_k70_words_of_values
set_option Elab.async false
set_option linter.all false
set_option maxRecDepth 100000
set_option maxHeartbeats 4000000
namespace DL
open PySem PySem.Spec PyProof.Rows L2

/-- data: scalars, tuples, lists that are only read, and references to objects of the store -/
inductive D where
  | non | bl (b : Bool) | int (i : Int) | str (x : Str) | tup (xs : List D) | ro (xs : List D) | ref (i : Nat)
instance : Inhabited D := ⟨.non⟩
/-- objects of the store -/
inductive O where
  | lst (xs : List D)
instance : Inhabited O := ⟨.lst []⟩
abbrev Sto := List O
abbrev Env := List (Option D)
inductive R (α : Type) where
  | ok (a : α) (st : Sto)
  | bad
def R.bind {α β : Type} (r : R α) (f : α → Sto → R β) : R β := match r with
  | .ok a st => f a st
  | .bad => .bad
@[simp] theorem R.bind_ok {α β : Type} (a : α) (st : Sto) (f : α → Sto → R β) : (R.ok a st).bind f = f a st := rfl
@[simp] theorem R.bind_bad {α β : Type} (f : α → Sto → R β) : (R.bad : R α).bind f = .bad := rfl
/-- what is so of the answer -/
def R.post {α : Type} (r : R α) (Q : α → Sto → Prop) : Prop := match r with
  | .ok a st => Q a st
  | .bad => False
@[simp] theorem R.post_ok {α : Type} (a : α) (st : Sto) (Q : α → Sto → Prop) : (R.ok a st).post Q = Q a st := rfl
@[simp] theorem R.post_bad {α : Type} (Q : α → Sto → Prop) : (R.bad : R α).post Q = False := rfl
theorem R.post_bind {α β : Type} (r : R α) (f : α → Sto → R β) (Q : β → Sto → Prop) : (r.bind f).post Q = r.post fun a st => (f a st).post Q := by cases r <;> rfl
theorem R.post_mono {α : Type} {r : R α} {Q Q' : α → Sto → Prop} (h : r.post Q) (hq : ∀ a st, Q a st → Q' a st) : r.post Q' := by
  cases r with
  | ok a st => exact hq _ _ h
  | bad => exact h

/-! ### how data lie in the abstract heap -/
/-- a list that stands still: locked, or of the written part -/
def RoL (K : PySem.W.Frag) (H : Hp) (a : Addr) (xs : List V) : Prop :=
  (∃ o, H a = some (.frz o (.lst xs))) ∨
    ∃ (o : Obj) (its : Array Value) (n : Nat), K.lookup a = some o ∧ o.cls = .type "list" ∧ o.dict = none ∧ o.data = .seq its n ∧ its.size ≤ sizeLine ∧ Vals xs its.toList
theorem RoL.sq {K : PySem.W.Frag} {H : Hp} {a : Addr} {xs : List V} (h : RoL K H a xs) : SqL K H a xs := by
  rcases h with h | h
  · exact .inl (.inr h)
  · exact .inr h

mutual
inductive Rep (K : PySem.W.Frag) (H : Hp) (m : List Addr) : D → V → Prop
  | non : Rep K H m .non .non
  | bl (b : Bool) : Rep K H m (.bl b) (.bl b)
  | int (i : Int) : Rep K H m (.int i) (.int i)
  | str (x : Str) : Rep K H m (.str x) (.str x)
  | tup {a : Addr} {vs : List V} {ds : List D} : SqT K H a vs → Reps K H m ds vs → Rep K H m (.tup ds) (.ref a)
  | ro {a : Addr} {vs : List V} {ds : List D} : RoL K H a vs → Reps K H m ds vs → Rep K H m (.ro ds) (.ref a)
  | ref {a : Addr} {i : Nat} : m[i]? = some a → Rep K H m (.ref i) (.ref a)
inductive Reps (K : PySem.W.Frag) (H : Hp) (m : List Addr) : List D → List V → Prop
  | nil : Reps K H m [] []
  | cons {d : D} {v : V} {ds : List D} {vs : List V} : Rep K H m d v → Reps K H m ds vs → Reps K H m (d :: ds) (v :: vs)
end

/-- tuples and locked lists stay -/
structure Kb (H H' : Hp) : Prop where
  tup : ∀ a xs, H a = some (.tup xs) → H' a = some (.tup xs)
  frz : ∀ a o u, H a = some (.frz o u) → H' a = some (.frz o u)
/-- .. and all that is tracked and not the store's -/
structure Kp (m : List Addr) (H : Hp) (m' : List Addr) (H' : Hp) : Prop where
  b : Kb H H'
  fr : ∀ a o, H a = some o → a ∉ m → H' a = some o ∧ a ∉ m'
theorem Kb.refl (H : Hp) : Kb H H := ⟨fun _ _ h => h, fun _ _ _ h => h⟩
theorem Kb.trans {H H1 H2 : Hp} (a : Kb H H1) (b : Kb H1 H2) : Kb H H2 := ⟨fun x xs h => b.tup x xs (a.tup x xs h), fun x o u h => b.frz x o u (a.frz x o u h)⟩
theorem Kb.new {H : Hp} {p : Addr} {o : HO} (h : H p = none) : Kb H (upd H p o) :=
  ⟨fun a xs e => by rw [upd_ne (ne_of_none e h)]; exact e, fun a o u e => by rw [upd_ne (ne_of_none e h)]; exact e⟩
theorem Kb.put {H : Hp} {p : Addr} {xs : List V} {o : HO} (h : H p = some (.lst xs)) : Kb H (upd H p o) :=
  ⟨fun a ys e => by rw [upd_ne (ne_of e h (fun z => by cases z))]; exact e, fun a ob u e => by rw [upd_ne (ne_of e h (fun z => by cases z))]; exact e⟩
theorem Kp.refl (H : Hp) {m : List Addr} : Kp m H m H := ⟨.refl H, fun _ _ h n => ⟨h, n⟩⟩
theorem Kp.trans {H H1 H2 : Hp} {m m1 m2 : List Addr} (a : Kp m H m1 H1) (b : Kp m1 H1 m2 H2) : Kp m H m2 H2 := ⟨a.b.trans b.b, fun x o h n => let ⟨h1, n1⟩ := a.fr x o h n; b.fr x o h1 n1⟩
theorem Kp.new {H : Hp} {m : List Addr} {p : Addr} {o : HO} (h : H p = none) : Kp m H m (upd H p o) :=
  ⟨.new h, fun a u e n => ⟨by rw [upd_ne (ne_of_none e h)]; exact e, n⟩⟩
theorem Kp.mk1 {H : Hp} {m : List Addr} {p : Addr} {o : HO} (h : H p = none) : Kp m H (m ++ [p]) (upd H p o) :=
  ⟨.new h, fun a u e n => ⟨by rw [upd_ne (ne_of_none e h)]; exact e, fun z => by
    rcases List.mem_append.mp z with z | z
    · exact n z
    · rw [List.mem_singleton] at z; subst z; rw [h] at e; cases e⟩⟩
theorem Kp.put {H : Hp} {m : List Addr} {p : Addr} {xs : List V} {o : HO} (hp : p ∈ m) (h : H p = some (.lst xs)) : Kp m H m (upd H p o) :=
  ⟨.put h, fun a u e n => ⟨by rw [upd_ne (show a ≠ p from fun z => n (by rw [z]; exact hp))]; exact e, n⟩⟩
theorem Kb.sqT {K : PySem.W.Frag} {H H' : Hp} (k : Kb H H') {a : Addr} {xs : List V} (h : SqT K H a xs) : SqT K H' a xs := by
  rcases h with (h | ⟨o, h⟩) | h
  · exact .inl (.inl (k.tup _ _ h))
  · exact .inl (.inr ⟨o, k.frz _ _ _ h⟩)
  · exact .inr h
theorem Kb.roL {K : PySem.W.Frag} {H H' : Hp} (k : Kb H H') {a : Addr} {xs : List V} (h : RoL K H a xs) : RoL K H' a xs := by
  rcases h with ⟨o, h⟩ | h
  · exact .inl ⟨o, k.frz _ _ _ h⟩
  · exact .inr h
theorem Kp.sqT {K : PySem.W.Frag} {H H' : Hp} {m m' : List Addr} (k : Kp m H m' H') {a : Addr} {xs : List V} (h : SqT K H a xs) : SqT K H' a xs := k.b.sqT h
theorem Kp.roL {K : PySem.W.Frag} {H H' : Hp} {m m' : List Addr} (k : Kp m H m' H') {a : Addr} {xs : List V} (h : RoL K H a xs) : RoL K H' a xs := k.b.roL h
theorem pre_get {m m' : List Addr} (h : m <+: m') {i : Nat} {a : Addr} (e : m[i]? = some a) : m'[i]? = some a := by
  obtain ⟨t, rfl⟩ := h
  rw [List.getElem?_append_left (List.getElem?_eq_some_iff.mp e).1]
  exact e
mutual
theorem Rep.upb {K : PySem.W.Frag} {H H' : Hp} {m m' : List Addr} (k : Kb H H') (hm : m <+: m') : ∀ {d : D} {v : V}, Rep K H m d v → Rep K H' m' d v
  | _, _, .non => .non
  | _, _, .bl b => .bl b
  | _, _, .int i => .int i
  | _, _, .str x => .str x
  | _, _, .tup s r => .tup (k.sqT s) (Reps.upb k hm r)
  | _, _, .ro s r => .ro (k.roL s) (Reps.upb k hm r)
  | _, _, .ref e => .ref (pre_get hm e)
theorem Reps.upb {K : PySem.W.Frag} {H H' : Hp} {m m' : List Addr} (k : Kb H H') (hm : m <+: m') : ∀ {ds : List D} {vs : List V}, Reps K H m ds vs → Reps K H' m' ds vs
  | _, _, .nil => .nil
  | _, _, .cons r t => .cons (Rep.upb k hm r) (Reps.upb k hm t)
end
theorem Rep.up {K : PySem.W.Frag} {H H' : Hp} {m m' : List Addr} (k : Kp m H m' H') (hm : m <+: m') {d : D} {v : V} (r : Rep K H m d v) : Rep K H' m' d v := r.upb k.b hm
theorem Reps.up {K : PySem.W.Frag} {H H' : Hp} {m m' : List Addr} (k : Kp m H m' H') (hm : m <+: m') {ds : List D} {vs : List V} (r : Reps K H m ds vs) : Reps K H' m' ds vs := r.upb k.b hm
section
variable {K : PySem.W.Frag} {H : Hp} {m : List Addr}
theorem Reps.len : ∀ {ds : List D} {vs : List V}, Reps K H m ds vs → vs.length = ds.length
  | _, _, .nil => rfl
  | _, _, .cons _ t => by rw [List.length_cons, List.length_cons, Reps.len t]
theorem Reps.get : ∀ {ds : List D} {vs : List V} {i : Nat} {d : D}, Reps K H m ds vs → ds[i]? = some d → ∃ v, vs[i]? = some v ∧ Rep K H m d v
  | _, _, _, _, .nil, e => by simp at e
  | _, _, 0, _, .cons r _, e => by simp at e; subst e; exact ⟨_, rfl, r⟩
  | _, _, i + 1, d, .cons _ t, e => by
    obtain ⟨v, h1, h2⟩ := Reps.get (i := i) (d := d) t (by simpa using e)
    exact ⟨v, by simpa using h1, h2⟩
theorem Reps.set {d : D} {v : V} (r : Rep K H m d v) : ∀ {ds : List D} {vs : List V} (i : Nat), Reps K H m ds vs → Reps K H m (ds.set i d) (vs.set i v)
  | _, _, _, .nil => .nil
  | _, _, 0, .cons _ t => .cons r t
  | _, _, i + 1, .cons q t => .cons q (Reps.set r i t)
theorem Reps.app : ∀ {ds es : List D} {vs us : List V}, Reps K H m ds vs → Reps K H m es us → Reps K H m (ds ++ es) (vs ++ us)
  | _, _, _, _, .nil, s => s
  | _, _, _, _, .cons r t, s => .cons r (Reps.app t s)
theorem Reps.take : ∀ {ds : List D} {vs : List V} (n : Nat), Reps K H m ds vs → Reps K H m (ds.take n) (vs.take n)
  | _, _, 0, _ => .nil
  | _, _, _ + 1, .nil => .nil
  | _, _, n + 1, .cons r t => .cons r (Reps.take n t)
theorem Reps.drop : ∀ {ds : List D} {vs : List V} (n : Nat), Reps K H m ds vs → Reps K H m (ds.drop n) (vs.drop n)
  | _, _, 0, r => r
  | _, _, _ + 1, .nil => .nil
  | _, _, n + 1, .cons _ t => Reps.drop n t
theorem Reps.one {d : D} {v : V} (r : Rep K H m d v) : Reps K H m [d] [v] := .cons r .nil
end

/-- how the store's objects lie -/
def RepO (K : PySem.W.Frag) (H : Hp) (m : List Addr) (a : Addr) : O → Prop
  | .lst ds => ∃ vs, H a = some (.lst vs) ∧ Reps K H m ds vs
structure Sim (K : PySem.W.Frag) (H : Hp) (m : List Addr) (st : Sto) : Prop where
  len : m.length = st.length
  nd : m.Nodup
  obj : ∀ (i : Nat) (a : Addr) (o : O), m[i]? = some a → st[i]? = some o → RepO K H m a o
/-- the slots -/
structure SimE (K : PySem.W.Frag) (H : Hp) (m : List Addr) (env : Env) (σ : L2.St) : Prop where
  len : env.length = σ.length
  at_ : ∀ (i : Nat) (d : D), env[i]? = some (some d) → ∃ v, σ[i]? = some (some v) ∧ Rep K H m d v
theorem SimE.up {K : PySem.W.Frag} {H H' : Hp} {m m' : List Addr} {env : Env} {σ : L2.St} (k : Kp m H m' H') (hm : m <+: m') (s : SimE K H m env σ) : SimE K H' m' env σ :=
  ⟨s.len, fun i d e => let ⟨v, h1, h2⟩ := s.at_ i d e; ⟨v, h1, h2.up k hm⟩⟩
theorem SimE.set {K : PySem.W.Frag} {H : Hp} {m : List Addr} {env : Env} {σ : L2.St} (s : SimE K H m env σ) {d : D} {v : V} (r : Rep K H m d v) (i : Nat) : SimE K H m (env.set i (some d)) (σ.set i (some v)) := by
  refine ⟨by simp [s.len], fun j e h => ?_⟩
  by_cases hj : i = j
  · subst hj
    have hl : i < env.length := by
      have := (List.getElem?_eq_some_iff.mp h).1
      simpa using this
    rw [List.getElem?_set_self hl] at h
    cases h
    exact ⟨v, List.getElem?_set_self (by rw [← s.len]; exact hl), r⟩
  · rw [List.getElem?_set_ne hj] at h
    obtain ⟨w, h1, h2⟩ := s.at_ j e h
    exact ⟨w, by rw [List.getElem?_set_ne hj]; exact h1, h2⟩
theorem SimE.unset {K : PySem.W.Frag} {H : Hp} {m : List Addr} {env : Env} {σ : L2.St} (s : SimE K H m env σ) (i : Nat) : SimE K H m (env.set i none) (σ.set i none) := by
  refine ⟨by simp [s.len], fun j e h => ?_⟩
  by_cases hj : i = j
  · subst hj
    have hl : i < env.length := by
      have := (List.getElem?_eq_some_iff.mp h).1
      simpa using this
    rw [List.getElem?_set_self hl] at h
    cases h
  · rw [List.getElem?_set_ne hj] at h
    obtain ⟨w, h1, h2⟩ := s.at_ j e h
    exact ⟨w, by rw [List.getElem?_set_ne hj]; exact h1, h2⟩

section
variable {K : PySem.W.Frag} {H H' : Hp} {m m' : List Addr} {st : Sto}
/-- an address of the store's is tracked as a list -/
theorem Sim.there (s : Sim K H m st) {i : Nat} {a : Addr} (e : m[i]? = some a) : ∃ vs, H a = some (.lst vs) := by
  have hl : i < st.length := by rw [← s.len]; exact (List.getElem?_eq_some_iff.mp e).1
  have h := s.obj i a st[i] e (List.getElem?_eq_getElem hl)
  cases q : st[i] with
  | lst ds => rw [q] at h; obtain ⟨vs, h, _⟩ := h; exact ⟨vs, h⟩
theorem Sim.fresh (s : Sim K H m st) {p : Addr} (h : H p = none) : p ∉ m := fun hp => by
  obtain ⟨i, hi, e⟩ := List.getElem_of_mem hp
  obtain ⟨vs, q⟩ := s.there (i := i) (a := p) (by rw [List.getElem?_eq_getElem hi, e])
  rw [h] at q; cases q
theorem Sim.ref (s : Sim K H m st) {i : Nat} {ds : List D} (h : st[i]? = some (.lst ds)) : ∃ a vs, m[i]? = some a ∧ H a = some (.lst vs) ∧ Reps K H m ds vs := by
  have hl : i < m.length := by rw [s.len]; exact (List.getElem?_eq_some_iff.mp h).1
  obtain ⟨vs, h1, h2⟩ := s.obj i m[i] _ (List.getElem?_eq_getElem hl) h
  exact ⟨m[i], vs, List.getElem?_eq_getElem hl, h1, h2⟩
/-- a new list -/
theorem Sim.new (s : Sim K H m st) {p : Addr} (hp : H p = none) {ds : List D} {vs : List V} (r : Reps K H m ds vs) :
    Sim K (upd H p (.lst vs)) (m ++ [p]) (st ++ [.lst ds]) ∧ m <+: m ++ [p] ∧ Kp m H (m ++ [p]) (upd H p (.lst vs)) ∧ Rep K (upd H p (.lst vs)) (m ++ [p]) (.ref st.length) (.ref p) := by
  have hk : Kp m H (m ++ [p]) (upd H p (.lst vs)) := Kp.mk1 hp
  have hm : m <+: m ++ [p] := List.prefix_append _ _
  refine ⟨⟨by simp [s.len], ?_, fun i a o e1 e2 => ?_⟩, hm, hk, .ref ?_⟩
  · rw [List.nodup_append]
    exact ⟨s.nd, by simp, fun a ha b hb => by
      simp at hb; subst hb
      intro z; subst z; exact s.fresh hp ha⟩
  · by_cases hi : i < m.length
    · rw [List.getElem?_append_left hi] at e1
      rw [List.getElem?_append_left (by rw [← s.len]; exact hi)] at e2
      have q := s.obj i a o e1 e2
      cases o with
      | lst es =>
        obtain ⟨ws, q1, q2⟩ := q
        exact ⟨ws, by rw [upd_ne (ne_of_none q1 hp)]; exact q1, q2.up hk hm⟩
    · have hi' : i = m.length := by
        have := (List.getElem?_eq_some_iff.mp e1).1
        simp at this; omega
      subst hi'
      rw [List.getElem?_append_right (Nat.le_refl _)] at e1
      rw [s.len, List.getElem?_append_right (Nat.le_refl _)] at e2
      simp at e1 e2
      subst e1 e2
      exact ⟨vs, upd_same, r.up hk hm⟩
  · rw [← s.len, List.getElem?_append_right (Nat.le_refl _)]
    simp
/-- a list is written -/
theorem Sim.put (s : Sim K H m st) {i : Nat} {a : Addr} {xs : List V} (e : m[i]? = some a) (ha : H a = some (.lst xs)) {ds : List D} {vs : List V} (r : Reps K H m ds vs) :
    Sim K (upd H a (.lst vs)) m (st.set i (.lst ds)) ∧ Kp m H m (upd H a (.lst vs)) := by
  have hk : Kp m H m (upd H a (.lst vs)) := Kp.put (List.mem_of_getElem? e) ha
  refine ⟨⟨by simp [s.len], s.nd, fun j b o e1 e2 => ?_⟩, hk⟩
  by_cases hj : i = j
  · subst hj
    rw [e] at e1; cases e1
    have hl : i < st.length := by rw [← s.len]; exact (List.getElem?_eq_some_iff.mp e).1
    rw [List.getElem?_set_self hl] at e2; cases e2
    exact ⟨vs, upd_same, r.up hk (List.prefix_refl _)⟩
  · rw [List.getElem?_set_ne hj] at e2
    have q := s.obj j b o e1 e2
    have hb : b ≠ a := fun z => by
      subst z
      obtain ⟨h1, g1⟩ := List.getElem?_eq_some_iff.mp e
      obtain ⟨h2, g2⟩ := List.getElem?_eq_some_iff.mp e1
      exact hj ((List.getElem_inj s.nd).mp (g1.trans g2.symm))
    cases o with
    | lst es =>
      obtain ⟨ws, q1, q2⟩ := q
      exact ⟨ws, by rw [upd_ne hb]; exact q1, q2.up hk (List.prefix_refl _)⟩
/-- a tuple is laid -/
theorem Sim.keep (s : Sim K H m st) {p : Addr} (hp : H p = none) {o : HO} (ho : ∀ xs, o ≠ .lst xs) : Sim K (upd H p o) m st ∧ Kp m H m (upd H p o) := by
  have hk : Kp m H m (upd H p o) := Kp.new hp
  refine ⟨⟨s.len, s.nd, fun i a ob e1 e2 => ?_⟩, hk⟩
  have q := s.obj i a ob e1 e2
  cases ob with
  | lst es =>
    obtain ⟨ws, q1, q2⟩ := q
    exact ⟨ws, by rw [upd_ne (ne_of_none q1 hp)]; exact q1, q2.up hk (List.prefix_refl _)⟩
end

/-! ### the lifting -/
abbrev DE := Env → Sto → R D
abbrev DT := Env → Sto → R Bool
abbrev DA := Env → Sto → R (List D)
inductive Fl where
  | nx (σ : Env) | rt (d : D) | bk (σ : Env) | ct (σ : Env)
abbrev DS := Env → Sto → R Fl
/-- behind: a later state of the simulation -/
def Aft (K : PySem.W.Frag) (H : Hp) (m : List Addr) (st' : Sto) (Q : Hp → List Addr → Prop) : Prop :=
  ∀ H' m', m <+: m' → Kp m H m' H' → Sim K H' m' st' → Q H' m'
def pE (K : PySem.W.Frag) (H : Hp) (m : List Addr) (r : R D) (Q : VK) : Prop := r.post fun d st' => Aft K H m st' fun H' m' => ∀ v, Rep K H' m' d v → Q v H'
def pT (K : PySem.W.Frag) (H : Hp) (m : List Addr) (r : R Bool) (Q : Bool → Hp → Prop) : Prop := r.post fun b st' => Aft K H m st' fun H' _ => Q b H'
def pA (K : PySem.W.Frag) (H : Hp) (m : List Addr) (r : R (List D)) (Q : List V → Hp → Prop) : Prop := r.post fun ds st' => Aft K H m st' fun H' m' => ∀ vs, Reps K H' m' ds vs → Q vs H'
def pS (K : PySem.W.Frag) (H : Hp) (m : List Addr) (r : R Fl) (E : Ends) : Prop := r.post fun f st' => Aft K H m st' fun H' m' => match f with
  | .nx env => ∀ σ, SimE K H' m' env σ → E.nx σ H'
  | .rt d => ∀ v, Rep K H' m' d v → E.rt v H'
  | .bk env => ∀ σ, SimE K H' m' env σ → E.bk σ H'
  | .ct env => ∀ σ, SimE K H' m' env σ → E.ct σ H'
def lE (K : PySem.W.Frag) (f : DE) : TE := fun σ H Q => ∃ m env st, Sim K H m st ∧ SimE K H m env σ ∧ pE K H m (f env st) Q
def lT (K : PySem.W.Frag) (f : DT) : TT := fun σ H Q => ∃ m env st, Sim K H m st ∧ SimE K H m env σ ∧ pT K H m (f env st) Q
def lA (K : PySem.W.Frag) (f : DA) : TA := fun σ H Q => ∃ m env st, Sim K H m st ∧ SimE K H m env σ ∧ pA K H m (f env st) Q
def lS (K : PySem.W.Frag) (f : DS) : TS := fun E σ H => ∃ m env st, Sim K H m st ∧ SimE K H m env σ ∧ pS K H m (f env st) E

theorem pe_w {X : Cx} {e : Expr} {t u : TE} (h : PE X e t) (w : ∀ σ H Q, u σ H Q → t σ H Q) : PE X e u := ⟨fun pins s σ H Q I q => h.run pins s σ H Q I (w _ _ _ q)⟩
theorem pt_w {X : Cx} {e : Expr} {t u : TT} (h : PT X e t) (w : ∀ σ H Q, u σ H Q → t σ H Q) : PT X e u := ⟨fun pins s σ H Q I q => h.run pins s σ H Q I (w _ _ _ q)⟩
theorem pw_w {X : Cx} {e : Expr} {t u : TT} (h : PW X e t) (w : ∀ σ H Q, u σ H Q → t σ H Q) : PW X e u := ⟨fun wh pins s σ H Q I q => h.run wh pins s σ H Q I (w _ _ _ q)⟩
theorem pa_w {X : Cx} {e : List Expr} {t u : TA} (h : PA X e t) (w : ∀ σ H Q, u σ H Q → t σ H Q) : PA X e u := ⟨fun pos pins s σ H Q I q => h.run pos pins s σ H Q I (w _ _ _ q)⟩
theorem ps_w {X : Cx} {e : Stmt} {t u : TS} (h : PS X e t) (w : ∀ D σ H, u D σ H → t D σ H) : PS X e u := ⟨fun pins s σ H D I q => h.run pins s σ H D I (w _ _ _ q)⟩
theorem pss_w {X : Cx} {e : List Stmt} {t u : TS} (h : PSs X e t) (w : ∀ D σ H, u D σ H → t D σ H) : PSs X e u := ⟨fun pins s σ H D I q => h.run pins s σ H D I (w _ _ _ q)⟩

/-! ### sequencing of the lifted -/
section
variable {K : PySem.W.Frag} {H H1 : Hp} {m m1 : List Addr} {st st1 : Sto} {env : Env} {σ : L2.St}
theorem pE_up {r : R D} {Q : VK} (hm : m <+: m1) (hk : Kp m H m1 H1) (h : pE K H m r Q) : pE K H1 m1 r Q :=
  R.post_mono h fun d st' q H' m' a b s => q H' m' (hm.trans a) (hk.trans b) s
theorem pT_up {r : R Bool} {Q : Bool → Hp → Prop} (hm : m <+: m1) (hk : Kp m H m1 H1) (h : pT K H m r Q) : pT K H1 m1 r Q :=
  R.post_mono h fun d st' q H' m' a b s => q H' m' (hm.trans a) (hk.trans b) s
theorem pA_up {r : R (List D)} {Q : List V → Hp → Prop} (hm : m <+: m1) (hk : Kp m H m1 H1) (h : pA K H m r Q) : pA K H1 m1 r Q :=
  R.post_mono h fun d st' q H' m' a b s => q H' m' (hm.trans a) (hk.trans b) s
theorem pS_up {r : R Fl} {E : Ends} (hm : m <+: m1) (hk : Kp m H m1 H1) (h : pS K H m r E) : pS K H1 m1 r E :=
  R.post_mono h fun d st' q H' m' a b s => q H' m' (hm.trans a) (hk.trans b) s
/-- an expression, then what follows with its value -/
theorem lE_then {f : DE} {P : D → Sto → Prop} {Q : VK} (s : Sim K H m st) (e : SimE K H m env σ) (h : (f env st).post P)
    (q : ∀ d st1 H1 m1 v, P d st1 → m <+: m1 → Kp m H m1 H1 → Sim K H1 m1 st1 → SimE K H1 m1 env σ → Rep K H1 m1 d v → Q v H1) : lE K f σ H Q :=
  ⟨m, env, st, s, e, R.post_mono h fun d st1 p H1 m1 hm hk s1 v r => q d st1 H1 m1 v p hm hk s1 (e.up hk hm) r⟩
theorem lT_then {f : DT} {P : Bool → Sto → Prop} {Q : Bool → Hp → Prop} (s : Sim K H m st) (e : SimE K H m env σ) (h : (f env st).post P)
    (q : ∀ d st1 H1 m1, P d st1 → m <+: m1 → Kp m H m1 H1 → Sim K H1 m1 st1 → SimE K H1 m1 env σ → Q d H1) : lT K f σ H Q :=
  ⟨m, env, st, s, e, R.post_mono h fun d st1 p H1 m1 hm hk s1 => q d st1 H1 m1 p hm hk s1 (e.up hk hm)⟩
theorem lA_then {f : DA} {P : List D → Sto → Prop} {Q : List V → Hp → Prop} (s : Sim K H m st) (e : SimE K H m env σ) (h : (f env st).post P)
    (q : ∀ d st1 H1 m1 v, P d st1 → m <+: m1 → Kp m H m1 H1 → Sim K H1 m1 st1 → SimE K H1 m1 env σ → Reps K H1 m1 d v → Q v H1) : lA K f σ H Q :=
  ⟨m, env, st, s, e, R.post_mono h fun d st1 p H1 m1 hm hk s1 v r => q d st1 H1 m1 v p hm hk s1 (e.up hk hm) r⟩
end
end DL

namespace DL
open PySem PySem.Spec PyProof.Rows L2

/-! ### names, constants -/
def eVar (i : Nat) : DE := fun env st => match env[i]? with
  | some (some d) => .ok d st
  | _ => .bad
def eC (d : D) : DE := fun _ st => .ok d st
section
variable {X : Cx}
theorem xe_var {i : Nat} {e : Expr} (h : PE X e (tVar i)) : PE X e (lE X.K (eVar i)) := pe_w h fun σ H Q ⟨m, env, st, s, se, q⟩ => by
  unfold eVar at q
  cases h1 : env[i]? with
  | none => rw [h1] at q; exact False.elim q
  | some o =>
    cases o with
    | none => rw [h1] at q; exact False.elim q
    | some d =>
      rw [h1] at q
      obtain ⟨v, e1, r⟩ := se.at_ i d h1
      exact ⟨v, e1, q H m (List.prefix_refl _) (Kp.refl _) s v r⟩
/-- the name in slot i -/
theorem xv (i : Nat) {x : Str} {pos : Pos} (hN : X.N[i]? = some x := by rfl) (hv : Vis X.env.scope x := by first | exact Or.inl rfl | exact Or.inr (Or.inl rfl) | exact Or.inr (Or.inr rfl)) (hd : (x == ("__debug__" : Str)) = false := by decide)
    (hcd : (x == ("__classdict__" : Str)) = false := by decide) : PE X (.Name x pos) (lE X.K (eVar i)) := xe_var (pe_var hN hv hd hcd)
theorem xe_c {e : Expr} {d : D} {v : V} (h : PE X e (tC v)) (r : ∀ H m, Rep X.K H m d v) : PE X e (lE X.K (eC d)) := pe_w h fun σ H Q ⟨m, env, st, s, se, q⟩ =>
  q H m (List.prefix_refl _) (Kp.refl _) s v (r H m)
theorem x_int {i j pos} : PE X (.Constant (.int i) j pos) (lE X.K (eC (.int i))) := xe_c pe_int fun _ _ => .int i
theorem x_bl {i j pos} : PE X (.Constant (.bool i) j pos) (lE X.K (eC (.bl i))) := xe_c pe_bl fun _ _ => .bl i
theorem x_non {j pos} : PE X (.Constant .none j pos) (lE X.K (eC .non)) := xe_c pe_non fun _ _ => .non
theorem x_str {i j pos} : PE X (.Constant (.str i) j pos) (lE X.K (eC (.str i))) := xe_c pe_str fun _ _ => .str i
/-- a constant of the module -/
theorem x_glob {x : Str} {v : V} {u : Value} {d : D} {pos : Pos} (hg : Gl X x) (hm : X.mg x = some u) (rv : RelV v u) (r : ∀ H m, Rep X.K H m d v) (hd : (x == ("__debug__" : Str)) = false := by decide) : PE X (.Name x pos) (lE X.K (eC d)) :=
  xe_c (pe_glob hg hm rv hd) r
end

/-! ### two-place operations -/
abbrev DOp := D → D → Sto → R D
def eBin (r : DOp) (fa fb : DE) : DE := fun env st => (fa env st).bind fun x st1 => (fb env st1).bind fun y st2 => r x y st2
def lOp (K : PySem.W.Frag) (r : DOp) : R2 := fun x y H Q => ∃ m dx dy st, Sim K H m st ∧ Rep K H m dx x ∧ Rep K H m dy y ∧ pE K H m (r dx dy st) Q
section
variable {X : Cx} {a b : Expr} {fa fb : DE} {pos : Pos} {r : DOp}
/-- two lifted expressions in a row -/
theorem l_bin {K : PySem.W.Frag} {σ : L2.St} {H : Hp} {Q : VK} {r : DOp} (h : lE K (eBin r fa fb) σ H Q) : tOp (lOp K r) (lE K fa) (lE K fb) σ H Q := by
  obtain ⟨m, env, st, s, se, q⟩ := h
  unfold pE eBin at q
  rw [R.post_bind] at q
  refine lE_then s se q fun d st1 H1 m1 v p hm hk s1 se1 rv => ?_
  rw [R.post_bind] at p
  refine lE_then s1 se1 p fun d2 st2 H2 m2 v2 p2 hm2 hk2 s2 se2 rv2 => ?_
  exact ⟨m2, d, d2, st2, s2, rv.up hk2 hm2, rv2, pE_up (hm.trans hm2) (hk.trans hk2) p2⟩
theorem x_op {op : Operator} (ho : OpR X (binaryOp op) (lOp X.K r)) (ha : PE X a (lE X.K fa)) (hb : PE X b (lE X.K fb)) : PE X (.BinOp a op b pos) (lE X.K (eBin r fa fb)) :=
  pe_w (pe_op ho ha hb) fun _ _ _ h => l_bin h
theorem x_cmp {op : CmpOp} (ho : OpR X (compareOp op) (lOp X.K r)) (ha : PE X a (lE X.K fa)) (hb : PE X b (lE X.K fb)) (hm : behindInMarks op b = false := by first | exact nomark _ | rfl) : PE X (.Compare a [op] [b] pos) (lE X.K (eBin r fa fb)) :=
  pe_w (pe_cmpR ho ha hb hm) fun _ _ _ h => l_bin h
/-- a bool's expression as a test -/
def tOf (f : DE) : DT := fun env st => (f env st).bind fun d st1 => match d with
  | .bl b => .ok b st1
  | _ => .bad
theorem l_tof {K : PySem.W.Frag} {f : DE} {σ : L2.St} {H : Hp} {Q : Bool → Hp → Prop} (h : lT K (tOf f) σ H Q) : lE K f σ H fun x H' => ∃ k, x = .bl k ∧ Q k H' := by
  obtain ⟨m, env, st, s, se, q⟩ := h
  unfold pT tOf at q
  rw [R.post_bind] at q
  refine lE_then s se q fun d st1 H1 m1 v p hm hk s1 se1 rv => ?_
  cases d with
  | bl b =>
    cases rv
    exact ⟨b, rfl, p H1 m1 hm hk s1⟩
  | _ => exact False.elim p
theorem y_cmp {op : CmpOp} (ho : OpR X (compareOp op) (lOp X.K r)) (ha : PE X a (lE X.K fa)) (hb : PE X b (lE X.K fb)) (hm : behindInMarks op b = false := by first | exact nomark _ | rfl) : PT X (.Compare a [op] [b] pos) (lT X.K (tOf (eBin r fa fb))) :=
  pt_w (pt_cmpR ho ha hb hm) fun σ H Q h => by
    have h' := l_tof h
    obtain ⟨m, env, st, s, se, q⟩ := h'
    exact l_bin ⟨m, env, st, s, se, q⟩
/-- a < b < c -/
def eChain (r r' : DOp) (fa fb fc : DE) : DE := fun env st => (fa env st).bind fun x st1 => (fb env st1).bind fun y st2 => (r x y st2).bind fun z st3 => match z with
  | .bl true => (fc env st3).bind fun w st4 => r' y w st4
  | .bl false => .ok (.bl false) st3
  | _ => .bad
theorem l_chain {K : PySem.W.Frag} {σ : L2.St} {H : Hp} {Q : VK} {r r' : DOp} {fc : DE} (h : lE K (eChain r r' fa fb fc) σ H Q) : tChain (lOp K r) (lOp K r') (lE K fa) (lE K fb) (lE K fc) σ H Q := by
  obtain ⟨m, env, st, s, se, q⟩ := h
  unfold pE eChain at q
  rw [R.post_bind] at q
  refine lE_then s se q fun d st1 H1 m1 v p hm hk s1 se1 rv => ?_
  rw [R.post_bind] at p
  refine lE_then s1 se1 p fun d2 st2 H2 m2 v2 p2 hm2 hk2 s2 se2 rv2 => ?_
  rw [R.post_bind] at p2
  refine ⟨m2, d, d2, st2, s2, rv.up hk2 hm2, rv2, R.post_mono p2 fun z st3 q3 H3 m3 hm3 hk3 s3 zv rz => ?_⟩
  cases z with
  | bl k =>
    cases rz
    refine ⟨k, rfl, ?_⟩
    cases k with
    | true =>
      rw [if_pos rfl]
      rw [R.post_bind] at q3
      refine lE_then s3 (se2.up hk3 hm3) q3 fun d4 st4 H4 m4 v4 p4 hm4 hk4 s4 se4 rv4 => ?_
      exact ⟨m4, d2, d4, st4, s4, (rv2.up hk3 hm3).up hk4 hm4, rv4, pE_up (((hm.trans hm2).trans hm3).trans hm4) (((hk.trans hk2).trans hk3).trans hk4) p4⟩
    | false =>
      rw [if_neg Bool.false_ne_true]
      exact q3 H3 m3 ((hm.trans hm2).trans hm3) ((hk.trans hk2).trans hk3) s3 _ (.bl false)
  | _ => exact False.elim q3
theorem x_chain {op op' : CmpOp} {c : Expr} {fc : DE} {r' : DOp} (ho : OpR X (compareOp op) (lOp X.K r)) (ho' : OpR X (compareOp op') (lOp X.K r')) (ha : PE X a (lE X.K fa)) (hb : PE X b (lE X.K fb)) (hc : PE X c (lE X.K fc)) (hm : lastMarks [op, op'] [b, c] = false := by rfl) :
    PE X (.Compare a [op, op'] [b, c] pos) (lE X.K (eChain r r' fa fb fc)) := pe_w (pe_chain ho ho' ha hb hc hm) fun _ _ _ h => l_chain h
theorem y_chain {op op' : CmpOp} {c : Expr} {fc : DE} {r' : DOp} (ho : OpR X (compareOp op) (lOp X.K r)) (ho' : OpR X (compareOp op') (lOp X.K r')) (ha : PE X a (lE X.K fa)) (hb : PE X b (lE X.K fb)) (hc : PE X c (lE X.K fc)) (hm : lastMarks [op, op'] [b, c] = false := by rfl) :
    PT X (.Compare a [op, op'] [b, c] pos) (lT X.K (tOf (eChain r r' fa fb fc))) := pt_w (pt_chain ho ho' ha hb hc hm) fun σ H Q h => by
    have h' := l_tof h
    obtain ⟨m, env, st, s, se, q⟩ := h'
    exact l_chain ⟨m, env, st, s, se, q⟩

/-! ### tests -/
/-- truth -/
def dTruth (d : D) (st : Sto) : R Bool := match d with
  | .non => .ok false st
  | .bl b => .ok b st
  | .int i => .ok (i != 0) st
  | .str x => if x.length ≤ sizeLine then .ok ((x.length : Int) != 0) st else .bad
  | .tup xs => .ok (!xs.isEmpty) st
  | .ro xs => .ok (!xs.isEmpty) st
  | .ref i => match st[i]? with
    | some (.lst xs) => .ok (!xs.isEmpty) st
    | none => .bad
def tTruth (f : DE) : DT := fun env st => (f env st).bind dTruth
theorem Reps.emp {K : PySem.W.Frag} {H : Hp} {m : List Addr} {ds : List D} {vs : List V} (r : Reps K H m ds vs) : vs.isEmpty = ds.isEmpty := by cases r <;> rfl
theorem tru_d {K : PySem.W.Frag} {H : Hp} {m : List Addr} {d : D} {v : V} {st : Sto} {P : Bool → Sto → Prop} (s : Sim K H m st) (r : Rep K H m d v) (h : (dTruth d st).post P) : ∃ k, TruV K v H k ∧ P k st := by
  cases r with
  | non => exact ⟨_, rfl, h⟩
  | bl b => exact ⟨_, rfl, h⟩
  | int i => exact ⟨_, rfl, h⟩
  | str x =>
    simp only [dTruth] at h
    split at h
    · rename_i hx; exact ⟨_, ⟨hx, rfl⟩, h⟩
    · exact False.elim h
  | tup sq r => exact ⟨_, .inr (.inl ⟨_, sq, rfl⟩), by rw [r.emp]; exact h⟩
  | ro sq r => exact ⟨_, .inl ⟨_, sq.sq, rfl⟩, by rw [r.emp]; exact h⟩
  | @ref a i e =>
    simp only [dTruth] at h
    split at h
    · rename_i _ xs hx
      obtain ⟨a', vs, e', ha, rr⟩ := s.ref hx
      rw [e] at e'; cases e'
      exact ⟨_, .inl ⟨_, .inl (.inl ha), rfl⟩, by rw [rr.emp]; exact h⟩
    · exact False.elim h
theorem y_val {e : Expr} {f : DE} (h : PE X e (lE X.K f)) (he : ∀ whole, isTrue e X.env whole = (do let v ← whole; standAt e.pos; holding [v] (truthy v)) := by intro _; rfl) : PT X e (lT X.K (tTruth f)) :=
  pt_w (pt_truth h he) fun σ H Q hq => by
    obtain ⟨m, env, st, s, se, q⟩ := hq
    unfold pT tTruth at q
    rw [R.post_bind] at q
    refine lE_then s se q fun d st1 H1 m1 v p hm hk s1 se1 rv => ?_
    obtain ⟨k, h1, h2⟩ := tru_d s1 rv p
    exact ⟨k, h1, h2 H1 m1 hm hk s1⟩
def tNot (f : DT) : DT := fun env st => (f env st).bind fun b st1 => .ok (!b) st1
def tAnd (f g : DT) : DT := fun env st => (f env st).bind fun b st1 => if b = true then g env st1 else .ok false st1
def tOr (f g : DT) : DT := fun env st => (f env st).bind fun b st1 => if b = true then .ok true st1 else g env st1
variable {rest : List Expr} {ga gb : DT}
theorem y_not (h : PT X a (lT X.K ga)) : PT X (.UnaryOp .Not a pos) (lT X.K (tNot ga)) := pt_w (pt_not h) fun σ H Q ⟨m, env, st, s, se, q⟩ => by
  unfold pT tNot at q
  rw [R.post_bind] at q
  exact lT_then s se q fun d st1 H1 m1 p hm hk s1 se1 => p H1 m1 hm hk s1
theorem w_and1 (h : PT X a (lT X.K ga)) : PW X (.BoolOp .And [a] pos) (lT X.K ga) := pw_and1 h
theorem w_or1 (h : PT X a (lT X.K ga)) : PW X (.BoolOp .Or [a] pos) (lT X.K ga) := pw_or1 h
theorem w_and (h : PT X a (lT X.K ga)) (h2 : PW X (.BoolOp .And (b :: rest) pos) (lT X.K gb)) : PW X (.BoolOp .And (a :: b :: rest) pos) (lT X.K (tAnd ga gb)) := pw_w (pw_and h h2) fun σ H Q ⟨m, env, st, s, se, q⟩ => by
  unfold pT tAnd at q
  rw [R.post_bind] at q
  refine lT_then s se q fun d st1 H1 m1 p hm hk s1 se1 => ?_
  cases d with
  | true => rw [if_pos rfl] at p ⊢; exact ⟨m1, env, st1, s1, se1, pT_up hm hk p⟩
  | false => rw [if_neg Bool.false_ne_true] at p ⊢; exact p H1 m1 hm hk s1
theorem w_or (h : PT X a (lT X.K ga)) (h2 : PW X (.BoolOp .Or (b :: rest) pos) (lT X.K gb)) : PW X (.BoolOp .Or (a :: b :: rest) pos) (lT X.K (tOr ga gb)) := pw_w (pw_or h h2) fun σ H Q ⟨m, env, st, s, se, q⟩ => by
  unfold pT tOr at q
  rw [R.post_bind] at q
  refine lT_then s se q fun d st1 H1 m1 p hm hk s1 se1 => ?_
  cases d with
  | true => rw [if_pos rfl] at p ⊢; exact p H1 m1 hm hk s1
  | false => rw [if_neg Bool.false_ne_true] at p ⊢; exact ⟨m1, env, st1, s1, se1, pT_up hm hk p⟩
/-- and, or, not as values: bools but for the last -/
def eAnd (f g : DE) : DE := fun env st => (f env st).bind fun d st1 => match d with
  | .bl true => g env st1
  | .bl false => .ok (.bl false) st1
  | _ => .bad
def eOr (f g : DE) : DE := fun env st => (f env st).bind fun d st1 => match d with
  | .bl false => g env st1
  | .bl true => .ok (.bl true) st1
  | _ => .bad
def eNot (f : DE) : DE := fun env st => (f env st).bind fun d st1 => match d with
  | .bl b => .ok (.bl (!b)) st1
  | _ => .bad
theorem x_one {op} (h : PE X a (lE X.K fa)) : PE X (.BoolOp op [a] pos) (lE X.K fa) := pe_one h
theorem x_and (h : PE X a (lE X.K fa)) (h2 : PE X (.BoolOp .And (b :: rest) pos) (lE X.K fb)) : PE X (.BoolOp .And (a :: b :: rest) pos) (lE X.K (eAnd fa fb)) := pe_w (pe_and h h2) fun σ H Q ⟨m, env, st, s, se, q⟩ => by
  unfold pE eAnd at q
  rw [R.post_bind] at q
  refine lE_then s se q fun d st1 H1 m1 v p hm hk s1 se1 rv => ?_
  cases d with
  | bl k =>
    cases rv
    refine ⟨k, rfl, ?_⟩
    cases k with
    | true => rw [if_pos rfl]; exact ⟨m1, env, st1, s1, se1, pE_up hm hk p⟩
    | false => rw [if_neg Bool.false_ne_true]; exact p H1 m1 hm hk s1 _ (.bl false)
  | _ => exact False.elim p
theorem x_or (h : PE X a (lE X.K fa)) (h2 : PE X (.BoolOp .Or (b :: rest) pos) (lE X.K fb)) : PE X (.BoolOp .Or (a :: b :: rest) pos) (lE X.K (eOr fa fb)) := pe_w (pe_or h h2) fun σ H Q ⟨m, env, st, s, se, q⟩ => by
  unfold pE eOr at q
  rw [R.post_bind] at q
  refine lE_then s se q fun d st1 H1 m1 v p hm hk s1 se1 rv => ?_
  cases d with
  | bl k =>
    cases rv
    refine ⟨k, rfl, ?_⟩
    cases k with
    | true => rw [if_pos rfl]; exact p H1 m1 hm hk s1 _ (.bl true)
    | false => rw [if_neg Bool.false_ne_true]; exact ⟨m1, env, st1, s1, se1, pE_up hm hk p⟩
  | _ => exact False.elim p
theorem x_not (h : PE X a (lE X.K fa)) : PE X (.UnaryOp .Not a pos) (lE X.K (eNot fa)) := pe_w (pe_not h) fun σ H Q ⟨m, env, st, s, se, q⟩ => by
  unfold pE eNot at q
  rw [R.post_bind] at q
  refine lE_then s se q fun d st1 H1 m1 v p hm hk s1 se1 rv => ?_
  cases d with
  | bl k =>
    cases rv
    exact ⟨k, rfl, p H1 m1 hm hk s1 _ (.bl _)⟩
  | _ => exact False.elim p
def eIf (t : DT) (f g : DE) : DE := fun env st => (t env st).bind fun b st1 => if b = true then f env st1 else g env st1
theorem x_if {c : Expr} {gc : DT} (hc : PT X c (lT X.K gc)) (ha : PE X a (lE X.K fa)) (hb : PE X b (lE X.K fb)) : PE X (.IfExp c a b pos) (lE X.K (eIf gc fa fb)) := pe_w (pe_ifExp hc ha hb) fun σ H Q ⟨m, env, st, s, se, q⟩ => by
  unfold pE eIf at q
  rw [R.post_bind] at q
  refine lT_then s se q fun d st1 H1 m1 p hm hk s1 se1 => ?_
  cases d with
  | true => rw [if_pos rfl] at p ⊢; exact ⟨m1, env, st1, s1, se1, pE_up hm hk p⟩
  | false => rw [if_neg Bool.false_ne_true] at p ⊢; exact ⟨m1, env, st1, s1, se1, pE_up hm hk p⟩

/-! ### one-place -/
def eUn (r : D → Sto → R D) (f : DE) : DE := fun env st => (f env st).bind r
def lUn (K : PySem.W.Frag) (r : D → Sto → R D) : V → Hp → VK → Prop := fun x H Q => ∃ m dx st, Sim K H m st ∧ Rep K H m dx x ∧ pE K H m (r dx st) Q
theorem l_un {K : PySem.W.Frag} {σ : L2.St} {H : Hp} {Q : VK} {r : D → Sto → R D} (h : lE K (eUn r fa) σ H Q) : tUn (lUn K r) (lE K fa) σ H Q := by
  obtain ⟨m, env, st, s, se, q⟩ := h
  unfold pE eUn at q
  rw [R.post_bind] at q
  exact lE_then s se q fun d st1 H1 m1 v p hm hk s1 se1 rv => ⟨m1, d, st1, s1, rv, pE_up hm hk p⟩
theorem x_un {op : UnaryOp} {r : D → Sto → R D} (ho : UnR X (unaryOp op) (lUn X.K r)) (ha : PE X a (lE X.K fa)) : PE X (.UnaryOp op a pos) (lE X.K (eUn r fa)) := pe_w (pe_un ho ha) fun _ _ _ h => l_un h

/-! ### argument lists, displays -/
def aNil : DA := fun _ st => .ok [] st
def aCons (f : DE) (g : DA) : DA := fun env st => (f env st).bind fun d st1 => (g env st1).bind fun ds st2 => .ok (d :: ds) st2
variable {e : Expr} {es : List Expr} {fe : DE} {fs : DA}
theorem a_nil : PA X [] (lA X.K aNil) := pa_w pa_nil fun σ H Q ⟨m, env, st, s, se, q⟩ => q H m (List.prefix_refl _) (Kp.refl _) s _ .nil
theorem a_cons (h : PE X e (lE X.K fe)) (h2 : PA X es (lA X.K fs)) (hs : starEach (e :: es) X.env = (false, eval e X.env) :: starEach es X.env := by rfl) : PA X (e :: es) (lA X.K (aCons fe fs)) := pa_w (pa_cons h h2 hs) fun σ H Q ⟨m, env, st, s, se, q⟩ => by
  unfold pA aCons at q
  rw [R.post_bind] at q
  refine lE_then s se q fun d st1 H1 m1 v p hm hk s1 se1 rv => ?_
  rw [R.post_bind] at p
  exact lA_then s1 se1 p fun ds st2 H2 m2 vs p2 hm2 hk2 s2 se2 rvs => p2 H2 m2 (hm.trans hm2) (hk.trans hk2) s2 _ (.cons (rv.up hk2 hm2) rvs)
def eTup (g : DA) : DE := fun env st => (g env st).bind fun ds st1 => if ds.length ≤ sizeLine then .ok (.tup ds) st1 else .bad
def eLst (g : DA) : DE := fun env st => (g env st).bind fun ds st1 => if ds.length ≤ sizeLine then .ok (.ref st1.length) (st1 ++ [.lst ds]) else .bad
theorem x_tup {x1} (h : PA X es (lA X.K fs)) : PE X (.Tuple es x1 pos) (lE X.K (eTup fs)) := pe_w (pe_tup h) fun σ H Q ⟨m, env, st, s, se, q⟩ => by
  unfold pE eTup at q
  rw [R.post_bind] at q
  refine lA_then s se q fun ds st1 H1 m1 vs p hm hk s1 se1 rvs => ?_
  split at p
  · rename_i hl
    refine ⟨by rw [rvs.len]; exact hl, fun a ha => ?_⟩
    obtain ⟨s2, k2⟩ := s1.keep (o := .tup vs) ha (fun _ z => by cases z)
    exact p _ m1 hm (hk.trans k2) s2 _ (.tup (.inl (.inl upd_same)) (rvs.up k2 (List.prefix_refl _)))
  · exact False.elim p
theorem x_lst (h : PA X es (lA X.K fs)) : PE X (.List es pos) (lE X.K (eLst fs)) := pe_w (pe_lst h) fun σ H Q ⟨m, env, st, s, se, q⟩ => by
  unfold pE eLst at q
  rw [R.post_bind] at q
  refine lA_then s se q fun ds st1 H1 m1 vs p hm hk s1 se1 rvs => ?_
  split at p
  · rename_i hl
    refine ⟨by rw [rvs.len]; exact hl, fun a ha => ?_⟩
    obtain ⟨s2, m2, k2, r2⟩ := s1.new ha rvs
    exact p _ _ (hm.trans m2) (hk.trans k2) s2 _ r2
  · exact False.elim p

/-! ### subscripts, slices -/
theorem x_ix {r : DOp} (hr : IxR X (lOp X.K r)) (ha : PE X a (lE X.K fa)) (hb : PE X b (lE X.K fb)) (hs : PlainIx b := by intro _ _; rfl) : PE X (.Subscript a b pos) (lE X.K (eBin r fa fb)) :=
  pe_w (pe_ix hr ha hb hs) fun _ _ _ h => l_bin h
abbrev DO := Env → Sto → R (Option Int)
def oNone : DO := fun _ st => .ok none st
def oSome (f : DE) : DO := fun env st => (f env st).bind fun d st1 => match d with
  | .int i => .ok (some i) st1
  | _ => .bad
def lO (K : PySem.W.Frag) (f : DO) : TO := fun σ H Q => ∃ m env st, Sim K H m st ∧ SimE K H m env σ ∧ (f env st).post fun o st' => Aft K H m st' fun H' _ => Q o H'
theorem po_w {X : Cx} {e : Option Expr} {t u : TO} (h : PO X e t) (w : ∀ σ H Q, u σ H Q → t σ H Q) : PO X e u := ⟨fun pins s σ H Q I q => h.run pins s σ H Q I (w _ _ _ q)⟩
theorem o_none : PO X none (lO X.K oNone) := po_w po_none fun σ H Q ⟨m, env, st, s, se, q⟩ => q H m (List.prefix_refl _) (Kp.refl _) s
theorem o_some (h : PE X e (lE X.K fe)) : PO X (some e) (lO X.K (oSome fe)) := po_w (po_some h) fun σ H Q ⟨m, env, st, s, se, q⟩ => by
  unfold oSome at q
  rw [R.post_bind] at q
  refine lE_then s se q fun d st1 H1 m1 v p hm hk s1 se1 rv => ?_
  cases d with
  | int i => cases rv; exact ⟨i, rfl, p H1 m1 hm hk s1⟩
  | _ => exact False.elim p
/-- a[lo:hi] -/
abbrev DSl := D → Option Int → Option Int → Sto → R D
def eSl (r : DSl) (f : DE) (g h : DO) : DE := fun env st => (f env st).bind fun x st1 => (g env st1).bind fun lo st2 => (h env st2).bind fun hi st3 => r x lo hi st3
def lSl (K : PySem.W.Frag) (r : DSl) : V → Option Int → Option Int → Hp → VK → Prop := fun x lo hi H Q => ∃ m dx st, Sim K H m st ∧ Rep K H m dx x ∧ pE K H m (r dx lo hi st) Q
theorem x_sl {r : DSl} {lo hi : Option Expr} {flo fhi : DO} {p2 : Pos} (hr : SlR X (lSl X.K r)) (h : PE X e (lE X.K fe)) (hl : PO X lo (lO X.K flo)) (hh : PO X hi (lO X.K fhi)) : PE X (.Subscript e (.Slice lo hi none p2) pos) (lE X.K (eSl r fe flo fhi)) :=
  pe_w (pe_slice hr h hl hh) fun σ H Q ⟨m, env, st, s, se, q⟩ => by
    unfold pE eSl at q
    rw [R.post_bind] at q
    refine lE_then s se q fun d st1 H1 m1 v p hm hk s1 se1 rv => ?_
    rw [R.post_bind] at p
    refine ⟨m1, env, st1, s1, se1, R.post_mono p fun o1 st2 p2 H2 m2 hm2 hk2 s2 => ?_⟩
    rw [R.post_bind] at p2
    refine ⟨m2, env, st2, s2, se1.up hk2 hm2, R.post_mono p2 fun o2 st3 p3 H3 m3 hm3 hk3 s3 => ?_⟩
    exact ⟨m3, d, st3, s3, (rv.up hk2 hm2).up hk3 hm3, pE_up ((hm.trans hm2).trans hm3) ((hk.trans hk2).trans hk3) p3⟩

/-! ### calls -/
abbrev DF := List D → Sto → R D
def eCB (r : DF) (g : DA) : DE := fun env st => (g env st).bind r
def lCB (K : PySem.W.Frag) (r : DF) : List V → Hp → VK → Prop := fun xs H Q => ∃ m ds st, Sim K H m st ∧ Reps K H m ds xs ∧ pE K H m (r ds st) Q
theorem l_cb {K : PySem.W.Frag} {σ : L2.St} {H : Hp} {Q : VK} {r : DF} (h : lE K (eCB r fs) σ H Q) : tCB (lCB K r) (lA K fs) σ H Q := by
  obtain ⟨m, env, st, s, se, q⟩ := h
  unfold pE eCB at q
  rw [R.post_bind] at q
  exact lA_then s se q fun ds st1 H1 m1 vs p hm hk s1 se1 rvs => ⟨m1, ds, st1, s1, rvs, pE_up hm hk p⟩
theorem x_callB {r : DF} {id : String} {x : Str} {p : Pos} (hc : CallR X (.builtin id) (lCB X.K r)) (hg : Gl X x) (hm : X.mg x = none) (hv : bootBuiltins x = some (.builtin id)) (ha : PA X (e :: es) (lA X.K fs)) (hn : x ≠ "__name__" := by decide) (hdb : (x == ("__debug__" : Str)) = false := by decide)
    (he : starEach (e :: es) X.env = (false, eval e X.env) :: starEach es X.env := by rfl) (hpl : (backTo pos (starEach es X.env)).any (·.1) = false := by rfl) : PE X (.Call (.Name x p) (e :: es) [] pos) (lE X.K (eCB r fs)) :=
  pe_w (pe_callB hc hg hm hv ha hn hdb he hpl) fun _ _ _ h => l_cb h
theorem x_callTy {r : DF} {T : String} {x : Str} {p : Pos} (hc : CallR X (.type T) (lCB X.K r)) (hg : Gl X x) (hm : X.mg x = none) (hv : bootBuiltins x = some (.type T)) (ha : PA X (e :: es) (lA X.K fs)) (hn : x ≠ "__name__" := by decide) (hdb : (x == ("__debug__" : Str)) = false := by decide)
    (he : starEach (e :: es) X.env = (false, eval e X.env) :: starEach es X.env := by rfl) (hpl : (backTo pos (starEach es X.env)).any (·.1) = false := by rfl) : PE X (.Call (.Name x p) (e :: es) [] pos) (lE X.K (eCB r fs)) :=
  pe_w (pe_callTy hc hg hm hv ha hn hdb he hpl) fun _ _ _ h => l_cb h
/-- room, and no text of an object is being made around -/
structure RoomG (k : Nat) (A : Around) : Prop where
  room : Room k A
  gd : A.guards = some []
theorem RoomG.un {k : Nat} {A : Around} (r : RoomG k A) : A.units + 16 * k + 200 < cLine := r.room.un
theorem RoomG.mono {j k : Nat} {A : Around} (r : RoomG k A) (h : j ≤ k) : RoomG j A := ⟨r.room.mono h, r.gd⟩
/-- a def that keeps a promise where there is such room; no exception leaves it -/
structure FnG (P : Program) (w : World) (K : PySem.W.Frag) (mg : Str → Option Value) (base : Heap) (k : Nat) (f : Addr) (fd : FuncData) (ps : List Str) (sp : Sp) : Prop where
  wide : ∀ vs H Q E, sp vs H Q E → vs.length = ps.length
  does : ∀ (A : Around) (outer : List PySem.Env) (s : Shared) (H : Hp) (args : Args) (us : List Value) (vs : List V) (Q : VK), RoomG k A → Env0 P w K mg base A outer s H → BindsTo s fd args (ps.zip us) → Vals vs us → sp vs H Q E0 →
    codeAny (model P w) A (.call (.ref f) args) (CR CX0 outer P w H s Q E0) s
/-- a def's promise -/
def spD (K : PySem.W.Frag) (n : Nat) (f : DF) : Sp := fun vs H Q _ => vs.length = n ∧ ∃ m ds st, Sim K H m st ∧ Reps K H m ds vs ∧ pE K H m (f ds st) Q
/-- a def that keeps it -/
abbrev FnD (P : Program) (w : World) (K : PySem.W.Frag) (mg : Str → Option Value) (base : Heap) (k : Nat) (f : Addr) (fd : FuncData) (ps : List Str) (F : DF) : Prop := FnG P w K mg base k f fd ps (spD K ps.length F)
/-- the callee -/
theorem run_g {k : Nat} {f : Addr} {fd : FuncData} {ps : List Str} {sp : Sp} {pins : List (Addr × Obj)} {σ : L2.St} {H : Hp} {s : Shared} {Q : VK} {us : List Value} {vs : List V} (F : FnG X.prog X.w X.K X.mg X.base k f fd ps sp) (hr : RoomG k X.A) (hb : Binds X.K fd ps [])
    (I : L2.Inv X pins σ H s) (r : Vals vs us) (h : sp vs H Q E0) : wpAny (model X.prog X.w) X.A (call (.ref f) us) (EP X pins σ Q) X.xe s := by
  have wide : (us ++ []).length = ps.length := by
    rw [List.append_nil, ← r.length]
    exact F.wide _ _ _ _ h
  have bind := hb s us I.kIn wide
  rw [List.append_nil] at bind
  refine wpAny_call (codeAny_mono (F.does X.A X.stack s H _ us vs Q hr I.env0 bind r h) fun res s2 q => ?_)
  cases res with
  | error e => exact False.elim q
  | ok fl =>
    cases fl <;> first
      | exact I.after q
      | exact False.elim q
/-- a call of an own def -/
def eCall (n : Nat) (r : DF) (g : DA) : DE := fun env st => (g env st).bind fun ds st1 => if ds.length = n then r ds st1 else .bad
theorem x_call {r : DF} {k : Nat} {f : Addr} {fd : FuncData} {ps : List Str} {x : Str} {p : Pos} (F : FnD X.prog X.w X.K X.mg X.base k f fd ps r) (hr : RoomG k X.A) (hg : Gl X x) (hm : X.mg x = some (.ref f)) (hk : PySem.W.keepIn X.K (.ref f) = true) (hb : Binds X.K fd ps [])
    (ha : PA X (e :: es) (lA X.K fs)) {n : Nat} (hn : ps.length = n := by rfl) (hdb : (x == ("__debug__" : Str)) = false := by decide) (he : starEach (e :: es) X.env = (false, eval e X.env) :: starEach es X.env := by rfl) (hpl : (backTo pos (starEach es X.env)).any (·.1) = false := by rfl) :
    PE X (.Call (.Name x p) (e :: es) [] pos) (lE X.K (eCall n r fs)) := by
  subst hn
  refine ⟨fun pins s σ H Q I ⟨m, env, st, sm, se, q⟩ => ?_⟩
  unfold pE eCall at q
  rw [R.post_bind] at q
  have args : lA X.K fs σ H fun vs H1 => spD X.K ps.length r vs H1 Q E0 := lA_then sm se q fun ds st1 H1 m1 vs p hm hk s1 se1 rvs => by
    split at p
    · rename_i hl
      exact ⟨by rw [rvs.len]; exact hl, m1, ds, st1, s1, rvs, pE_up hm hk p⟩
    · exact False.elim p
  refine wpAny_Call_Name_kw (ld_glob I hg hm (PySem.W.callWith_K (h₀ := X.base) I.ok.mod.kin hk ?_ he hpl) hdb)
  exact thn (ha.run pos pins s σ H _ I args) fun us s1 ⟨vs, H1, I1, rv, q1⟩ => ⟨I1.kIn, run_g F hr hb I1 rv q1⟩
theorem x_call0 {r : DF} {k : Nat} {f : Addr} {fd : FuncData} {x : Str} {p : Pos} (F : FnD X.prog X.w X.K X.mg X.base k f fd [] r) (hr : RoomG k X.A) (hg : Gl X x) (hm : X.mg x = some (.ref f)) (hk : PySem.W.keepIn X.K (.ref f) = true) (hb : Binds X.K fd [] [])
    (hdb : (x == ("__debug__" : Str)) = false := by decide) : PE X (.Call (.Name x p) [] [] pos) (lE X.K (eCall 0 r aNil)) := by
  refine ⟨fun pins s σ H Q I ⟨m, env, st, sm, se, q⟩ => ?_⟩
  exact wpAny_Call_Name_kw (ld_glob I hg hm (PySem.W.callWith_K0 I.kIn hk (run_g (us := []) F hr hb I .nil ⟨rfl, m, [], st, sm, .nil, q⟩)) hdb)
/-- a built-in method -/
abbrev DM := D → List D → Sto → R D
def eBM (r : DM) (f : DE) (g : DA) : DE := fun env st => (f env st).bind fun x st1 => (g env st1).bind fun ds st2 => r x ds st2
def lBM (K : PySem.W.Frag) (r : DM) : V → List V → Hp → VK → Prop := fun x xs H Q => ∃ m dx ds st, Sim K H m st ∧ Rep K H m dx x ∧ Reps K H m ds xs ∧ pE K H m (r dx ds st) Q
/-- the receiver's type -/
def dTy (T : String) (d : D) (st : Sto) : Bool := match d with
  | .str _ => T == "str"
  | .ro _ => T == "list"
  | .ref i => T == "list" && st[i]?.isSome
  | _ => false
theorem dTy_ok {K : PySem.W.Frag} {H : Hp} {m : List Addr} {st : Sto} {d : D} {v : V} {T : String} (s : Sim K H m st) (r : Rep K H m d v) (h : dTy T d st = true) : tyV K T v H := by
  cases r with
  | str x => exact (show T = "str" by simpa [dTy] using h)
  | ro q _ => exact .inl ⟨by simpa [dTy] using h, _, q.sq⟩
  | @ref a i e =>
    simp only [dTy, Bool.and_eq_true] at h
    obtain ⟨vs, q⟩ := s.there e
    exact .inl ⟨by simpa using h.1, vs, .inl (.inl q)⟩
  | _ => simp [dTy] at h
def eBMT (T : String) (r : DM) (f : DE) (g : DA) : DE := fun env st => (f env st).bind fun x st1 => if dTy T x st1 = true then (g env st1).bind fun ds st2 => r x ds st2 else .bad
theorem l_bmt {K : PySem.W.Frag} {T : String} {σ : L2.St} {H : Hp} {Q : VK} {r : DM} (h : lE K (eBMT T r fe fs) σ H Q) : tBM K T (lBM K r) (lE K fe) (lA K fs) σ H Q := by
  obtain ⟨m, env, st, s, se, q⟩ := h
  unfold pE eBMT at q
  rw [R.post_bind] at q
  refine lE_then s se q fun d st1 H1 m1 v p hm hk s1 se1 rv => ?_
  split at p
  · rename_i ht
    refine ⟨dTy_ok s1 rv ht, ?_⟩
    rw [R.post_bind] at p
    exact lA_then s1 se1 p fun ds st2 H2 m2 vs p2 hm2 hk2 s2 se2 rvs => ⟨m2, d, ds, st2, s2, rv.up hk2 hm2, rvs, pE_up (hm.trans hm2) (hk.trans hk2) p2⟩
  · exact False.elim p
variable {T id : String} {name : Str} {apos cpos : Pos} {r : DM}
theorem x_bm (pa : PlainAttrs T) (slot : Slot T name id) (hty : typeOf (.builtin id) = pure (.type "method_descriptor")) (hm : MtR X id (lBM X.K r)) (ho : PE X a (lE X.K fa)) (ha : PA X (e :: es) (lA X.K fs))
    (hbase : attributeBase a name X.env (eval a X.env) = eval a X.env := by rfl)
    (hfew : ((backTo cpos (starEach (e :: es) X.env)).all (fun x => !x.1) && (backToKw cpos (keywordEach [] X.env)).all (fun x => x.1.isSome)
      && decide ((e :: es).length + ([] : List Keyword).length + (if ([] : List Keyword).isEmpty then 0 else 1) < 30)) = true := by rfl)
    (hline : (apos.endLine == cpos.line) = true := by rfl) (hs : starEach (e :: es) X.env = (false, eval e X.env) :: starEach es X.env := by rfl) (hplain : (backTo cpos (starEach es X.env)).any (·.1) = false := by rfl) :
    PE X (.Call (.Attribute a name apos) (e :: es) [] cpos) (lE X.K (eBMT T r fa fs)) := pe_w (pe_bm pa slot hty hm ho ha hbase hfew hline hs hplain) fun _ _ _ h => l_bmt h
theorem x_bm0 (pa : PlainAttrs T) (slot : Slot T name id) (hty : typeOf (.builtin id) = pure (.type "method_descriptor")) (hm : MtR X id (lBM X.K r)) (ho : PE X a (lE X.K fa))
    (hbase : attributeBase a name X.env (eval a X.env) = eval a X.env := by rfl) (hline : (apos.endLine == cpos.line) = true := by rfl) : PE X (.Call (.Attribute a name apos) [] [] cpos) (lE X.K (eBMT T r fa aNil)) :=
  pe_w (pe_bm0 pa slot hty hm ho hbase hline) fun σ H Q ⟨m, env, st, s, se, q⟩ => by
    unfold pE eBMT at q
    rw [R.post_bind] at q
    refine lE_then s se q fun d st1 H1 m1 v p hm hk s1 se1 rv => ?_
    split at p
    · rename_i ht
      exact ⟨dTy_ok s1 rv ht, m1, d, [], st1, s1, rv, .nil, pE_up hm hk p⟩
    · exact False.elim p
end
end DL

namespace DL
open PySem PySem.Spec PyProof.Rows L2

/-! ### statements -/
def sNext : DS := fun env st => .ok (.nx env) st
def sSeq (f g : DS) : DS := fun env st => (f env st).bind fun fl st1 => match fl with
  | .nx env1 => g env1 st1
  | fl => .ok fl st1
def sBreak : DS := fun env st => .ok (.bk env) st
def sCont : DS := fun env st => .ok (.ct env) st
def sDrop (f : DE) : DS := fun env st => (f env st).bind fun _ st1 => .ok (.nx env) st1
def sRet (f : DE) : DS := fun env st => (f env st).bind fun d st1 => .ok (.rt d) st1
def sRetN : DS := fun _ st => .ok (.rt .non) st
def sIf (t : DT) (f g : DS) : DS := fun env st => (t env st).bind fun b st1 => if b = true then f env st1 else g env st1
def sSet (i : Nat) (f : DE) : DS := fun env st => (f env st).bind fun d st1 => .ok (.nx (env.set i (some d))) st1
section
variable {X : Cx} {st : Stmt} {rest sts : List Stmt} {e : Expr} {pos : Pos} {f g : DS} {fe : DE}
theorem ss_nil : PSs X [] (lS X.K sNext) := pss_w pss_nil fun D σ H ⟨m, env, st, s, se, q⟩ => q H m (List.prefix_refl _) (Kp.refl _) s σ se
theorem ss_cons (h1 : PS X st (lS X.K f)) (h2 : PSs X rest (lS X.K g)) : PSs X (st :: rest) (lS X.K (sSeq f g)) := pss_w (pss_cons h1 h2) fun D σ H ⟨m, env, st, s, se, q⟩ => by
  unfold pS sSeq at q
  rw [R.post_bind] at q
  refine ⟨m, env, st, s, se, R.post_mono q fun fl st1 p H1 m1 hm hk s1 => ?_⟩
  cases fl with
  | nx env1 => exact fun σ1 se1 => ⟨m1, env1, st1, s1, se1, pS_up hm hk p⟩
  | rt d => exact p H1 m1 hm hk s1
  | bk env1 => exact p H1 m1 hm hk s1
  | ct env1 => exact p H1 m1 hm hk s1
theorem ss_one (h1 : PS X st (lS X.K f)) : PSs X [st] (lS X.K f) := pss_one h1
theorem s_pass : PS X (.Pass pos) (lS X.K sNext) := ps_w ps_pass fun D σ H ⟨m, env, st, s, se, q⟩ => q H m (List.prefix_refl _) (Kp.refl _) s σ se
theorem s_break : PS X (.Break pos) (lS X.K sBreak) := ps_w ps_break fun D σ H ⟨m, env, st, s, se, q⟩ => q H m (List.prefix_refl _) (Kp.refl _) s σ se
theorem s_cont : PS X (.Continue pos) (lS X.K sCont) := ps_w ps_continue fun D σ H ⟨m, env, st, s, se, q⟩ => q H m (List.prefix_refl _) (Kp.refl _) s σ se
theorem s_expr (he : PE X e (lE X.K fe)) (hs : swapsWith e none pos.line X.env = pure false := by rfl) : PS X (.Expr e pos) (lS X.K (sDrop fe)) := ps_w (ps_expr he hs) fun D σ H ⟨m, env, st, s, se, q⟩ => by
  unfold pS sDrop at q
  rw [R.post_bind] at q
  exact lE_then s se q fun d st1 H1 m1 v p hm hk s1 se1 rv => p H1 m1 hm hk s1 σ se1
theorem s_ret (he : PE X e (lE X.K fe)) : PS X (.Return (some e) pos) (lS X.K (sRet fe)) := ps_w (ps_ret he) fun D σ H ⟨m, env, st, s, se, q⟩ => by
  unfold pS sRet at q
  rw [R.post_bind] at q
  exact lE_then s se q fun d st1 H1 m1 v p hm hk s1 se1 rv => p H1 m1 hm hk s1 v rv
theorem s_retN : PS X (.Return none pos) (lS X.K sRetN) := ps_w ps_retN fun D σ H ⟨m, env, st, s, se, q⟩ => q H m (List.prefix_refl _) (Kp.refl _) s _ .non
theorem s_if {c : Expr} {a b : List Stmt} {t : DT} (hc : PT X c (lT X.K t)) (ha : PSs X a (lS X.K f)) (hb : PSs X b (lS X.K g)) : PS X (.If c a b pos) (lS X.K (sIf t f g)) := ps_w (ps_if hc ha hb) fun D σ H ⟨m, env, st, s, se, q⟩ => by
  unfold pS sIf at q
  rw [R.post_bind] at q
  refine lT_then s se q fun b st1 H1 m1 p hm hk s1 se1 => ?_
  cases b with
  | true => rw [if_pos rfl] at p ⊢; exact ⟨m1, env, st1, s1, se1, pS_up hm hk p⟩
  | false => rw [if_neg Bool.false_ne_true] at p ⊢; exact ⟨m1, env, st1, s1, se1, pS_up hm hk p⟩
theorem s_set {i : Nat} {x : Str} {pos' : Pos} (hN : X.N.Nodup) (hi : X.N[i]? = some x) (hx : Loc X.env.scope x) (he : PE X e (lE X.K fe)) (hs : swapsWith e (some (.Name x pos')) pos.line X.env = pure false := by rfl) (hf : X.fn x = true ∨ X.env.scope.names.lookup x = some .local := by first | exact .inl rfl | exact .inr rfl | assumption) :
    PS X (.Assign [.Name x pos'] e pos) (lS X.K (sSet i fe)) := ps_w (ps_set hN hi hx he hs hf) fun D σ H ⟨m, env, st, s, se, q⟩ => by
  unfold pS sSet at q
  rw [R.post_bind] at q
  exact lE_then s se q fun d st1 H1 m1 v p hm hk s1 se1 rv => p H1 m1 hm hk s1 _ (se1.set rv i)
end

/-! ### targets -/
abbrev DG := D → Env → Option Env
structure GOk (K : PySem.W.Frag) (vs : List Nat) (gt : TG) (g : DG) : Prop where
  run : ∀ (d : D) (v : V) (σ : L2.St) (env : Env) (H : Hp) (m : List Addr) (Q : L2.St → Hp → Prop) (env' : Env), SimE K H m env σ → Rep K H m d v → g d env = some env' → (∀ σ', SimE K H m env' σ' → wipe σ' vs = wipe σ vs → Q σ' H) → gt v σ H Q
def gN (i : Nat) : DG := fun d env => some (env.set i (some d))
/-- name by name -/
def gSets : List Nat → List D → Env → Option Env
  | [], [], env => some env
  | i :: is, d :: ds, env => gSets is ds (env.set i (some d))
  | _, _, _ => none
def gT (is : List Nat) : DG := fun d env => match d with
  | .tup ds => gSets is ds env
  | _ => none
theorem wipe_set (σ : L2.St) (v : V) : ∀ (vs : List Nat) (i : Nat), i ∈ vs → wipe (σ.set i (some v)) vs = wipe σ vs
  | [], i, h => by simp at h
  | j :: vs, i, h => by
    unfold wipe
    by_cases hj : i ∈ vs
    · rw [wipe_set σ v vs i hj]
    · have e : i = j := by
        rcases List.mem_cons.mp h with h | h
        · exact h
        · exact absurd h hj
      subst e
      apply List.ext_getElem?
      intro k
      by_cases hk : i = k
      · subst hk
        simp only [List.getElem?_set]
        have l1 : (wipe (σ.set i (some v)) vs).length = σ.length := by rw [wipe_length, List.length_set]
        have l2 : (wipe σ vs).length = σ.length := wipe_length σ vs
        simp [l1, l2]
      · rw [List.getElem?_set_ne hk, List.getElem?_set_ne hk]
        clear h
        induction vs generalizing k with
        | nil => show (σ.set i (some v))[k]? = σ[k]?; rw [List.getElem?_set_ne hk]
        | cons a r ih =>
          show ((wipe (σ.set i (some v)) r).set a none)[k]? = ((wipe σ r).set a none)[k]?
          have ih' := fun k hk => ih (fun z => hj (List.mem_cons_of_mem _ z)) k hk
          have l1 : (wipe (σ.set i (some v)) r).length = σ.length := by rw [wipe_length, List.length_set]
          have l2 : (wipe σ r).length = σ.length := wipe_length σ r
          by_cases ha : a = k
          · subst ha
            simp only [List.getElem?_set, if_true]
            simp [l1, l2]
          · rw [List.getElem?_set_ne ha, List.getElem?_set_ne ha]
            exact ih' k hk
theorem gok_n {K : PySem.W.Frag} {vs : List Nat} {i : Nat} (h : i ∈ vs := by decide) : GOk K vs (gName i) (gN i) := ⟨fun d v σ env H m Q env' se r e q => by
  cases e
  exact q _ (se.set r i) (wipe_set σ v vs i h)⟩
structure GsOk (K : PySem.W.Frag) (vs : List Nat) (gt : TGs) (is : List Nat) : Prop where
  run : ∀ (ds : List D) (us : List V) (σ : L2.St) (env : Env) (H : Hp) (m : List Addr) (Q : L2.St → Hp → Prop) (env' : Env), SimE K H m env σ → Reps K H m ds us → gSets is ds env = some env' → (∀ σ', SimE K H m env' σ' → wipe σ' vs = wipe σ vs → Q σ' H) → gt us σ H Q
theorem gsok_nil {K : PySem.W.Frag} {vs : List Nat} : GsOk K vs gNil [] := ⟨fun ds us σ env H m Q env' se r e q => by
  cases r with
  | nil => cases e; exact ⟨rfl, q _ se rfl⟩
  | cons _ _ => cases e⟩
theorem gsok_cons {K : PySem.W.Frag} {vs : List Nat} {i : Nat} {is : List Nat} {gt : TGs} (h : GsOk K vs gt is) (hi : i ∈ vs := by decide) : GsOk K vs (gCons (gName i) gt) (i :: is) := ⟨fun ds us σ env H m Q env' se r e q => by
  cases r with
  | nil => cases e
  | @cons d v ds vs' r rs => exact ⟨v, vs', rfl, h.run ds vs' _ _ H m Q env' (se.set r i) rs e fun σ' se' w => q σ' se' (w.trans (wipe_set σ v vs i hi))⟩⟩
theorem gSets_len : ∀ {is : List Nat} {ds : List D} {env env' : Env}, gSets is ds env = some env' → ds.length = is.length
  | [], [], _, _, _ => rfl
  | i :: is, d :: ds, _, _, h => by rw [List.length_cons, List.length_cons, gSets_len (is := is) (ds := ds) h]
  | [], _ :: _, _, _, h => by cases h
  | _ :: _, [], _, _, h => by cases h
theorem gok_t {K : PySem.W.Frag} {vs : List Nat} {is : List Nat} {gt : TGs} {n : Nat} (h : GsOk K vs gt is) (hn : is.length = n := by rfl) : GOk K vs (gTup K n gt) (gT is) := ⟨fun d v σ env H m Q env' se r e q => by
  cases r with
  | @tup a us ds sq rs =>
    have e' : gSets is ds env = some env' := e
    exact ⟨a, us, rfl, sq, by rw [rs.len, gSets_len e', hn], h.run ds us σ env H m Q env' se rs e' q⟩
  | _ => cases e⟩

/-- a, b = e : a tuple unpacked -/
def sUnp (g : DG) (f : DE) : DS := fun env st => (f env st).bind fun d st1 => match g d env with
  | some env' => .ok (.nx env') st1
  | none => .bad
section
variable {X : Cx} {e tg : Expr} {pos : Pos} {fe : DE}
theorem s_unp {vs : List Nat} {gt : TG} {g : DG} (he : PE X e (lE X.K fe)) (hg : PG X tg gt) (ok : GOk X.K vs gt g) (hs : swapsWithSole [tg] e pos.line X.env = pure false := by rfl) (hw : swappedStores [tg] e X.env = pure none := by rfl)
    (h1 : (assignEach [tg] X.env).map (·.2) = [assign tg X.env] := by rfl) : PS X (.Assign [tg] e pos) (lS X.K (sUnp g fe)) := ps_w (ps_asg he hg hs hw h1) fun D σ H ⟨m, env, st, s, se, q⟩ => by
  unfold pS sUnp at q
  rw [R.post_bind] at q
  refine lE_then s se q fun d st1 H1 m1 v p hm hk s1 se1 rv => ?_
  cases hgd : g d env with
  | none => rw [hgd] at p; exact False.elim p
  | some env' =>
    rw [hgd] at p
    exact ok.run d v σ env H1 m1 D.nx env' se1 rv hgd fun σ' se' _ => p H1 m1 hm hk s1 σ' se'
/-- a, b = x, y -/
def sPar (i j : Nat) (g : DA) : DS := fun env st => (g env st).bind fun ds st1 => match ds with
  | [a, b] => .ok (.nx ((env.set i (some a)).set j (some b))) st1
  | _ => .bad
theorem s_par {i j : Nat} {x y : Str} {a b : Expr} {px py pt : Pos} {kt k2 pt2} {ga : DA} (hc : X.calm = true) (hN : X.N.Nodup) (hi : X.N[i]? = some x) (hj : X.N[j]? = some y) (hij : i ≠ j)
    (hx : X.env.scope.names.lookup x = some .local) (hy : X.env.scope.names.lookup y = some .local) (ha : PA X [a, b] (lA X.K ga))
    (hw : swappedStores [.Tuple [.Name x px, .Name y py] kt pt] (.Tuple [a, b] k2 pt2) X.env = pure (some [x, y]) := by rfl)
    (hs : swapsWithSole [.Tuple [.Name x px, .Name y py] kt pt] (.Tuple [a, b] k2 pt2) pos.line X.env = pure false := by rfl) :
    PS X (.Assign [.Tuple [.Name x px, .Name y py] kt pt] (.Tuple [a, b] k2 pt2) pos) (lS X.K (sPar i j ga)) := ps_w (ps_par hc hN hi hj hij hx hy ha hw hs) fun D σ H ⟨m, env, st, s, se, q⟩ => by
  unfold pS sPar at q
  rw [R.post_bind] at q
  refine lA_then s se q fun ds st1 H1 m1 us p hm hk s1 se1 rvs => ?_
  cases rvs with
  | nil => exact False.elim p
  | cons r1 rs =>
    cases rs with
    | nil => exact False.elim p
    | cons r2 rs =>
      cases rs with
      | nil => exact ⟨_, _, rfl, p H1 m1 hm hk s1 _ ((se1.set r1 i).set r2 j)⟩
      | cons _ _ => exact False.elim p
/-- o[i] = e -/
abbrev DSet := D → D → D → Sto → R Unit
def sPut (r : DSet) (fo fi fe : DE) : DS := fun env st => (fe env st).bind fun v st1 => (fo env st1).bind fun o st2 => (fi env st2).bind fun i st3 => (r o i v st3).bind fun _ st4 => .ok (.nx env) st4
def lSet (K : PySem.W.Frag) (r : DSet) : TSet := fun o i v H Q => ∃ m d1 d2 d3 st, Sim K H m st ∧ Rep K H m d1 o ∧ Rep K H m d2 i ∧ Rep K H m d3 v ∧ (r d1 d2 d3 st).post fun _ st' => Aft K H m st' fun H' _ => Q H'
theorem s_put {r : DSet} {o i : Expr} {fo fi : DE} {p2 : Pos} (hr : PSet X (lSet X.K r)) (he : PE X e (lE X.K fe)) (ho : PE X o (lE X.K fo)) (hi : PE X i (lE X.K fi))
    (ha : ∀ v, assign (.Subscript o i p2) X.env v = (do
      let ov ← holding [v] (eval o X.env)
      let iv ← holding [v, ov] (eval i X.env)
      standAt p2
      holding [v, ov, iv] (setItem ov iv v)
      release [v, ov, iv] []) := by intro _; rfl)
    (hs : swapsWithSole [.Subscript o i p2] e pos.line X.env = pure false := by rfl) (hw : swappedStores [.Subscript o i p2] e X.env = pure none := by rfl)
    (h1 : (assignEach [.Subscript o i p2] X.env).map (·.2) = [assign (.Subscript o i p2) X.env] := by rfl) : PS X (.Assign [.Subscript o i p2] e pos) (lS X.K (sPut r fo fi fe)) :=
  ps_w (ps_asg he (pg_sub ho hi hr ha) hs hw h1) fun D σ H ⟨m, env, st, s, se, q⟩ => by
    unfold pS sPut at q
    rw [R.post_bind] at q
    refine lE_then s se q fun d st1 H1 m1 v p hm hk s1 se1 rv => ?_
    rw [R.post_bind] at p
    refine lE_then s1 se1 p fun d2 st2 H2 m2 v2 p2 hm2 hk2 s2 se2 rv2 => ?_
    rw [R.post_bind] at p2
    refine lE_then s2 se2 p2 fun d3 st3 H3 m3 v3 p3 hm3 hk3 s3 se3 rv3 => ?_
    rw [R.post_bind] at p3
    refine ⟨m3, d2, d3, d, st3, s3, rv2.up hk3 hm3, rv3, (rv.up hk2 hm2).up hk3 hm3, R.post_mono p3 fun _ st4 p4 H4 m4 hm4 hk4 s4 => ?_⟩
    exact p4 H4 m4 (((hm.trans hm2).trans hm3).trans hm4) (((hk.trans hk2).trans hk3).trans hk4) s4 σ (se3.up hk4 hm4)
end

/-! ### walks -/
inductive DIt where
  | tup (xs : List D) | lst (i : Nat) | rng (lo : Int) (n : Nat) | str (x : Str)
/-- the item at a turn: none: not so -/
def DIt.at (it : DIt) (i : Nat) (st : Sto) : Option (Option D) := match it with
  | .tup xs => some xs[i]?
  | .lst a => match st[a]? with
    | some (.lst xs) => some xs[i]?
    | none => none
  | .rng lo n => some (if i < n then some (.int (lo + i)) else none)
  | .str x => some ((x.cps[i]?).map fun c => .str ⟨#[c]⟩)
def DIt.size (it : DIt) (st : Sto) : Nat := match it with
  | .tup xs => xs.length
  | .lst a => match st[a]? with
    | some (.lst xs) => xs.length
    | none => 0
  | .rng _ n => n
  | .str x => x.cps.size
def ItOk (K : PySem.W.Frag) (H : Hp) (m : List Addr) (J : It) : DIt → Prop
  | .tup ds => (∃ a vs, J = Itt K a ∧ SqT K H a vs ∧ Reps K H m ds vs) ∨ ∃ a vs, J = Itl K a ∧ RoL K H a vs ∧ Reps K H m ds vs
  | .lst i => ∃ a, J = Itl K a ∧ m[i]? = some a
  | .rng lo n => J = Itr lo n
  | .str x => J = Its x
theorem ItOk.up {K : PySem.W.Frag} {H H' : Hp} {m m' : List Addr} {J : It} (k : Kp m H m' H') (hm : m <+: m') : ∀ {it : DIt}, ItOk K H m J it → ItOk K H' m' J it
  | .tup ds, .inl ⟨a, vs, e, s, r⟩ => .inl ⟨a, vs, e, k.sqT s, r.up k hm⟩
  | .tup ds, .inr ⟨a, vs, e, s, r⟩ => .inr ⟨a, vs, e, k.roL s, r.up k hm⟩
  | .lst i, ⟨a, e, h⟩ => ⟨a, e, pre_get hm h⟩
  | .rng lo n, e => e
  | .str x, e => e
end DL

namespace DL
open PySem PySem.Spec PyProof.Rows L2

abbrev DI := Env → Sto → R DIt
def lI (K : PySem.W.Frag) (f : DI) : TI := fun σ H Rr => ∃ m env st, Sim K H m st ∧ SimE K H m env σ ∧ (f env st).post fun it st' => Aft K H m st' fun H' m' => ∀ J, ItOk K H' m' J it → Rr J H'
/-- what is walked -/
def iAny (f : DE) : DI := fun env st => (f env st).bind fun d st1 => match d with
  | .tup ds => .ok (.tup ds) st1
  | .ro ds => .ok (.tup ds) st1
  | .ref i => .ok (.lst i) st1
  | .str x => .ok (.str x) st1
  | _ => .bad
def iRange1 (g : DA) : DI := fun env st => (g env st).bind fun ds st1 => match ds with
  | [.int j] => if -(2 ^ 62) ≤ j ∧ j < 2 ^ 62 then .ok (.rng 0 j.toNat) st1 else .bad
  | _ => .bad
def iRange2 (g : DA) : DI := fun env st => (g env st).bind fun ds st1 => match ds with
  | [.int i, .int j] => if -(2 ^ 62) ≤ i ∧ i < 2 ^ 62 ∧ -(2 ^ 62) ≤ j ∧ j < 2 ^ 62 then .ok (.rng i (j - i).toNat) st1 else .bad
  | _ => .bad
section
variable {X : Cx} {tg e a b : Expr} {fe : DE} {ga : DA} {p pos : Pos}
theorem pi_w {wi wi' : TI} (h : PI X tg e wi) (w : ∀ σ H Rr, wi' σ H Rr → wi σ H Rr) : PI X tg e wi' := ⟨fun pins s σ H Rr I q => h.run pins s σ H Rr I (w _ _ _ q)⟩
theorem i_any (he : PE X e (lE X.K fe)) : PI X tg e (lI X.K (iAny fe)) := ⟨fun pins s σ H Rr I ⟨m, env, st, sm, se, q⟩ => by
  unfold iAny at q
  rw [R.post_bind] at q
  cases hf : fe env st with
  | bad => rw [hf] at q; exact False.elim q
  | ok d st1 =>
    rw [hf] at q
    have hp : (fe env st).post fun d' st' => d' = d ∧ st' = st1 := by rw [hf]; exact ⟨rfl, rfl⟩
    cases d with
    | tup ds =>
      refine (pi_tup he).run pins s σ H Rr I (lE_then sm se hp fun d' st' H1 m1 v ⟨e1, e2⟩ hm hk s1 se1 rv => ?_)
      subst e1 e2
      cases rv with
      | tup sq rs => exact ⟨_, rfl, ⟨_, sq⟩, q H1 m1 hm hk s1 _ (.inl ⟨_, _, rfl, sq, rs⟩)⟩
    | ro ds =>
      refine (pi_list he).run pins s σ H Rr I (lE_then sm se hp fun d' st' H1 m1 v ⟨e1, e2⟩ hm hk s1 se1 rv => ?_)
      subst e1 e2
      cases rv with
      | ro sq rs => exact ⟨_, rfl, ⟨_, sq.sq⟩, q H1 m1 hm hk s1 _ (.inr ⟨_, _, rfl, sq, rs⟩)⟩
    | ref i =>
      refine (pi_list he).run pins s σ H Rr I (lE_then sm se hp fun d' st' H1 m1 v ⟨e1, e2⟩ hm hk s1 se1 rv => ?_)
      subst e1 e2
      cases rv with
      | ref hi =>
        obtain ⟨vs, ha⟩ := s1.there hi
        exact ⟨_, rfl, ⟨_, .inl (.inl ha)⟩, q H1 m1 hm hk s1 _ ⟨_, rfl, hi⟩⟩
    | str x =>
      refine (pi_str he).run pins s σ H Rr I (lE_then sm se hp fun d' st' H1 m1 v ⟨e1, e2⟩ hm hk s1 se1 rv => ?_)
      subst e1 e2
      cases rv with
      | str x => exact ⟨x, rfl, q H1 m1 hm hk s1 _ rfl⟩
    | _ => exact False.elim q⟩
theorem i_range1 (hg : Gl X "range") (hm : X.mg "range" = none) (ha : PA X [a] (lA X.K ga)) (hs : starEach [a] X.env = [(false, eval a X.env)] := by rfl) : PI X tg (.Call (.Name "range" p) [a] [] pos) (lI X.K (iRange1 ga)) :=
  pi_w (pi_range1 hg hm ha hs) fun σ H Rr ⟨m, env, st, sm, se, q⟩ => by
    unfold iRange1 at q
    rw [R.post_bind] at q
    refine lA_then sm se q fun ds st1 H1 m1 vs p hm hk s1 se1 rvs => ?_
    split at p
    · cases rvs with
      | cons r rs =>
        cases rs
        cases r
        rename_i j
        split at p
        · rename_i hj
          exact ⟨j, rfl, hj.1, hj.2, p H1 m1 hm hk s1 _ rfl⟩
        · exact False.elim p
    · exact False.elim p
theorem i_range2 (hg : Gl X "range") (hm : X.mg "range" = none) (ha : PA X [a, b] (lA X.K ga)) (hs : starEach [a, b] X.env = [(false, eval a X.env), (false, eval b X.env)] := by rfl) (hs2 : starEach [b] X.env = [(false, eval b X.env)] := by rfl) :
    PI X tg (.Call (.Name "range" p) [a, b] [] pos) (lI X.K (iRange2 ga)) :=
  pi_w (pi_range2 hg hm ha hs hs2) fun σ H Rr ⟨m, env, st, sm, se, q⟩ => by
    unfold iRange2 at q
    rw [R.post_bind] at q
    refine lA_then sm se q fun ds st1 H1 m1 vs p hm hk s1 se1 rvs => ?_
    split at p
    · cases rvs with
      | cons r rs =>
        cases rs with
        | cons r2 rs =>
          cases rs
          cases r
          cases r2
          rename_i i j
          split at p
          · rename_i hj
            exact ⟨i, j, rfl, hj, p H1 m1 hm hk s1 _ rfl⟩
          · exact False.elim p
    · exact False.elim p
end

/-! ### for -/
def forGo (it : DIt) (g : DG) (b : DS) : Nat → Nat → Env → Sto → R Fl
  | 0, _, _, _ => .bad
  | n + 1, i, env, st => match it.at i st with
    | none => .bad
    | some none => .ok (.nx env) st
    | some (some d) => match g d env with
      | none => .bad
      | some env1 => (b env1 st).bind fun fl st1 => match fl with
        | .nx env2 => forGo it g b n (i + 1) env2 st1
        | .ct env2 => forGo it g b n (i + 1) env2 st1
        | .bk env2 => .ok (.nx env2) st1
        | .rt d => .ok (.rt d) st1
def sFor (fi : DI) (g : DG) (b : DS) : DS := fun env st => (fi env st).bind fun it st1 => forGo it g b (it.size st1 + 1) 0 env st1

section
variable {K : PySem.W.Frag} {H : Hp} {m : List Addr} {st : Sto} {J : It} {it : DIt} {i : Nat}
theorem ItOk.stop (s : Sim K H m st) (h : ItOk K H m J it) (e : it.at i st = some none) : J.stop i H := by
  cases it with
  | tup ds =>
    have e' : ds[i]? = none := Option.some.inj e
    have hl : ds.length ≤ i := List.getElem?_eq_none_iff.mp e'
    rcases h with ⟨a, vs, rfl, sq, r⟩ | ⟨a, vs, rfl, sq, r⟩
    · exact ⟨vs, sq, by rw [r.len]; exact hl⟩
    · exact ⟨vs, sq.sq, by rw [r.len]; exact hl⟩
  | lst a =>
    obtain ⟨p, rfl, hp⟩ := h
    unfold DIt.at at e
    simp only at e
    split at e
    · rename_i xs hx
      have hl : xs.length ≤ i := List.getElem?_eq_none_iff.mp (Option.some.inj e)
      obtain ⟨p', vs, h1, h2, r⟩ := s.ref hx
      rw [hp] at h1; cases h1
      exact ⟨vs, .inl (.inl h2), by rw [r.len]; exact hl⟩
    · cases e
  | rng lo n =>
    cases h
    have e' := Option.some.inj e
    split at e'
    · cases e'
    · rename_i hn; exact Nat.le_of_not_lt hn
  | str x =>
    cases h
    have e' : (x.cps[i]?).map (fun c => D.str ⟨#[c]⟩) = none := Option.some.inj e
    cases hc : x.cps[i]? with
    | none => exact Array.getElem?_eq_none_iff.mp hc
    | some c => rw [hc] at e'; cases e'
theorem ItOk.go {d : D} (s : Sim K H m st) (h : ItOk K H m J it) (e : it.at i st = some (some d)) : J.go i H ∧ ∀ x H', J.yld i H x H' → H' = H ∧ Rep K H m d x := by
  cases it with
  | tup ds =>
    have e' : ds[i]? = some d := Option.some.inj e
    rcases h with ⟨a, vs, rfl, sq, r⟩ | ⟨a, vs, rfl, sq, r⟩
    · obtain ⟨v, h1, h2⟩ := r.get e'
      exact ⟨⟨vs, v, sq, h1⟩, fun x H' ⟨e1, e2⟩ => ⟨e1, by
        have := e2 vs sq
        rw [h1] at this; cases this; exact h2⟩⟩
    · obtain ⟨v, h1, h2⟩ := r.get e'
      exact ⟨⟨vs, v, sq.sq, h1⟩, fun x H' ⟨e1, e2⟩ => ⟨e1, by
        have := e2 vs sq.sq
        rw [h1] at this; cases this; exact h2⟩⟩
  | lst a =>
    obtain ⟨p, rfl, hp⟩ := h
    unfold DIt.at at e
    simp only at e
    split at e
    · rename_i xs hx
      obtain ⟨p', vs, h1, h2, r⟩ := s.ref hx
      rw [hp] at h1; cases h1
      obtain ⟨v, g1, g2⟩ := r.get (Option.some.inj e)
      exact ⟨⟨vs, v, .inl (.inl h2), g1⟩, fun x H' ⟨e1, e2⟩ => ⟨e1, by
        have := e2 vs (.inl (.inl h2))
        rw [g1] at this; cases this; exact g2⟩⟩
    · cases e
  | rng lo n =>
    cases h
    have e' := Option.some.inj e
    split at e'
    · rename_i hn
      cases e'
      exact ⟨hn, fun x H' ⟨e1, e2⟩ => ⟨e1, by rw [e2]; exact .int _⟩⟩
    · cases e'
  | str x =>
    cases h
    have e' : (x.cps[i]?).map (fun c => D.str ⟨#[c]⟩) = some d := Option.some.inj e
    cases hc : x.cps[i]? with
    | none => rw [hc] at e'; cases e'
    | some c =>
      rw [hc] at e'; cases e'
      exact ⟨(Array.getElem?_eq_some_iff.mp hc).1, fun y H' ⟨e1, c', h1, h2⟩ => ⟨e1, by
        rw [hc] at h1; cases h1; rw [h2]; exact .str _⟩⟩
end
section
variable {X : Cx} {tg iter : Expr} {body : List Stmt} {pos : Pos}
theorem s_for {fi : DI} {gt : TG} {vs : List Nat} {g : DG} {b : DS} (hp : PassesOwn (model X.prog X.w) X.A X.env X.xe) (hc : X.calm = true) (hi : PI X tg iter (lI X.K fi)) (hg : PG X tg gt) (ok : GOk X.K vs gt g) (hb : PSs X body (lS X.K b))
    (hs : ∀ x, foldedSetIterable iter X.env x = pure x := by intro _; rfl) : PS X (.For tg iter body [] pos) (lS X.K (sFor fi g b)) := ps_w (ps_for hp hc hi hg hb hs) fun D σ H ⟨m, env, st, sm, se, q⟩ => by
  unfold pS sFor at q
  rw [R.post_bind] at q
  refine ⟨m, env, st, sm, se, R.post_mono q fun it st1 p H1 m1 hm hk s1 J hJ => ?_⟩
  refine ⟨fun i n σ H => ∃ m env st, Sim X.K H m st ∧ SimE X.K H m env σ ∧ ItOk X.K H m J it ∧ pS X.K H m (forGo it g b n i env st) D, ⟨_, m1, env, st1, s1, se.up hk hm, hJ, pS_up hm hk p⟩, ?_⟩
  rintro i n σ2 H2 ⟨m2, env2, st2, s2, se2, hJ2, p2⟩
  cases n with
  | zero => exact False.elim p2
  | succ n =>
    unfold forGo at p2
    cases hat : it.at i st2 with
    | none => rw [hat] at p2; exact False.elim p2
    | some o =>
      rw [hat] at p2
      cases o with
      | none => exact .inl ⟨hJ2.stop s2 hat, p2 H2 m2 (List.prefix_refl _) (Kp.refl _) s2 σ2 se2⟩
      | some d =>
        simp only at p2
        obtain ⟨hgo, hy⟩ := hJ2.go s2 hat
        cases hgd : g d env2 with
        | none => rw [hgd] at p2; exact False.elim p2
        | some env3 =>
          rw [hgd] at p2
          simp only at p2
          refine .inr ⟨hgo, fun σ' H' => ∃ m env st, Sim X.K H' m st ∧ SimE X.K H' m env σ' ∧ ItOk X.K H' m J it ∧ pS X.K H' m (forGo it g b n (i + 1) env st) D, fun σ' H' w => ⟨n, Nat.lt_succ_self n, w⟩, fun x H' hyl => ?_⟩
          obtain ⟨rfl, rx⟩ := hy x H' hyl
          refine ok.run d x σ2 env2 H' m2 _ env3 se2 rx hgd fun σ3 se3 _ => ?_
          unfold pS at p2
          rw [R.post_bind] at p2
          refine ⟨m2, env3, st2, s2, se3, R.post_mono p2 fun fl st4 p4 H4 m4 hm4 hk4 s4 => ?_⟩
          cases fl with
          | nx env4 => exact fun σ4 se4 => ⟨m4, env4, st4, s4, se4, hJ2.up hk4 hm4, pS_up hm4 hk4 p4⟩
          | ct env4 => exact fun σ4 se4 => ⟨m4, env4, st4, s4, se4, hJ2.up hk4 hm4, pS_up hm4 hk4 p4⟩
          | bk env4 => exact p4 H4 m4 hm4 hk4 s4
          | rt d4 => exact p4 H4 m4 hm4 hk4 s4
/-! ### while -/
def whGo (t : DT) (b : DS) : Nat → Env → Sto → R Fl
  | 0, _, _ => .bad
  | n + 1, env, st => (t env st).bind fun k st1 => if k = true then (b env st1).bind fun fl st2 => match fl with
        | .nx env2 => whGo t b n env2 st2
        | .ct env2 => whGo t b n env2 st2
        | .bk env2 => .ok (.nx env2) st2
        | .rt d => .ok (.rt d) st2
      else .ok (.nx env) st1
def sWhile (N : Nat) (t : DT) (b : DS) : DS := whGo t b N
theorem s_while {N : Nat} {c : Expr} {t : DT} {b : DS} (hp : PassesOwn (model X.prog X.w) X.A X.env X.xe) (hc : PT X c (lT X.K t)) (hb : PSs X body (lS X.K b)) : PS X (.While c body [] pos) (lS X.K (sWhile N t b)) := ps_w (ps_while hp hc hb) fun D σ H ⟨m, env, st, sm, se, q⟩ => by
  refine ⟨fun n σ H => ∃ m env st, Sim X.K H m st ∧ SimE X.K H m env σ ∧ pS X.K H m (whGo t b n env st) D, ⟨N, m, env, st, sm, se, q⟩, ?_⟩
  rintro n σ2 H2 ⟨m2, env2, st2, s2, se2, p2⟩
  cases n with
  | zero => exact False.elim p2
  | succ n =>
    unfold whGo pS at p2
    rw [R.post_bind] at p2
    refine lT_then s2 se2 p2 fun k st3 H3 m3 p3 hm3 hk3 s3 se3 => ?_
    cases k with
    | false => rw [if_neg Bool.false_ne_true] at p3 ⊢; exact p3 H3 m3 hm3 hk3 s3 σ2 se3
    | true =>
      rw [if_pos rfl] at p3 ⊢
      rw [R.post_bind] at p3
      refine ⟨fun σ' H' => ∃ m env st, Sim X.K H' m st ∧ SimE X.K H' m env σ' ∧ pS X.K H' m (whGo t b n env st) D, fun σ' H' w => ⟨n, Nat.lt_succ_self n, w⟩, m3, env2, st3, s3, se3, R.post_mono p3 fun fl st4 p4 H4 m4 hm4 hk4 s4 => ?_⟩
      have hm' := hm3.trans hm4
      have hk' := hk3.trans hk4
      cases fl with
      | nx env4 => exact fun σ4 se4 => ⟨m4, env4, st4, s4, se4, pS_up hm' hk' p4⟩
      | ct env4 => exact fun σ4 se4 => ⟨m4, env4, st4, s4, se4, pS_up hm' hk' p4⟩
      | bk env4 => exact p4 H4 m4 hm' hk' s4
      | rt d4 => exact p4 H4 m4 hm' hk' s4
end

/-! ### list comprehensions -/
theorem wipe_get (σ : L2.St) (k : Nat) : ∀ vs : List Nat, (wipe σ vs)[k]? = if k ∈ vs then (σ[k]?).map (fun _ => none) else σ[k]?
  | [] => by simp [wipe]
  | v :: vs => by
    show ((wipe σ vs).set v none)[k]? = _
    rw [List.getElem?_set]
    have ih := wipe_get σ k vs
    by_cases hv : v = k
    · subst hv
      simp only [List.mem_cons, true_or, if_true, wipe_length]
      by_cases hl : v < σ.length
      · simp [hl]
      · simp [hl]
    · rw [if_neg hv, ih]
      have : k ≠ v := fun z => hv z.symm
      simp [List.mem_cons, this]
theorem wipe_wipe (σ : L2.St) (vs : List Nat) : wipe (wipe σ vs) vs = wipe σ vs := by
  apply List.ext_getElem?
  intro k
  rw [wipe_get, wipe_get]
  by_cases h : k ∈ vs
  · simp only [h, if_true]; cases σ[k]? <;> rfl
  · simp [h]
def wipeE (σ : Env) : List Nat → Env
  | [] => σ
  | v :: vs => (wipeE σ vs).set v none
theorem SimE.wipe {K : PySem.W.Frag} {H : Hp} {m : List Addr} {env : Env} {σ : L2.St} (s : SimE K H m env σ) : ∀ vs : List Nat, SimE K H m (wipeE env vs) (wipe σ vs)
  | [] => s
  | v :: vs => (SimE.wipe s vs).unset v
def lcGo (it : DIt) (g : DG) (t : DT) (e : DE) (env0 : Env) : Nat → Nat → Sto → R (List D)
  | 0, _, _ => .bad
  | n + 1, i, st => match it.at i st with
    | none => .bad
    | some none => .ok [] st
    | some (some d) => match g d env0 with
      | none => .bad
      | some env1 => (t env1 st).bind fun k st1 => if k = true then (e env1 st1).bind fun y st2 => (lcGo it g t e env0 n (i + 1) st2).bind fun ys st3 => .ok (y :: ys) st3
          else lcGo it g t e env0 n (i + 1) st1
def eLc (fi : DI) (g : DG) (t : DT) (e : DE) (vs : List Nat) : DE := fun env st => (fi env st).bind fun it st1 => (lcGo it g t e (wipeE env vs) (it.size st1 + 1) 0 st1).bind fun ys st2 => if ys.length ≤ sizeLine then .ok (.ref st2.length) (st2 ++ [.lst ys]) else .bad
def tYesD : DT := fun _ st => .ok true st
section
variable {X : Cx}
theorem l_lc {K : PySem.W.Frag} {fi : DI} {gt : TG} {g : DG} {t : DT} {e : DE} {vs : List Nat} (ok : GOk K vs gt g) {σ : L2.St} {H : Hp} {Q : VK} (h : lE K (eLc fi g t e vs) σ H Q) : tLc (lI K fi) gt (lT K t) (lE K e) vs σ H Q := by
  obtain ⟨m, env, st, sm, se, q⟩ := h
  unfold pE eLc at q
  rw [R.post_bind] at q
  refine ⟨m, env, st, sm, se, R.post_mono q fun it st1 p H1 m1 hm hk s1 J hJ Da hDa => ?_⟩
  rw [R.post_bind] at p
  have hkD : Kp m1 H1 m1 (upd H1 Da (.lst [])) := Kp.new hDa
  have sD : Sim K (upd H1 Da (.lst [])) m1 st1 := by
    refine ⟨s1.len, s1.nd, fun i a o e1 e2 => ?_⟩
    have q := s1.obj i a o e1 e2
    cases o with
    | lst es =>
      obtain ⟨ws, q1, q2⟩ := q
      exact ⟨ws, by rw [upd_ne (ne_of_none q1 hDa)]; exact q1, q2.up hkD (List.prefix_refl _)⟩
  refine ⟨fun i n H2 => ∃ m2 st2 acc avs, Sim K H2 m2 st2 ∧ SimE K H2 m2 env σ ∧ ItOk K H2 m2 J it ∧ Da ∉ m2 ∧ H2 Da = some (.lst avs) ∧ Reps K H2 m2 acc avs ∧
      ((lcGo it g t e (wipeE env vs) n i st2).post fun ys st3 => (acc ++ ys).length ≤ sizeLine ∧ ∀ H3 m3, m2 <+: m3 → Kb H2 H3 → (∀ a o, a ≠ Da → H2 a = some o → a ∉ m2 → H3 a = some o ∧ a ∉ m3) → Sim K H3 m3 st3 → Da ∉ m3 → ∀ vs3, H3 Da = some (.lst vs3) → Reps K H3 m3 (acc ++ ys) vs3 → Q (.ref Da) H3),
    ⟨_, m1, st1, [], [], sD, (se.up hk hm).up hkD (List.prefix_refl _), hJ.up hkD (List.prefix_refl _), s1.fresh hDa, upd_same, .nil, R.post_mono p fun ys st2 p2 => ?_⟩, ?_⟩
  · split at p2
    · rename_i hl
      refine ⟨by simpa using hl, fun H3 m3 hm3 hk3 fr3 s3 hD3 vs3 e3 r3 => ?_⟩
      have hm' : m <+: m3 ++ [Da] := (hm.trans hm3).trans (List.prefix_append _ _)
      refine p2 H3 (m3 ++ [Da]) hm' ⟨((hk.b.trans hkD.b).trans hk3), fun a o ea na => ?fr⟩ ⟨by simp [s3.len], ?_, fun i a o e1 e2 => ?_⟩ _ (.ref ?_)
      · obtain ⟨h1, h2⟩ := hk.fr a o ea na
        have hne : a ≠ Da := ne_of_none h1 hDa
        obtain ⟨h3, h4⟩ := fr3 a o hne (by rw [upd_ne hne]; exact h1) h2
        exact ⟨h3, fun z => by
          rcases List.mem_append.mp z with z | z
          · exact h4 z
          · rw [List.mem_singleton] at z; exact hne z⟩
      · rw [List.nodup_append]
        exact ⟨s3.nd, by simp, fun a ha b hb => by
          simp at hb; subst hb
          intro z; subst z; exact hD3 ha⟩
      · by_cases hi : i < m3.length
        · rw [List.getElem?_append_left hi] at e1
          rw [List.getElem?_append_left (by rw [← s3.len]; exact hi)] at e2
          have q := s3.obj i a o e1 e2
          cases o with
          | lst es =>
            obtain ⟨ws, q1, q2⟩ := q
            exact ⟨ws, q1, q2.upb (Kb.refl _) (List.prefix_append _ _)⟩
        · have hi' : i = m3.length := by
            have := (List.getElem?_eq_some_iff.mp e1).1
            simp at this; omega
          subst hi'
          rw [List.getElem?_append_right (Nat.le_refl _)] at e1
          rw [s3.len, List.getElem?_append_right (Nat.le_refl _)] at e2
          simp at e1 e2
          subst e1 e2
          exact ⟨vs3, e3, by simpa using r3.upb (Kb.refl _) (List.prefix_append _ _)⟩
      · rw [← s3.len, List.getElem?_append_right (Nat.le_refl _)]
        simp
    · exact False.elim p2
  · rintro i n H2 ⟨m2, st2, acc, avs, s2, se2, hJ2, hD2, e2, r2, p2⟩
    cases n with
    | zero => exact False.elim p2
    | succ n =>
      unfold lcGo at p2
      cases hat : it.at i st2 with
      | none => rw [hat] at p2; exact False.elim p2
      | some o =>
        rw [hat] at p2
        cases o with
        | none => exact .inl ⟨hJ2.stop s2 hat, p2.2 H2 m2 (List.prefix_refl _) (Kb.refl _) (fun a o _ h n => ⟨h, n⟩) s2 hD2 avs e2 (by simpa using r2)⟩
        | some d =>
          simp only at p2
          obtain ⟨hgo, hy⟩ := hJ2.go s2 hat
          cases hgd : g d (wipeE env vs) with
          | none => rw [hgd] at p2; exact False.elim p2
          | some env3 =>
            rw [hgd] at p2
            simp only at p2
            refine .inr ⟨hgo, fun H' => ∃ m2 st2 acc avs, Sim K H' m2 st2 ∧ SimE K H' m2 env σ ∧ ItOk K H' m2 J it ∧ Da ∉ m2 ∧ H' Da = some (.lst avs) ∧ Reps K H' m2 acc avs ∧
              ((lcGo it g t e (wipeE env vs) n (i + 1) st2).post fun ys st3 => (acc ++ ys).length ≤ sizeLine ∧ ∀ H3 m3, m2 <+: m3 → Kb H' H3 → (∀ a o, a ≠ Da → H' a = some o → a ∉ m2 → H3 a = some o ∧ a ∉ m3) → Sim K H3 m3 st3 → Da ∉ m3 → ∀ vs3, H3 Da = some (.lst vs3) → Reps K H3 m3 (acc ++ ys) vs3 → Q (.ref Da) H3),
              fun H' w => ⟨n, Nat.lt_succ_self n, w⟩, fun x H' hyl => ?_⟩
            obtain ⟨rfl, rx⟩ := hy x H' hyl
            refine ok.run d x (wipe σ vs) (wipeE env vs) H' m2 _ env3 (se2.wipe vs) rx hgd fun σ3 se3 hw => ⟨hw.trans (wipe_wipe σ vs), ?_⟩
            rw [R.post_bind] at p2
            refine lT_then s2 se3 p2 fun k st4 H4 m4 p4 hm4 hk4 s4 se4 => ?_
            obtain ⟨e4, d4⟩ := hk4.fr Da _ e2 hD2
            cases k with
            | false =>
              rw [if_neg Bool.false_ne_true] at p4 ⊢
              refine ⟨m4, st4, acc, avs, s4, se2.up hk4 hm4, hJ2.up hk4 hm4, d4, e4, r2.up hk4 hm4, R.post_mono p4 fun ys st5 ⟨p5, p6⟩ => ⟨p5, fun H5 m5 hm5 hk5 fr5 => p6 H5 m5 (hm4.trans hm5) (hk4.b.trans hk5) fun a o hne ea na => ?_⟩⟩
              obtain ⟨h1, h2⟩ := hk4.fr a o ea na
              exact fr5 a o hne h1 h2
            | true =>
              rw [if_pos rfl] at p4 ⊢
              rw [R.post_bind] at p4
              refine lE_then s4 se4 p4 fun y st5 H5 m5 v5 p5 hm5 hk5 s5 se5 rv5 => ?_
              obtain ⟨e5, d5⟩ := hk5.fr Da _ e4 d4
              rw [R.post_bind] at p5
              have hlen : avs.length < sizeLine := by
                cases hr : lcGo it g t e (wipeE env vs) n (i + 1) st5 with
                | bad => rw [hr] at p5; exact False.elim p5
                | ok ys st6 =>
                  rw [hr] at p5
                  have := p5.1
                  rw [r2.len]
                  simp at this ⊢
                  omega
              refine ⟨avs, e5, hlen, ?_⟩
              have hm' := hm4.trans hm5
              have hk' := hk4.trans hk5
              have kb : Kb H5 (upd H5 Da (.lst (avs ++ [v5]))) := Kb.put e5
              have frD : ∀ a, a ≠ Da → (upd H5 Da (.lst (avs ++ [v5]))) a = H5 a := fun a h => upd_ne h
              have neD : ∀ a, a ∈ m5 → a ≠ Da := fun a h z => d5 (z ▸ h)
              have s6 : Sim K (upd H5 Da (.lst (avs ++ [v5]))) m5 st5 := by
                refine ⟨s5.len, s5.nd, fun i a o e1 e2 => ?_⟩
                have q := s5.obj i a o e1 e2
                cases o with
                | lst es =>
                  obtain ⟨ws, q1, q2⟩ := q
                  exact ⟨ws, by rw [frD a (neD a (List.mem_of_getElem? e1))]; exact q1, q2.upb kb (List.prefix_refl _)⟩
              refine ⟨m5, st5, acc ++ [y], avs ++ [v5], s6, ?_, ?_, d5, upd_same, ((r2.up hk' hm').upb kb (List.prefix_refl _)).app (Reps.one (rv5.upb kb (List.prefix_refl _))), R.post_mono p5 fun ys st6 p6 => ?_⟩
              · have z := se2.up hk' hm'
                exact ⟨z.len, fun i d e => let ⟨v, h1, h2⟩ := z.at_ i d e; ⟨v, h1, h2.upb kb (List.prefix_refl _)⟩⟩
              · have z := hJ2.up hk' hm'
                cases it with
                | tup ds =>
                  rcases z with ⟨a, vs, e, sq, r⟩ | ⟨a, vs, e, sq, r⟩
                  · exact .inl ⟨a, vs, e, kb.sqT sq, r.upb kb (List.prefix_refl _)⟩
                  · exact .inr ⟨a, vs, e, kb.roL sq, r.upb kb (List.prefix_refl _)⟩
                | lst i => exact z
                | rng lo n => exact z
                | str x => exact z
              · refine ⟨by simpa using p6.1, fun H7 m7 hm7 hk7 fr7 s7 hD7 vs7 e7 r7 => ?_⟩
                refine p6.2 H7 m7 (hm'.trans hm7) ((hk'.b.trans kb).trans hk7) (fun a o hne ea na => ?_) s7 hD7 vs7 e7 (by simpa using r7)
                obtain ⟨h1, h2⟩ := hk'.fr a o ea na
                exact fr7 a o hne (by rw [frD a hne]; exact h1) h2
variable {elt tg iter : Expr} {ifs : List Expr} {scope : Scope} {own : List (Str × Nat)} {pos : Pos} {fi : DI} {gt : TG} {g : DG} {t : DT} {fe : DE}
theorem ts_nil : PTs X [] (lT X.K tYesD) := ⟨fun pins s σ H Q I ⟨m, env, st, sm, se, q⟩ => pts_nil.run pins s σ H Q I (q H m (List.prefix_refl _) (Kp.refl _) sm)⟩
theorem ts_one {c : Expr} (h : PT X c (lT X.K t)) : PTs X [c] (lT X.K t) := pts_one h
theorem x_lc (hc : X.calm = true) (hN : X.N.Nodup) (hi : PI X tg iter (lI X.K fi)) (ok : BlkOk X.N X.env.scope scope own) (gk : GOk X.K (own.map (·.2)) gt g)
    (hg : ∀ (s : Shared) (H : Hp) (C : Addr) (cl : List (Str × Addr)) (fp : List Addr), PG (X.blk s H scope (compEnvC scope cl C X.env) fp) tg gt) (ht : ∀ (s : Shared) (H : Hp) (C : Addr) (cl : List (Str × Addr)) (fp : List Addr), PTs (X.blk s H scope (compEnvC scope cl C X.env) fp) ifs (lT X.K t))
    (he : ∀ (s : Shared) (H : Hp) (C : Addr) (cl : List (Str × Addr)) (fp : List Addr), PE (X.blk s H scope (compEnvC scope cl C X.env) fp) elt (lE X.K fe)) (hs : ∀ x, foldedSetIterable iter X.env x = pure x := by intro _; rfl) :
    PE X (.ListComp elt [⟨tg, iter, ifs, 0⟩] scope pos) (lE X.K (eLc fi g t fe (own.map (·.2)))) := pe_w (pe_lc hc hN hi ok hg ht he hs) fun _ _ _ h => l_lc gk h
theorem s_setLc {i : Nat} {y : Str} {py spos : Pos} (hc : X.calm = true) (hN : X.N.Nodup) (hy : X.N[i]? = some y) (hyl : X.env.scope.names.lookup y = some .local)
    (hsw : swapsWith (.ListComp elt [⟨tg, iter, ifs, 0⟩] scope pos) (some (.Name y py)) spos.line X.env = pure true) (hi : PI X tg iter (lI X.K fi)) (ok : BlkOk X.N X.env.scope scope own) (gk : GOk X.K (own.map (·.2)) gt g)
    (hg : ∀ (s : Shared) (H : Hp) (C : Addr) (cl : List (Str × Addr)) (fp : List Addr), PG (X.blk s H scope (compEnvC scope cl C X.env) fp) tg gt) (ht : ∀ (s : Shared) (H : Hp) (C : Addr) (cl : List (Str × Addr)) (fp : List Addr), PTs (X.blk s H scope (compEnvC scope cl C X.env) fp) ifs (lT X.K t))
    (he : ∀ (s : Shared) (H : Hp) (C : Addr) (cl : List (Str × Addr)) (fp : List Addr), PE (X.blk s H scope (compEnvC scope cl C X.env) fp) elt (lE X.K fe)) (hs : ∀ x, foldedSetIterable iter X.env x = pure x := by intro _; rfl) :
    PS X (.Assign [.Name y py] (.ListComp elt [⟨tg, iter, ifs, 0⟩] scope pos) spos) (lS X.K (sSet i (eLc fi g t fe (own.map (·.2))))) := ps_w (ps_setLc hc hN hy hyl hsw hi ok hg ht he hs) fun D σ H ⟨m, env, st, s, se, q⟩ => by
  unfold pS sSet at q
  rw [R.post_bind] at q
  refine l_lc gk (lE_then s se q fun d st1 H1 m1 v p hm hk s1 se1 rv => ?_)
  exact p H1 m1 hm hk s1 _ (se1.set rv i)
end

/-! ### defs -/
def startE (n : Nat) (ds : List D) : Env := ds.map some ++ List.replicate (n - ds.length) none
def mkF (n k : Nat) (b : DS) : DF := fun ds st => if ds.length = k then (b (startE n ds) st).bind fun fl st1 => match fl with
  | .rt d => .ok d st1
  | .nx _ => .ok .non st1
  | _ => .bad else .bad
theorem sim_start {K : PySem.W.Frag} {H : Hp} {m : List Addr} {N : List Str} {ds : List D} {vs : List V} (r : Reps K H m ds vs) : SimE K H m (startE N.length ds) (L2.start N vs) := by
  refine ⟨?_, fun i d e => ?_⟩
  · unfold startE L2.start; simp [r.len]
  · unfold startE at e
    unfold L2.start
    by_cases hi : i < ds.length
    · rw [List.getElem?_append_left (by simpa using hi), List.getElem?_map] at e
      cases hd : ds[i]? with
      | none => rw [hd] at e; cases e
      | some d' =>
        rw [hd] at e; cases e
        obtain ⟨v, h1, h2⟩ := r.get hd
        refine ⟨v, ?_, h2⟩
        rw [List.getElem?_append_left (by simpa [r.len] using hi), List.getElem?_map, h1] <;> rfl
    · rw [List.getElem?_append_right (by simpa using Nat.le_of_not_lt hi)] at e
      rw [List.getElem?_replicate] at e
      split at e <;> cases e
section
variable {P : Program} {w : World} {K : PySem.W.Frag} {mg : Str → Option Value} {base : Heap}
/-- a def, by its body -/
theorem fn_g {x qual : Str} {st : Stmt} {f : Addr} {fd : FuncData} {N ps : List Str} {k : Nat} {sp : Sp} (F : Fun K x qual st f fd) (S : FnScope N ps (defScope st)) (wide : ∀ vs H Q E, sp vs H Q E → vs.length = ps.length)
    (body : ∀ (cdv : Value) (A : Around) (outer : List PySem.Env) (s : Shared) (H : Hp) (vs : List V) (Q : VK), RoomG k (A.deeper (envOfC qual (defScope st) s.heap.objs.size f cdv)) → sp vs H Q E0 →
      ∃ t, PSs (cxOf CX0 P w K mg base N qual (defScope st) f cdv A outer s H E0).nox (defBody st) t ∧ t { nx := fun _ H' => Q .non H', rt := Q } (L2.start N vs) H) : FnG P w K mg base (k + 1) f fd ps sp := by
  obtain ⟨oc, od, kV, doc, pm, an, cdv, ct, osl, e, lk, cod⟩ := F.ex
  subst e
  refine ⟨wide, fun A outer s H args us vs Q hr e0 bind rv told => ?_⟩
  have inK : K.In s.heap := e0.mod.kin.keeps fun b o h => (e0.bs b o h).1
  have lim : s.heap.NoLimit := e0.mod.nolimit.keeps fun b o h => (e0.bs b o h).1
  have kinds : ∀ y ∈ ps.zip us, (defScope st).names.lookup y.1 = some .local ∨ ((defScope st).names.lookup y.1 = some .cell ∧ ((cellsFrom (s.heap.objs.size + 1) (defScope st).names []).lookup y.1).isSome = true) := by
    intro y hy
    rcases S.par y.1 (List.of_mem_zip (show (y.1, y.2) ∈ ps.zip us from hy)).1 with q | q
    · exact .inl q
    · exact .inr ⟨q, PySem.W.cellsFrom_some _ _ _ (.inl q)⟩
  have deep : RoomG k (A.deeper (envOfC qual (defScope st) s.heap.objs.size f cdv)) := ⟨hr.room.deeper _, hr.gd⟩
  obtain ⟨t, ht, hq⟩ := body cdv A outer s H vs Q deep told
  refine codeAny_call_function hr.room.depth (inK _ _ lk) rfl S.co S.gen rfl (PySem.W.codeRec_of inK cod) (bind _ _ _ _ (wpAny_newFunctionEnv_cells S.kind kinds fun env he s1 x => ?_))
  subst he
  have J : L2.Inv (cxOf CX0 P w K mg base N qual (defScope st) f cdv A outer s H E0) [] (L2.start N vs) H s1 := inv_start S hr.room.hd e0 (wide _ _ _ _ told) rv x
  refine ⟨lim.keeps x.toInCall.keep, codeAny_func (wpAny_mono (ht.nox.run [] s1 _ H _ J hq) (fun fl s2 h => ?_) fun e s2 h => h)⟩
  cases fl with
  | ret u => obtain ⟨v, σ', H', I, r, q⟩ := h; exact ⟨v, H', I.os, I.bare, I.base, I.hok, r, q⟩
  | next => obtain ⟨σ', H', I, q⟩ := h; exact ⟨.non, H', I.os, I.bare, I.base, I.hok, rfl, q⟩
  | brk => obtain ⟨_, _, _, q⟩ := h; exact False.elim q
  | cont => obtain ⟨_, _, _, q⟩ := h; exact False.elim q
theorem fn_d {x qual : Str} {st : Stmt} {f : Addr} {fd : FuncData} {N ps : List Str} {k n p : Nat} {b : DS} (F : Fun K x qual st f fd) (S : FnScope N ps (defScope st))
    (hbody : ∀ (cdv : Value) (A : Around) (outer : List PySem.Env) (s : Shared) (H : Hp), RoomG k (A.deeper (envOfC qual (defScope st) s.heap.objs.size f cdv)) →
      PSs (cxOf CX0 P w K mg base N qual (defScope st) f cdv A outer s H E0).nox (defBody st) (lS K b)) (hN : N.length = n := by rfl) (hP : ps.length = p := by rfl) : FnD P w K mg base (k + 1) f fd ps (mkF n p b) := by
  subst hN hP
  refine fn_g F S (fun vs H Q E h => h.1) fun cdv A outer s H vs Q hr told => ⟨_, hbody cdv A outer s H hr, ?_⟩
  obtain ⟨hl, m, ds, st1, sm, rs, q⟩ := told
  unfold pE mkF at q
  rw [if_pos (by rw [← rs.len]; exact hl), R.post_bind] at q
  refine ⟨m, startE N.length ds, st1, sm, sim_start rs, R.post_mono q fun fl st2 p H2 m2 hm hk s2 => ?_⟩
  cases fl with
  | nx env => exact fun σ _ => p H2 m2 hm hk s2 .non .non
  | rt d => exact p H2 m2 hm hk s2
  | bk env => exact False.elim p
  | ct env => exact False.elim p
end
end DL

namespace DL
open PySem PySem.Spec PyProof.Rows L2

/-! ### data as the model's data -/
def pyAll (f : D → Option PyData) : List D → Option (List PyData)
  | [] => some []
  | x :: xs => match f x, pyAll f xs with
    | some a, some as => some (a :: as)
    | _, _ => none
def toPy (st : Sto) : Nat → D → Option PyData
  | _, .non => some .none
  | _, .bl b => some (.bool b)
  | _, .int i => some (.int i)
  | _, .str x => some (.str x)
  | n + 1, .tup xs => (pyAll (toPy st n) xs).map .tuple
  | n + 1, .ro xs => (pyAll (toPy st n) xs).map .list
  | n + 1, .ref i => match st[i]? with
    | some (.lst xs) => (pyAll (toPy st n) xs).map .list
    | none => none
  | 0, _ => none
theorem pyAll_dp {K : PySem.W.Frag} {H : Hp} {m : List Addr} {f : D → Option PyData} : ∀ {ds : List D} {vs : List V} {ps : List PyData}, (∀ d p v, f d = some p → Rep K H m d v → Dp K H v p) → pyAll f ds = some ps → Reps K H m ds vs → DpAll K H vs ps
  | _, _, _, _, e, .nil => by cases e; exact .nil
  | d :: ds, v :: vs, ps, h, e, .cons r rs => by
    unfold pyAll at e
    split at e
    · rename_i a as e1 e2
      cases e
      exact .cons (h d a v e1 r) (pyAll_dp h e2 rs)
    · cases e
theorem toPy_dp {K : PySem.W.Frag} {H : Hp} {m : List Addr} {st : Sto} (s : Sim K H m st) : ∀ (n : Nat) (d : D) (p : PyData) (v : V), toPy st n d = some p → Rep K H m d v → Dp K H v p := by
  intro n
  induction n with
  | zero =>
    intro d p v e r
    cases r <;> simp only [toPy] at e <;> cases e
    · exact .non
    · exact .bl _
    · exact .int _
    · exact .str _
  | succ n ih =>
    intro d p v e r
    cases r with
    | non => simp only [toPy] at e; cases e; exact .non
    | bl b => simp only [toPy] at e; cases e; exact .bl _
    | int i => simp only [toPy] at e; cases e; exact .int _
    | str x => simp only [toPy] at e; cases e; exact .str _
    | @tup a vs ds sq rs =>
      simp only [toPy, Option.map_eq_some_iff] at e
      obtain ⟨ps, e1, e2⟩ := e
      subst e2
      exact .tup sq (pyAll_dp ih e1 rs)
    | @ro a vs ds sq rs =>
      simp only [toPy, Option.map_eq_some_iff] at e
      obtain ⟨ps, e1, e2⟩ := e
      subst e2
      exact .lst sq.sq (pyAll_dp ih e1 rs)
    | @ref a i hi =>
      simp only [toPy] at e
      split at e
      · rename_i xs hx
        obtain ⟨ps, e1, e2⟩ := Option.map_eq_some_iff.mp e
        subst e2
        obtain ⟨a', vs, h1, h2, rs⟩ := s.ref hx
        rw [hi] at h1; cases h1
        exact .lst (.inl (.inl h2)) (pyAll_dp ih e1 rs)
      · cases e
theorem pyAll_depth {f : D → Option PyData} {n : Nat} (h : ∀ d p, f d = some p → p.depth ≤ n) : ∀ {ds : List D} {ps : List PyData}, pyAll f ds = some ps → PyData.depthAll ps ≤ n
  | [], _, e => by cases e; simp [PyData.depthAll]
  | d :: ds, ps, e => by
    unfold pyAll at e
    split at e
    · rename_i a as e1 e2
      cases e
      have h1 := h d a e1
      have h2 := pyAll_depth h e2
      simp only [PyData.depthAll]
      omega
    · cases e
theorem toPy_depth {st : Sto} : ∀ (n : Nat) (d : D) (p : PyData), toPy st n d = some p → p.depth ≤ n := by
  intro n
  induction n with
  | zero =>
    intro d p e
    cases d <;> simp only [toPy] at e <;> cases e <;> simp [PyData.depth]
  | succ n ih =>
    intro d p e
    cases d with
    | tup xs =>
      simp only [toPy, Option.map_eq_some_iff] at e
      obtain ⟨ps, e1, e2⟩ := e
      subst e2
      have := pyAll_depth ih e1
      simp only [PyData.depth]; omega
    | ro xs =>
      simp only [toPy, Option.map_eq_some_iff] at e
      obtain ⟨ps, e1, e2⟩ := e
      subst e2
      have := pyAll_depth ih e1
      simp only [PyData.depth]; omega
    | ref i =>
      simp only [toPy] at e
      split at e
      · obtain ⟨ps, e1, e2⟩ := Option.map_eq_some_iff.mp e
        subst e2
        have := pyAll_depth ih e1
        simp only [PyData.depth]; omega
      · cases e
    | _ => simp only [toPy] at e; cases e; simp [PyData.depth]

/-! ### equality, membership -/
/-- how deep data are compared -/
def eqFuel : Nat := 120
def dEqv (x y : D) (st : Sto) (k : Bool → D) : R D := match x, y with
  | .int i, .int j => .ok (k (decide (i = j))) st
  | .str a, .str b => .ok (k (decide (a = b))) st
  | x, y => match toPy st eqFuel x, toPy st eqFuel y with
    | some a, some b => if a.canLay0 = true ∧ b.canLay0 = true then .ok (k (PyData.eqv a b)) st else .bad
    | _, _ => .bad
def dEq : DOp := fun x y st => dEqv x y st .bl
def dNe : DOp := fun x y st => dEqv x y st fun b => .bl (!b)
section
variable {X : Cx}
theorem opr_eqv {op : CmpOp} {f : Bool → Bool} (k : Nat) (hr : RoomG k X.A) (rs : OpR X (compareOp op) fun x y H Q => scal x y = true ∧ Q (.bl (f (decide (x = y)))) H)
    (rule : ∀ {s : Shared} {a b : Value} {da db : PyData} {as bs : List Addr} {Q : Value → Shared → Prop}, Reads s.heap a da as → Reads s.heap b db bs → da.canLay0 = true → db.canLay0 = true → X.A.units + min da.depth db.depth < cLine → Q (.bool (f (PyData.eqv da db))) s →
      wpAny (model X.prog X.w) X.A (compareOp op a b) Q X.xe s) : OpR X (compareOp op) (lOp X.K fun x y st => dEqv x y st fun b => .bl (f b)) := by
  intro pins s σ H x y v u Q I rx ry ⟨m, dx, dy, st, sm, r1, r2, q⟩
  unfold pE dEqv at q
  dsimp only at q
  split at q
  · cases r1; cases r2
    refine rs pins s σ H _ _ v u Q I rx ry ⟨rfl, ?_⟩
    rw [show decide (V.int _ = V.int _) = decide (_ = _) from decide_eq_decide.mpr ⟨fun e => V.int.inj e, fun e => congrArg _ e⟩]
    exact q H m (List.prefix_refl _) (Kp.refl _) sm _ (.bl _)
  · cases r1; cases r2
    refine rs pins s σ H _ _ v u Q I rx ry ⟨rfl, ?_⟩
    rw [show decide (V.str _ = V.str _) = decide (_ = _) from decide_eq_decide.mpr ⟨fun e => V.str.inj e, fun e => congrArg _ e⟩]
    exact q H m (List.prefix_refl _) (Kp.refl _) sm _ (.bl _)
  split at q
  · rename_i a b e1 e2
    split at q
    · rename_i hl
      obtain ⟨as, ra⟩ := Dp.reads I a x v (toPy_dp sm _ _ _ _ e1 r1) rx
      obtain ⟨bs, rb⟩ := Dp.reads I b y u (toPy_dp sm _ _ _ _ e2 r2) ry
      have h1 := toPy_depth _ _ _ e1
      have hu := hr.un
      unfold eqFuel at h1
      exact rule ra rb hl.1 hl.2 (by omega) ⟨.bl _, H, I, rfl, q H m (List.prefix_refl _) (Kp.refl _) sm _ (.bl _)⟩
    · exact False.elim q
  · exact False.elim q
theorem o_eq {k : Nat} (hr : RoomG k X.A) : OpR X (compareOp .Eq) (lOp X.K dEq) := opr_eqv (f := fun b => b) k hr op_eq fun ra rb h1 h2 hu q => SeqAt.compareEq_reads ra rb h1 h2 hu q
theorem o_ne {k : Nat} (hr : RoomG k X.A) : OpR X (compareOp .NotEq) (lOp X.K dNe) := opr_eqv (f := fun b => !b) k hr op_ne fun ra rb h1 h2 hu q => SeqAt.compareNe_reads ra rb h1 h2 hu q

/-- a rule of the layer as one over data -/
theorem opr_of {f : Value → Value → Sem Value} {r : R2} {d : DOp} (h : OpR X f r) (w : ∀ x y H Q, lOp X.K d x y H Q → r x y H Q) : OpR X f (lOp X.K d) := fun pins s σ H x y v u Q I rx ry q => h pins s σ H x y v u Q I rx ry (w _ _ _ _ q)
theorem unr_of {f : Value → Sem Value} {r : V → Hp → VK → Prop} {d : D → Sto → R D} (h : UnR X f r) (w : ∀ x H Q, lUn X.K d x H Q → r x H Q) : UnR X f (lUn X.K d) := fun pins s σ H x v Q I rx q => h pins s σ H x v Q I rx (w _ _ _ q)
theorem cr_of {f : Value} {r : List V → Hp → VK → Prop} {d : DF} (h : CallR X f r) (w : ∀ xs H Q, lCB X.K d xs H Q → r xs H Q) : CallR X f (lCB X.K d) := fun pins s σ H xs us Q I rx q => h pins s σ H xs us Q I rx (w _ _ _ q)
theorem mt_of {id : String} {r : V → List V → Hp → VK → Prop} {d : DM} (h : MtR X id r) (w : ∀ x xs H Q, lBM X.K d x xs H Q → r x xs H Q) : MtR X id (lBM X.K d) := fun pins s σ H x xs v us Q I r1 r2 q => h pins s σ H x xs v us Q I r1 r2 (w _ _ _ _ q)
/-- an answer where nothing changes -/
theorem pE_here {K : PySem.W.Frag} {H : Hp} {m : List Addr} {st : Sto} {d : D} {Q : VK} {v : V} (s : Sim K H m st) (h : pE K H m (.ok d st) Q) (r : Rep K H m d v) : Q v H := h H m (List.prefix_refl _) (Kp.refl _) s v r
theorem pE_new {K : PySem.W.Frag} {H : Hp} {m : List Addr} {st : Sto} {ds : List D} {vs : List V} {Q : VK} {p : Addr} (s : Sim K H m st) (h : pE K H m (.ok (.ref st.length) (st ++ [.lst ds])) Q) (r : Reps K H m ds vs) (hp : H p = none) : Q (.ref p) (upd H p (.lst vs)) := by
  obtain ⟨s2, m2, k2, r2⟩ := s.new hp r
  exact h _ _ m2 k2 s2 _ r2
theorem pE_tup {K : PySem.W.Frag} {H : Hp} {m : List Addr} {st : Sto} {ds : List D} {vs : List V} {Q : VK} {p : Addr} (s : Sim K H m st) (h : pE K H m (.ok (.tup ds) st) Q) (r : Reps K H m ds vs) (hp : H p = none) : Q (.ref p) (upd H p (.tup vs)) := by
  obtain ⟨s2, k2⟩ := s.keep (o := .tup vs) hp (fun _ z => by cases z)
  exact h _ m (List.prefix_refl _) k2 s2 _ (.tup (.inl (.inl upd_same)) (r.up k2 (List.prefix_refl _)))
theorem pE_put {K : PySem.W.Frag} {H : Hp} {m : List Addr} {st : Sto} {i : Nat} {a : Addr} {ds : List D} {xs vs : List V} {d : D} {v : V} {Q : VK} (s : Sim K H m st) (h : pE K H m (.ok d (st.set i (.lst ds))) Q) (e : m[i]? = some a) (ha : H a = some (.lst xs)) (r : Reps K H m ds vs) (rd : Rep K H m d v) : Q v (upd H a (.lst vs)) := by
  obtain ⟨s2, k2⟩ := s.put e ha r
  exact h _ m (List.prefix_refl _) k2 s2 _ (rd.up k2 (List.prefix_refl _))

/-! ### arithmetic -/
instance (i j : Int) : Decidable (CMulW i j) := by unfold CMulW; exact inferInstance
instance (i j : Int) : Decidable (CDivW i j) := by unfold CDivW; exact inferInstance
instance (i j : Int) : Decidable (CPow i j) := by unfold CPow; exact inferInstance
def dAdd : DOp := fun x y st => match x, y with
  | .int i, .int j => .ok (.int (i + j)) st
  | .str a, .str b => if a.length + b.length ≤ sizeLine then .ok (.str (a ++ b)) st else .bad
  | .tup xs, .tup ys => if xs.length + ys.length ≤ sizeLine then .ok (.tup (xs ++ ys)) st else .bad
  | .ref i, .ref j => match st[i]?, st[j]? with
    | some (.lst xs), some (.lst ys) => if xs.length + ys.length ≤ sizeLine then .ok (.ref st.length) (st ++ [.lst (xs ++ ys)]) else .bad
    | _, _ => .bad
  | _, _ => .bad
theorem o_add : OpR X (binaryOp .Add) (lOp X.K dAdd) := by
  intro pins s σ H x y v u Q I rx ry ⟨m, dx, dy, st, sm, r1, r2, q⟩
  unfold pE dAdd at q
  split at q
  · cases r1; cases r2
    exact op_add pins s σ H _ _ v u Q I rx ry ⟨_, _, rfl, rfl, pE_here sm q (.int _)⟩
  · cases r1; cases r2
    split at q
    · rename_i hl
      exact op_add_str pins s σ H _ _ v u Q I rx ry ⟨_, _, rfl, rfl, hl, pE_here sm q (.str _)⟩
    · exact False.elim q
  · cases r1 with
    | @tup a vs ds sq rs =>
      cases r2 with
      | @tup b ws es sq2 rs2 =>
        split at q
        · rename_i hl
          refine op_catA pins s σ H _ _ v u Q I rx ry ⟨a, b, vs, ws, rfl, rfl, sq, sq2, by rw [rs.len, rs2.len]; exact hl, fun e => ?_, fun _ e => ?_, fun _ _ p hp => ?_⟩
          · subst e
            cases rs
            exact pE_here sm q (.tup sq2 rs2)
          · subst e
            cases rs2
            rw [List.append_nil] at q
            exact pE_here sm q (.tup sq rs)
          · exact pE_tup sm q (rs.app rs2) hp
        · exact False.elim q
  · cases r1 with
    | @ref a i hi =>
      cases r2 with
      | @ref b j hj =>
        split at q
        · rename_i xs ys e1 e2
          split at q
          · rename_i hl
            obtain ⟨a', vs, g1, g2, g3⟩ := sm.ref e1
            rw [hi] at g1; cases g1
            obtain ⟨b', ws, k1, k2, k3⟩ := sm.ref e2
            rw [hj] at k1; cases k1
            exact op_cat pins s σ H _ _ v u Q I rx ry ⟨a, b, vs, ws, rfl, rfl, g2, k2, by rw [g3.len, k3.len]; exact hl, fun p hp => pE_new sm q (g3.app k3) hp⟩
          · exact False.elim q
        · exact False.elim q
  · exact False.elim q
/-- two ints -/
def dI2 (C : Int → Int → Prop) [∀ i j, Decidable (C i j)] (g : Int → Int → D) : DOp := fun x y st => match x, y with
  | .int i, .int j => if C i j then .ok (g i j) st else .bad
  | _, _ => .bad
theorem o_i2 {f : Value → Value → Sem Value} {C : Int → Int → Prop} [∀ i j, Decidable (C i j)] {g : Int → Int → D} {gv : Int → Int → V} (h : OpR X f (rI C gv)) (hg : ∀ i j H m, Rep X.K H m (g i j) (gv i j)) : OpR X f (lOp X.K (dI2 C g)) := opr_of h fun x y H Q ⟨m, dx, dy, st, sm, r1, r2, q⟩ => by
  unfold pE dI2 at q
  split at q
  · cases r1; cases r2
    split at q
    · rename_i hc
      exact ⟨_, _, rfl, rfl, hc, pE_here sm q (hg _ _ _ _)⟩
    · exact False.elim q
  · exact False.elim q
theorem o_i20 {f : Value → Value → Sem Value} {g : Int → Int → D} {gv : Int → Int → V} (h : OpR X f (rI0 gv)) (hg : ∀ i j H m, Rep X.K H m (g i j) (gv i j)) : OpR X f (lOp X.K (dI2 (fun _ _ => True) g)) := opr_of h fun x y H Q ⟨m, dx, dy, st, sm, r1, r2, q⟩ => by
  unfold pE dI2 at q
  split at q
  · cases r1; cases r2
    rw [if_pos trivial] at q
    exact ⟨_, _, rfl, rfl, pE_here sm q (hg _ _ _ _)⟩
  · exact False.elim q
def dSub : DOp := dI2 (fun _ _ => True) fun i j => .int (i - j)
theorem o_sub : OpR X (binaryOp .Sub) (lOp X.K dSub) := o_i20 op_sub fun i j H m => .int _
def dMulI : DOp := dI2 CMulW fun i j => .int (i * j)
theorem o_mulI : OpR X (binaryOp .Mult) (lOp X.K dMulI) := o_i2 op_mulW fun i j H m => .int _
def dMul : DOp := fun x y st => match x, y with
  | .int i, .int j => if CMulW i j then .ok (.int (i * j)) st else .bad
  | .ref a, .int k => match st[a]? with
    | some (.lst xs) => if -(2 ^ 63) ≤ k ∧ k < 2 ^ 63 ∧ xs.length * k.toNat ≤ sizeLine then .ok (.ref st.length) (st ++ [.lst (List.replicate k.toNat xs).flatten]) else .bad
    | none => .bad
  | .str a, .int k => .bad
  | _, _ => .bad
theorem Reps.rep {K : PySem.W.Frag} {H : Hp} {m : List Addr} {ds : List D} {vs : List V} (r : Reps K H m ds vs) : ∀ n : Nat, Reps K H m (List.replicate n ds).flatten (List.replicate n vs).flatten
  | 0 => .nil
  | n + 1 => by
    rw [List.replicate_succ, List.replicate_succ, List.flatten_cons, List.flatten_cons]
    exact r.app (Reps.rep r n)
theorem o_mul : OpR X (binaryOp .Mult) (lOp X.K dMul) := by
  intro pins s σ H x y v u Q I rx ry ⟨m, dx, dy, st, sm, r1, r2, q⟩
  unfold pE dMul at q
  split at q
  · cases r1; cases r2
    split at q
    · rename_i hc
      exact op_mulW pins s σ H _ _ v u Q I rx ry ⟨_, _, rfl, rfl, hc, pE_here sm q (.int _)⟩
    · exact False.elim q
  · cases r1 with
    | @ref a i hi =>
      cases r2
      split at q
      · rename_i xs e1
        split at q
        · rename_i hl
          obtain ⟨a', vs, g1, g2, g3⟩ := sm.ref e1
          rw [hi] at g1; cases g1
          exact op_rep pins s σ H _ _ v u Q I rx ry ⟨a, _, vs, rfl, rfl, g2, hl.1, hl.2.1, by rw [g3.len]; exact hl.2.2, fun p hp => pE_new sm q (g3.rep _) hp⟩
        · exact False.elim q
      · exact False.elim q
  · exact False.elim q
  · exact False.elim q
def dFdiv : DOp := dI2 CDivW fun i j => .int (i / j)
theorem o_fdiv : OpR X (binaryOp .FloorDiv) (lOp X.K dFdiv) := o_i2 op_fdivW fun i j H m => .int _
def dMod : DOp := dI2 (fun _ j => 0 < j) fun i j => .int (i % j)
theorem o_mod : OpR X (binaryOp .Mod) (lOp X.K dMod) := o_i2 op_mod fun i j H m => .int _
def dPow : DOp := dI2 CPow fun i j => .int (i ^ j.toNat)
theorem o_pow : OpR X (binaryOp .Pow) (lOp X.K dPow) := o_i2 op_pow fun i j H m => .int _
def dNeg : D → Sto → R D := fun x st => match x with
  | .int i => .ok (.int (-i)) st
  | _ => .bad
theorem u_neg : UnR X (unaryOp .USub) (lUn X.K dNeg) := unr_of un_neg fun x H Q ⟨m, dx, st, sm, r, q⟩ => by
  unfold pE dNeg at q
  split at q
  · cases r; exact ⟨_, rfl, pE_here sm q (.int _)⟩
  · exact False.elim q

/-! ### order -/
/-- ints, or texts -/
def dCmp (pi : Int → Int → Bool) (ps : List Nat → List Nat → Bool) : DOp := fun x y st => match x, y with
  | .int i, .int j => .ok (.bl (pi i j)) st
  | .str a, .str b => .ok (.bl (ps a.cps.toList b.cps.toList)) st
  | _, _ => .bad
def dLt : DOp := dCmp (fun i j => decide (i < j)) fun a b => decide (a < b)
def dLe : DOp := dCmp (fun i j => decide (i ≤ j)) fun a b => !decide (b < a)
def dGt : DOp := dCmp (fun i j => decide (j < i)) fun a b => decide (b < a)
def dGe : DOp := dCmp (fun i j => decide (j ≤ i)) fun a b => !decide (a < b)
theorem o_cmp {op : CmpOp} {pi : Int → Int → Bool} {ps : List Nat → List Nat → Bool} (h1 : OpR X (compareOp op) (rI0 fun i j => .bl (pi i j)))
    (h2 : OpR X (compareOp op) (fun x y H Q => ∃ i j, x = .str i ∧ y = .str j ∧ Q (.bl (ps i.cps.toList j.cps.toList)) H)) : OpR X (compareOp op) (lOp X.K (dCmp pi ps)) := by
  intro pins s σ H x y v u Q I rx ry ⟨m, dx, dy, st, sm, r1, r2, q⟩
  unfold pE dCmp at q
  split at q
  · cases r1; cases r2
    exact h1 pins s σ H _ _ v u Q I rx ry ⟨_, _, rfl, rfl, pE_here sm q (.bl _)⟩
  · cases r1; cases r2
    exact h2 pins s σ H _ _ v u Q I rx ry ⟨_, _, rfl, rfl, pE_here sm q (.bl _)⟩
  · exact False.elim q
theorem o_lt : OpR X (compareOp .Lt) (lOp X.K dLt) := o_cmp op_lt op_lt_str
theorem o_le : OpR X (compareOp .LtE) (lOp X.K dLe) := o_cmp op_le op_le_str
theorem o_gt : OpR X (compareOp .Gt) (lOp X.K dGt) := o_cmp op_gt op_gt_str
theorem o_ge : OpR X (compareOp .GtE) (lOp X.K dGe) := o_cmp op_ge op_ge_str
/-- is None -/
def D.isNon : D → Bool
  | .non => true
  | _ => false
def dIsN (f : Bool → Bool) : DOp := fun x y st => match y with
  | .non => .ok (.bl (f x.isNon)) st
  | _ => .bad
theorem Rep.isNon {K : PySem.W.Frag} {H : Hp} {m : List Addr} {d : D} {v : V} (r : Rep K H m d v) : decide (v = .non) = d.isNon := by cases r <;> simp [D.isNon]
theorem o_is : OpR X (compareOp .Is) (lOp X.K (dIsN fun b => b)) := opr_of op_isN fun x y H Q ⟨m, dx, dy, st, sm, r1, r2, q⟩ => by
  unfold pE dIsN at q
  split at q
  · cases r2; exact ⟨rfl, by rw [r1.isNon]; exact pE_here sm q (.bl _)⟩
  · exact False.elim q
theorem o_isnot : OpR X (compareOp .IsNot) (lOp X.K (dIsN fun b => !b)) := opr_of op_notN fun x y H Q ⟨m, dx, dy, st, sm, r1, r2, q⟩ => by
  unfold pE dIsN at q
  split at q
  · cases r2; exact ⟨rfl, by rw [r1.isNon]; exact pE_here sm q (.bl _)⟩
  · exact False.elim q
end
end DL

namespace DL
open PySem PySem.Spec PyProof.Rows L2
section
variable {X : Cx}
/-! ### in -/
def dInK (x y : D) (st : Sto) (f : Bool → Bool) : R D := match x, y with
  | .str a, .str b => .ok (.bl (f (!(Builtin.Str.occurrences b a 0 b.length 1).isEmpty))) st
  | _, _ => match toPy st eqFuel x, toPy st eqFuel y with
    | some a, some (.list bs) => if a.canLay0 = true ∧ PyData.canLayAll0 bs = true then .ok (.bl (f (bs.any fun b => PyData.eqv b a))) st else .bad
    | some a, some (.tuple bs) => if a.canLay0 = true ∧ PyData.canLayAll0 bs = true then .ok (.bl (f (bs.any fun b => PyData.eqv b a))) st else .bad
    | _, _ => .bad
def dIn : DOp := fun x y st => dInK x y st fun b => b
def dNotIn : DOp := fun x y st => dInK x y st fun b => !b
theorem opr_in {op : CmpOp} {f : Bool → Bool} {k : Nat} (hr : RoomG k X.A) (hs : OpR X (compareOp op) fun x y H Q => ∃ i j, x = .str i ∧ y = .str j ∧ Q (.bl (f (!(Builtin.Str.occurrences j i 0 j.length 1).isEmpty))) H)
    (hl : ∀ {s : Shared} {c x : Value} {xs : List PyData} {d : PyData} {as bs : List Addr} {Q : Value → Shared → Prop}, Reads s.heap c (.list xs) as → Reads s.heap x d bs → PyData.canLayAll0 xs = true → d.canLay0 = true → X.A.units + 1 + min (PyData.depthAll xs) d.depth < cLine →
      Q (.bool (f (xs.any fun y => PyData.eqv y d))) s → wpAny (model X.prog X.w) X.A (compareOp op x c) Q X.xe s)
    (ht : ∀ {s : Shared} {c x : Value} {xs : List PyData} {d : PyData} {as bs : List Addr} {Q : Value → Shared → Prop}, Reads s.heap c (.tuple xs) as → Reads s.heap x d bs → PyData.canLayAll0 xs = true → d.canLay0 = true → X.A.units + 1 + min (PyData.depthAll xs) d.depth < cLine →
      Q (.bool (f (xs.any fun y => PyData.eqv y d))) s → wpAny (model X.prog X.w) X.A (compareOp op x c) Q X.xe s) : OpR X (compareOp op) (lOp X.K fun x y st => dInK x y st f) := by
  intro pins s σ H x y v u Q I rx ry ⟨m, dx, dy, st, sm, r1, r2, q⟩
  unfold pE dInK at q
  dsimp only at q
  have hu := hr.un
  split at q
  · cases r1; cases r2
    exact hs pins s σ H _ _ v u Q I rx ry ⟨_, _, rfl, rfl, pE_here sm q (.bl _)⟩
  · split at q
    · rename_i a bs e1 e2
      split at q
      · rename_i hc
        obtain ⟨as, ra⟩ := Dp.reads I a x v (toPy_dp sm _ _ _ _ e1 r1) rx
        obtain ⟨cs, rc⟩ := Dp.reads I _ y u (toPy_dp sm _ _ _ _ e2 r2) ry
        have h1 := toPy_depth _ _ _ e1
        unfold eqFuel at h1
        exact hl rc ra hc.2 hc.1 (by omega) ⟨.bl _, H, I, rfl, pE_here sm q (.bl _)⟩
      · exact False.elim q
    · rename_i a bs e1 e2
      split at q
      · rename_i hc
        obtain ⟨as, ra⟩ := Dp.reads I a x v (toPy_dp sm _ _ _ _ e1 r1) rx
        obtain ⟨cs, rc⟩ := Dp.reads I _ y u (toPy_dp sm _ _ _ _ e2 r2) ry
        have h1 := toPy_depth _ _ _ e1
        unfold eqFuel at h1
        exact ht rc ra hc.2 hc.1 (by omega) ⟨.bl _, H, I, rfl, pE_here sm q (.bl _)⟩
      · exact False.elim q
    · exact False.elim q
theorem o_in {k : Nat} (hr : RoomG k X.A) : OpR X (compareOp .In) (lOp X.K dIn) := opr_in (f := fun b => b) hr op_in_str (fun a b c d e q => SeqAt.in_list_reads a b c d e q) (fun a b c d e q => SeqAt.in_tuple_reads a b c d e q)
theorem o_notin {k : Nat} (hr : RoomG k X.A) : OpR X (compareOp .NotIn) (lOp X.K dNotIn) := opr_in (f := fun b => !b) hr op_notin_str (fun a b c d e q => SeqAt.notIn_list_reads a b c d e q) (fun a b c d e q => SeqAt.notIn_tuple_reads a b c d e q)

/-! ### subscripts -/
def dIx : DOp := fun x y st => match x, y with
  | .tup xs, .int i => match atI xs i with
    | some d => .ok d st
    | none => .bad
  | .ro xs, .int i => match atI xs i with
    | some d => .ok d st
    | none => .bad
  | .ref a, .int i => match st[a]? with
    | some (.lst xs) => match atI xs i with
      | some d => .ok d st
      | none => .bad
    | none => .bad
  | .str x, .int i => if x.length ≤ sizeLine then match atI x.cps.toList i with
      | some c => .ok (.str ⟨#[c]⟩) st
      | none => .bad
    else .bad
  | _, _ => .bad
theorem Reps.at {K : PySem.W.Frag} {H : Hp} {m : List Addr} {ds : List D} {vs : List V} {i : Int} {d : D} (r : Reps K H m ds vs) (e : atI ds i = some d) : ∃ v, atI vs i = some v ∧ Rep K H m d v := by
  unfold atI at e ⊢
  rw [r.len]
  cases h : ixN ds.length i with
  | none => rw [h] at e; cases e
  | some j =>
    rw [h] at e
    exact r.get (i := j) e
theorem i_ix : IxR X (lOp X.K dIx) := by
  intro value slice pins s σ H x y v u Q I rx ry ⟨m, dx, dy, st, sm, r1, r2, q⟩ hsub
  unfold pE dIx at q
  split at q
  · cases r2
    cases r1 with
    | @tup a vs ds sq rs =>
      split at q
      · rename_i d e
        obtain ⟨w, h1, h2⟩ := rs.at e
        exact ix_tup value slice pins s σ H _ _ v u Q I rx ry ⟨a, vs, _, w, rfl, rfl, sq, h1, pE_here sm q h2⟩ hsub
      · exact False.elim q
  · cases r2
    cases r1 with
    | @ro a vs ds sq rs =>
      split at q
      · rename_i d e
        obtain ⟨w, h1, h2⟩ := rs.at e
        exact ix_list value slice pins s σ H _ _ v u Q I rx ry ⟨a, vs, _, w, rfl, rfl, sq.sq, h1, pE_here sm q h2⟩ hsub
      · exact False.elim q
  · cases r2
    cases r1 with
    | @ref a i hi =>
      split at q
      · rename_i xs hx
        split at q
        · rename_i d e
          obtain ⟨a', vs, g1, g2, rs⟩ := sm.ref hx
          rw [hi] at g1; cases g1
          obtain ⟨w, h1, h2⟩ := rs.at e
          exact ix_list value slice pins s σ H _ _ v u Q I rx ry ⟨a, vs, _, w, rfl, rfl, .inl (.inl g2), h1, pE_here sm q h2⟩ hsub
        · exact False.elim q
      · exact False.elim q
  · cases r1; cases r2
    split at q
    · rename_i hl
      split at q
      · rename_i c e
        exact ix_str value slice pins s σ H _ _ v u Q I rx ry ⟨_, _, c, rfl, rfl, hl, e, pE_here sm q (.str _)⟩ hsub
      · exact False.elim q
    · exact False.elim q
  · exact False.elim q

/-! ### slices -/
def cutD (xs : List D) (lo hi : Option Int) : List D := (xs.drop (HT.sIx xs.length 0 lo)).take (HT.sIx xs.length xs.length hi - HT.sIx xs.length 0 lo)
theorem Reps.cut {K : PySem.W.Frag} {H : Hp} {m : List Addr} {ds : List D} {vs : List V} (r : Reps K H m ds vs) (lo hi : Option Int) : Reps K H m (cutD ds lo hi) (cutV vs lo hi) := by
  unfold cutD cutV
  rw [r.len]
  exact (r.drop _).take _
def dSl : DSl := fun x lo hi st => match x with
  | .tup xs => .ok (.tup (cutD xs lo hi)) st
  | .ro xs => .ok (.ref st.length) (st ++ [.lst (cutD xs lo hi)])
  | .ref a => match st[a]? with
    | some (.lst xs) => .ok (.ref st.length) (st ++ [.lst (cutD xs lo hi)])
    | none => .bad
  | .str x => if x.length ≤ sizeLine then .ok (.str (cutS x lo hi)) st else .bad
  | _ => .bad
theorem cutV_all {vs : List V} {lo hi : Option Int} (h : HT.sIx vs.length 0 lo = 0 ∧ HT.sIx vs.length vs.length hi = vs.length) : cutV vs lo hi = vs := by
  unfold cutV
  rw [h.1, h.2]
  simp
theorem r_sl : SlR X (lSl X.K dSl) := by
  intro pins s σ H x v vl vu lo hi sl Q I rx hs pl pu ⟨m, dx, st, sm, r1, q⟩
  unfold pE dSl at q
  split at q
  · cases r1 with
    | @tup a vs ds sq rs =>
      refine sl_tupA pins s σ H _ v vl vu lo hi sl Q I rx hs pl pu ⟨a, vs, rfl, sq, fun hw => ?_, fun _ p hp => pE_tup sm q (rs.cut lo hi) hp⟩
      exact pE_here sm q (.tup sq (by have := rs.cut lo hi; rw [cutV_all hw] at this; exact this))
  · cases r1 with
    | @ro a vs ds sq rs => exact sl_list pins s σ H _ v vl vu lo hi sl Q I rx hs pl pu ⟨a, vs, rfl, sq.sq, fun p hp => pE_new sm q (rs.cut lo hi) hp⟩
  · cases r1 with
    | @ref a i hi' =>
      split at q
      · rename_i xs hx
        obtain ⟨a', vs, g1, g2, rs⟩ := sm.ref hx
        rw [hi'] at g1; cases g1
        exact sl_list pins s σ H _ v vl vu lo hi sl Q I rx hs pl pu ⟨a, vs, rfl, .inl (.inl g2), fun p hp => pE_new sm q (rs.cut lo hi) hp⟩
      · exact False.elim q
  · cases r1
    split at q
    · rename_i hl
      exact sl_str pins s σ H _ v vl vu lo hi sl Q I rx hs pl pu ⟨_, rfl, hl, pE_here sm q (.str _)⟩
    · exact False.elim q
  · exact False.elim q
/-- xs[::-1] -/
def eRev (f : DE) : DE := fun env st => (f env st).bind fun d st1 => match d with
  | .ro xs => .ok (.ref st1.length) (st1 ++ [.lst xs.reverse])
  | .ref a => match st1[a]? with
    | some (.lst xs) => .ok (.ref st1.length) (st1 ++ [.lst xs.reverse])
    | none => .bad
  | _ => .bad
theorem Reps.rev {K : PySem.W.Frag} {H : Hp} {m : List Addr} : ∀ {ds : List D} {vs : List V}, Reps K H m ds vs → Reps K H m ds.reverse vs.reverse
  | _, _, .nil => .nil
  | d :: ds, v :: vs, .cons r t => by rw [List.reverse_cons, List.reverse_cons]; exact (Reps.rev t).app (Reps.one r)
theorem x_rev {e : Expr} {fe : DE} {k : Nat} {p1 p2 p3 pos : Pos} (he : PE X e (lE X.K fe)) : PE X (.Subscript e (.Slice none none (some (.UnaryOp .USub (.Constant (.int 1) k p1) p2)) p3) pos) (lE X.K (eRev fe)) :=
  pe_w (pe_revL he) fun σ H Q ⟨m, env, st, s, se, q⟩ => by
    unfold pE eRev at q
    rw [R.post_bind] at q
    refine lE_then s se q fun d st1 H1 m1 v p hm hk s1 se1 rv => ?_
    split at p
    · cases rv with
      | @ro a vs ds sq rs => exact ⟨a, vs, rfl, sq.sq, fun b hb => pE_new s1 (pE_up hm hk p) rs.rev hb⟩
    · cases rv with
      | @ref a i hi =>
        split at p
        · rename_i xs hx
          obtain ⟨a', vs, g1, g2, rs⟩ := s1.ref hx
          rw [hi] at g1; cases g1
          exact ⟨a, vs, rfl, .inl (.inl g2), fun b hb => pE_new s1 (pE_up hm hk p) rs.rev hb⟩
        · exact False.elim p
    · exact False.elim p

/-! ### built-in functions -/
def dLen : DF := fun xs st => match xs with
  | [.str x] => if x.length ≤ sizeLine then .ok (.int x.length) st else .bad
  | [.tup ds] => .ok (.int ds.length) st
  | [.ro ds] => .ok (.int ds.length) st
  | [.ref a] => match st[a]? with
    | some (.lst ds) => .ok (.int ds.length) st
    | none => .bad
  | _ => .bad
theorem c_len : CallR X (.builtin "len") (lCB X.K dLen) := cr_of call_len fun xs H Q ⟨m, ds, st, sm, rs, q⟩ => by
  unfold pE dLen at q
  split at q
  · cases rs with
    | cons r rs => cases rs; cases r; split at q
                   · rename_i hl; exact ⟨_, _, rfl, ⟨hl, rfl⟩, pE_here sm q (.int _)⟩
                   · exact False.elim q
  · cases rs with
    | cons r rs => cases rs; cases r with
      | tup sq rr => exact ⟨_, _, rfl, .inr ⟨_, sq, rfl⟩, by rw [rr.len]; exact pE_here sm q (.int _)⟩
  · cases rs with
    | cons r rs => cases rs; cases r with
      | ro sq rr => exact ⟨_, _, rfl, .inl ⟨_, sq.sq, rfl⟩, by rw [rr.len]; exact pE_here sm q (.int _)⟩
  · cases rs with
    | cons r rs => cases rs; cases r with
      | @ref a i hi =>
        split at q
        · rename_i ds hx
          obtain ⟨a', vs, g1, g2, rr⟩ := sm.ref hx
          rw [hi] at g1; cases g1
          exact ⟨_, _, rfl, .inl ⟨_, .inl (.inl g2), rfl⟩, by rw [rr.len]; exact pE_here sm q (.int _)⟩
        · exact False.elim q
  · exact False.elim q
def dAbs : DF := fun xs st => match xs with
  | [.int i] => .ok (.int (if i < 0 then -i else i)) st
  | _ => .bad
theorem c_abs : CallR X (.builtin "abs") (lCB X.K dAbs) := cr_of call_abs fun xs H Q ⟨m, ds, st, sm, rs, q⟩ => by
  unfold pE dAbs at q
  split at q
  · cases rs with
    | cons r rs => cases rs; cases r; exact ⟨_, rfl, pE_here sm q (.int _)⟩
  · exact False.elim q
/-- int(x) -/
def dInt : DF := fun xs st => match xs with
  | [.int i] => .ok (.int i) st
  | [.bl b] => .ok (.int (if b then 1 else 0)) st
  | [.str a] => match PySem.intText? a with
    | some n => if a.length ≤ 640 then .ok (.int n) st else .bad
    | none => .bad
  | _ => .bad
theorem c_int : CallR X (.type "int") (lCB X.K dInt) := by
  intro pins s σ H xs us Q I rx ⟨m, ds, st, sm, rs, q⟩
  unfold pE dInt at q
  split at q
  · cases rs with
    | cons r rs => cases rs; cases r; exact call_int1 pins s σ H _ us Q I rx (.inl ⟨_, rfl, pE_here sm q (.int _)⟩)
  · cases rs with
    | cons r rs => cases rs; cases r; exact call_int1 pins s σ H _ us Q I rx (.inr ⟨_, rfl, pE_here sm q (.int _)⟩)
  · cases rs with
    | cons r rs =>
      cases rs; cases r
      split at q
      · rename_i n e
        split at q
        · rename_i hl
          exact call_int_str pins s σ H _ us Q I rx ⟨_, n, rfl, e, hl, pE_here sm q (.int _)⟩
        · exact False.elim q
      · exact False.elim q
  · exact False.elim q
/-- str(n) -/
def dStr : DF := fun xs st => match xs with
  | [.int i] => if i.natAbs.log2 < 1920 then .ok (.str (toString i)) st else .bad
  | _ => .bad
theorem c_str : CallR X (.type "str") (lCB X.K dStr) := cr_of call_str_int fun xs H Q ⟨m, ds, st, sm, rs, q⟩ => by
  unfold pE dStr at q
  split at q
  · cases rs with
    | cons r rs =>
      cases rs; cases r
      split at q
      · rename_i hl; exact ⟨_, rfl, hl, pE_here sm q (.str _)⟩
      · exact False.elim q
  · exact False.elim q
def dList : DF := fun xs st => match xs with
  | [.tup ds] => .ok (.ref st.length) (st ++ [.lst ds])
  | [.ro ds] => .ok (.ref st.length) (st ++ [.lst ds])
  | [.ref a] => match st[a]? with
    | some (.lst ds) => .ok (.ref st.length) (st ++ [.lst ds])
    | none => .bad
  | _ => .bad
theorem c_list : CallR X (.type "list") (lCB X.K dList) := cr_of call_list_of fun xs H Q ⟨m, ds, st, sm, rs, q⟩ => by
  unfold pE dList at q
  split at q
  · cases rs with
    | cons r rs => cases rs; cases r with
      | tup sq rr => exact ⟨_, _, rfl, .inr sq, fun p hp => pE_new sm q rr hp⟩
  · cases rs with
    | cons r rs => cases rs; cases r with
      | ro sq rr => exact ⟨_, _, rfl, .inl sq.sq, fun p hp => pE_new sm q rr hp⟩
  · cases rs with
    | cons r rs => cases rs; cases r with
      | @ref a i hi =>
        split at q
        · rename_i ds hx
          obtain ⟨a', vs, g1, g2, rr⟩ := sm.ref hx
          rw [hi] at g1; cases g1
          exact ⟨_, _, rfl, .inl (.inl (.inl g2)), fun p hp => pE_new sm q rr hp⟩
        · exact False.elim q
  · exact False.elim q
def dTuple : DF := fun xs st => match xs with
  | [.tup ds] => .ok (.tup ds) st
  | [.ro ds] => .ok (.tup ds) st
  | [.ref a] => match st[a]? with
    | some (.lst ds) => .ok (.tup ds) st
    | none => .bad
  | _ => .bad
theorem c_tuple : CallR X (.type "tuple") (lCB X.K dTuple) := cr_of call_tuple_of fun xs H Q ⟨m, ds, st, sm, rs, q⟩ => by
  unfold pE dTuple at q
  split at q
  · cases rs with
    | cons r rs => cases rs; cases r with
      | tup sq rr => exact ⟨_, _, rfl, .inr ⟨sq, pE_here sm q (.tup sq rr)⟩⟩
  · cases rs with
    | cons r rs => cases rs; cases r with
      | ro sq rr => exact ⟨_, _, rfl, .inl ⟨sq.sq, fun p hp => pE_tup sm q rr hp⟩⟩
  · cases rs with
    | cons r rs => cases rs; cases r with
      | @ref a i hi =>
        split at q
        · rename_i ds hx
          obtain ⟨a', vs, g1, g2, rr⟩ := sm.ref hx
          rw [hi] at g1; cases g1
          exact ⟨_, _, rfl, .inl ⟨.inl (.inl g2), fun p hp => pE_tup sm q rr hp⟩⟩
        · exact False.elim q
  · exact False.elim q
/-- max(a, b), min(a, b) of ints -/
def dMax2 : DF := fun xs st => match xs with
  | [.int i, .int j] => .ok (.int (if j > i then j else i)) st
  | _ => .bad
def dMin2 : DF := fun xs st => match xs with
  | [.int i, .int j] => .ok (.int (if j < i then j else i)) st
  | _ => .bad
theorem c_max2 (hc : X.calm = true) : CallR X (.builtin "max") (lCB X.K dMax2) := cr_of (call_max2 hc) fun xs H Q ⟨m, ds, st, sm, rs, q⟩ => by
  unfold pE dMax2 at q
  split at q
  · cases rs with
    | cons r rs => cases rs with
      | cons r2 rs => cases rs; cases r; cases r2; exact ⟨_, _, rfl, pE_here sm q (.int _)⟩
  · exact False.elim q
theorem c_min2 (hc : X.calm = true) : CallR X (.builtin "min") (lCB X.K dMin2) := cr_of (call_min2 hc) fun xs H Q ⟨m, ds, st, sm, rs, q⟩ => by
  unfold pE dMin2 at q
  split at q
  · cases rs with
    | cons r rs => cases rs with
      | cons r2 rs => cases rs; cases r; cases r2; exact ⟨_, _, rfl, pE_here sm q (.int _)⟩
  · exact False.elim q

/-! ### isinstance of built-in types -/
def dTyName (d : D) (st : Sto) : Option String := match d with
  | .non => some "NoneType"
  | .bl _ => some "bool"
  | .int _ => some "int"
  | .str _ => some "str"
  | .tup _ => some "tuple"
  | .ro _ => some "list"
  | .ref a => match st[a]? with
    | some (.lst _) => some "list"
    | none => none
def kitAnyB (a : String) : List String → Option Bool
  | [] => some false
  | b :: r => match kitB a b with
    | some true => some true
    | some false => kitAnyB a r
    | none => none
def eIsi (f : DE) (ts : List String) : DE := fun env st => (f env st).bind fun d st1 => match dTyName d st1 with
  | some a => match kitAnyB a ts with
    | some b => .ok (.bl b) st1
    | none => .bad
  | none => .bad
theorem kitAnyB_ok {K : PySem.W.Frag} {a : String} : ∀ {ts : List String} {b : Bool}, kitAnyB a ts = some b → PySem.W.kitAny K (.type a) (ts.map Value.type) = some b
  | [], b, e => by cases e; exact kitAny_nil
  | t :: ts, b, e => by
    unfold kitAnyB at e
    split at e
    · rename_i h; cases e
      exact kitAny_cons (kit_ty h) (fun z => by cases z) fun _ => rfl
    · rename_i h
      exact kitAny_cons (kit_ty h) (fun _ => kitAnyB_ok e) fun z => by cases z
    · cases e
theorem tyx_d {K : PySem.W.Frag} {H : Hp} {m : List Addr} {st : Sto} {d : D} {v : V} {a : String} (s : Sim K H m st) (r : Rep K H m d v) (e : dTyName d st = some a) : TyX K H v (.type a) := by
  cases r with
  | non => cases e; exact .base .non
  | bl b => cases e; exact .base (.bl b)
  | int i => cases e; exact .base (.int i)
  | str x => cases e; exact .base (.str x)
  | tup sq _ =>
    cases e
    rcases sq with (h | ⟨o, h⟩) | ⟨o, its, n, h, hc, _⟩
    · exact .base (.tup h)
    · exact .fTuple h
    · exact .kTuple h hc
  | ro sq _ =>
    cases e
    rcases sq with ⟨o, h⟩ | ⟨o, its, n, h, hc, _⟩
    · exact .base (.frz h)
    · exact .kList h hc
  | @ref p i hi =>
    unfold dTyName at e
    simp only at e
    split at e
    · cases e
      obtain ⟨vs, h⟩ := s.there hi
      exact .base (.lst h)
    · cases e
variable {e : Expr} {fe : DE} {p pos : Pos}
theorem x_isi1 {T : Str} {tn : String} {p2 : Pos} (hg : Gl X "isinstance") (hm : X.mg "isinstance" = none) (he : PE X e (lE X.K fe)) (ht : PE X (.Name T p2) (tC (.ty tn)))
    (h1 : starEach [e, .Name T p2] X.env = (false, eval e X.env) :: starEach [.Name T p2] X.env := by rfl) (h2 : starEach [.Name T p2] X.env = (false, eval (.Name T p2) X.env) :: starEach [] X.env := by rfl)
    (hpl : (backTo pos (starEach [.Name T p2] X.env)).any (·.1) = false := by rfl) : PE X (.Call (.Name "isinstance" p) [e, .Name T p2] [] pos) (lE X.K (eIsi fe [tn])) :=
  pe_w (pe_callB call_isi hg hm (by decide +kernel) (pa_cons he (pa_cons ht pa_nil h2) h1) (by decide) (by decide) h1 hpl) fun σ H Q ⟨m, env, st, s, se, q⟩ => by
    unfold pE eIsi at q
    rw [R.post_bind] at q
    refine lE_then s se q fun d st1 H1 m1 v p hm hk s1 se1 rv => ?_
    split at p
    · rename_i a ha
      split at p
      · rename_i b hb
        refine ⟨v, .ty tn, .type a, .type tn, b, rfl, .ty tn, tyx_d s1 rv ha, ?_, p H1 m1 hm hk s1 _ (.bl _)⟩
        have := kitAnyB_ok (K := X.K) hb
        simp only [List.map_cons, List.map_nil] at this
        unfold PySem.W.kitAny at this
        split at this
        · rename_i h; cases this; exact h
        · rename_i h; rw [kitAny_nil] at this; cases this; exact h
        · cases this
      · exact False.elim p
    · exact False.elim p
theorem x_isi2 {T U : Str} {tn un : String} {p2 p3 p4 : Pos} {k : Nat} (hg : Gl X "isinstance") (hm : X.mg "isinstance" = none) (he : PE X e (lE X.K fe)) (ht : PE X (.Name T p2) (tC (.ty tn))) (hu : PE X (.Name U p3) (tC (.ty un)))
    (h1 : starEach [e, .Tuple [.Name T p2, .Name U p3] k p4] X.env = (false, eval e X.env) :: starEach [.Tuple [.Name T p2, .Name U p3] k p4] X.env := by rfl) (h2 : starEach [.Tuple [.Name T p2, .Name U p3] k p4] X.env = (false, eval (.Tuple [.Name T p2, .Name U p3] k p4) X.env) :: starEach [] X.env := by rfl)
    (h3 : starEach [.Name T p2, .Name U p3] X.env = (false, eval (.Name T p2) X.env) :: starEach [.Name U p3] X.env := by rfl) (h4 : starEach [.Name U p3] X.env = (false, eval (.Name U p3) X.env) :: starEach [] X.env := by rfl)
    (hpl : (backTo pos (starEach [.Tuple [.Name T p2, .Name U p3] k p4] X.env)).any (·.1) = false := by rfl) : PE X (.Call (.Name "isinstance" p) [e, .Tuple [.Name T p2, .Name U p3] k p4] [] pos) (lE X.K (eIsi fe [tn, un])) :=
  pe_w (pe_callB call_isiT hg hm (by decide +kernel) (pa_cons he (pa_cons (pe_tup (pa_cons ht (pa_cons hu pa_nil h4) h3)) pa_nil h2) h1) (by decide) (by decide) h1 hpl) fun σ H Q ⟨m, env, st, s, se, q⟩ => by
    unfold pE eIsi at q
    rw [R.post_bind] at q
    refine lE_then s se q fun d st1 H1 m1 v p hm hk s1 se1 rv => ?_
    split at p
    · rename_i a ha
      split at p
      · rename_i b hb
        refine ⟨by show 2 ≤ sizeLine; decide, fun tp htp => ?_⟩
        obtain ⟨s2, k2⟩ := s1.keep (o := .tup [.ty tn, .ty un]) htp (fun _ z => by cases z)
        refine ⟨v, tp, [.ty tn, .ty un], .type a, [.type tn, .type un], b, rfl, upd_same, .cons (.ty tn) (.cons (.ty un) .nil), tyx_d s2 (rv.up k2 (List.prefix_refl _)) ha, kitAnyB_ok hb, p _ m1 hm (hk.trans k2) s2 _ (.bl _)⟩
      · exact False.elim p
    · exact False.elim p

/-! ### methods of lists, stores -/
def dAppend : DM := fun x xs st => match x, xs with
  | .ref a, [d] => match st[a]? with
    | some (.lst ds) => if ds.length < sizeLine then .ok .non (st.set a (.lst (ds ++ [d]))) else .bad
    | none => .bad
  | _, _ => .bad
theorem m_append : MtR X "list.append" (lBM X.K dAppend) := mt_of mt_append fun x xs H Q ⟨m, dx, ds, st, sm, r, rs, q⟩ => by
  unfold pE dAppend at q
  split at q
  · cases r with
    | @ref a i hi =>
      cases rs with
      | cons r2 rs =>
        cases rs
        split at q
        · rename_i ds hx
          split at q
          · rename_i hl
            obtain ⟨a', vs, g1, g2, rr⟩ := sm.ref hx
            rw [hi] at g1; cases g1
            exact ⟨a, vs, _, rfl, rfl, g2, by rw [rr.len]; exact hl, pE_put sm q hi g2 (rr.app (Reps.one r2)) .non⟩
          · exact False.elim q
        · exact False.elim q
  · exact False.elim q
def dPop : DM := fun x xs st => match x, xs with
  | .ref a, [] => match st[a]? with
    | some (.lst ds) => match ds[ds.length - 1]? with
      | some d => .ok d (st.set a (.lst ds.dropLast))
      | none => .bad
    | none => .bad
  | .ref a, [.int i] => match st[a]? with
    | some (.lst ds) => if -(2 ^ 63) ≤ i ∧ i < 2 ^ 63 then match seqIndex? i ds.length with
        | some k => match ds[k]? with
          | some d => .ok d (st.set a (.lst (ds.eraseIdx k)))
          | none => .bad
        | none => .bad
      else .bad
    | none => .bad
  | _, _ => .bad
theorem Reps.dropLast {K : PySem.W.Frag} {H : Hp} {m : List Addr} {ds : List D} {vs : List V} (r : Reps K H m ds vs) : Reps K H m ds.dropLast vs.dropLast := by
  rw [List.dropLast_eq_take, List.dropLast_eq_take, r.len]; exact r.take _
theorem Reps.erase {K : PySem.W.Frag} {H : Hp} {m : List Addr} {ds : List D} {vs : List V} (r : Reps K H m ds vs) (k : Nat) : Reps K H m (ds.eraseIdx k) (vs.eraseIdx k) := by
  rw [List.eraseIdx_eq_take_drop_succ, List.eraseIdx_eq_take_drop_succ]; exact (r.take _).app (r.drop _)
theorem m_pop : MtR X "list.pop" (lBM X.K dPop) := by
  intro pins s σ H x xs v us Q I rx rxs ⟨m, dx, ds, st, sm, r, rs, q⟩
  unfold pE dPop at q
  split at q
  · cases r with
    | @ref a i hi =>
      cases rs
      split at q
      · rename_i ds hx
        split at q
        · rename_i d e
          obtain ⟨a', vs, g1, g2, rr⟩ := sm.ref hx
          rw [hi] at g1; cases g1
          obtain ⟨w, h1, h2⟩ := rr.get e
          exact mt_pop pins s σ H _ _ v us Q I rx rxs ⟨a, vs, w, rfl, rfl, g2, by rw [rr.len]; exact h1, pE_put sm q hi g2 rr.dropLast h2⟩
        · exact False.elim q
      · exact False.elim q
  · cases r with
    | @ref a i hi =>
      cases rs with
      | cons r2 rs =>
        cases rs; cases r2
        split at q
        · rename_i ds hx
          split at q
          · rename_i hb
            split at q
            · rename_i k hk
              split at q
              · rename_i d e
                obtain ⟨a', vs, g1, g2, rr⟩ := sm.ref hx
                rw [hi] at g1; cases g1
                obtain ⟨w, h1, h2⟩ := rr.get e
                exact mt_popAt pins s σ H _ _ v us Q I rx rxs ⟨a, vs, _, k, w, rfl, rfl, g2, hb.1, hb.2, by rw [rr.len]; exact hk, h1, pE_put sm q hi g2 (rr.erase k) h2⟩
              · exact False.elim q
            · exact False.elim q
          · exact False.elim q
        · exact False.elim q
  · exact False.elim q
def dPut : DSet := fun o i v st => match o, i with
  | .ref a, .int k => match st[a]? with
    | some (.lst ds) => match ixN ds.length k with
      | some j => .ok () (st.set a (.lst (ds.set j v)))
      | none => .bad
    | none => .bad
  | _, _ => .bad
theorem p_set : PSet X (lSet X.K dPut) := fun pins s σ H o i v ov iv u Q I r1 r2 r3 ⟨m, d1, d2, d3, st, sm, g1, g2, g3, q⟩ => by
  refine set_list pins s σ H o i v ov iv u Q I r1 r2 r3 ?_
  unfold dPut at q
  split at q
  · cases g1 with
    | @ref a j hj =>
      cases g2
      split at q
      · rename_i ds hx
        split at q
        · rename_i k hk
          obtain ⟨a', vs, h1, h2, rr⟩ := sm.ref hx
          rw [hj] at h1; cases h1
          obtain ⟨s2, k2⟩ := sm.put hj h2 (rr.set g3 k)
          exact ⟨a, vs, _, k, rfl, rfl, h2, by rw [rr.len]; exact hk, q _ m (List.prefix_refl _) k2 s2⟩
        · exact False.elim q
      · exact False.elim q
  · exact False.elim q
end
end DL

namespace DL
open PySem PySem.Spec PyProof.Rows L2
section
variable {X : Cx}
/-- a, b, c = x, y, z -/
def sPar3 (i j l : Nat) (g : DA) : DS := fun env st => (g env st).bind fun ds st1 => match ds with
  | [a, b, c] => .ok (.nx (((env.set i (some a)).set j (some b)).set l (some c))) st1
  | _ => .bad
theorem s_par3 {i j l : Nat} {x y z : Str} {a b c : Expr} {ga : DA} {px py pz pt pos : Pos} {kt k2 pt2} (hc : X.calm = true) (hN : X.N.Nodup) (hi : X.N[i]? = some x) (hj : X.N[j]? = some y) (hl : X.N[l]? = some z) (hij : i ≠ j) (hil : i ≠ l) (hjl : j ≠ l)
    (hx : X.env.scope.names.lookup x = some .local) (hy : X.env.scope.names.lookup y = some .local) (hz : X.env.scope.names.lookup z = some .local) (ha : PA X [a, b, c] (lA X.K ga))
    (hw : swappedStores [.Tuple [.Name x px, .Name y py, .Name z pz] kt pt] (.Tuple [a, b, c] k2 pt2) X.env = pure (some [x, y, z]) := by rfl)
    (hs : swapsWithSole [.Tuple [.Name x px, .Name y py, .Name z pz] kt pt] (.Tuple [a, b, c] k2 pt2) pos.line X.env = pure false := by rfl) :
    PS X (.Assign [.Tuple [.Name x px, .Name y py, .Name z pz] kt pt] (.Tuple [a, b, c] k2 pt2) pos) (lS X.K (sPar3 i j l ga)) := ps_w (ps_par3 hc hN hi hj hl hij hil hjl hx hy hz ha hw hs) fun D σ H ⟨m, env, st, s, se, q⟩ => by
  unfold pS sPar3 at q
  rw [R.post_bind] at q
  refine lA_then s se q fun ds st1 H1 m1 us p hm hk s1 se1 rvs => ?_
  cases rvs with
  | nil => exact False.elim p
  | cons r1 rs =>
    cases rs with
    | nil => exact False.elim p
    | cons r2 rs =>
      cases rs with
      | nil => exact False.elim p
      | cons r3 rs =>
        cases rs with
        | nil => exact ⟨_, _, _, rfl, p H1 m1 hm hk s1 _ (((se1.set r1 i).set r2 j).set r3 l)⟩
        | cons _ _ => exact False.elim p

/-! ### sorted of ints (any number) -/
def dInts : List D → Option (List Int)
  | [] => some []
  | .int i :: ds => (dInts ds).map (i :: ·)
  | _ => none
theorem dInts_map : ∀ {ds : List D} {ns : List Int}, dInts ds = some ns → ds = ns.map D.int
  | [], ns, h => by cases h; rfl
  | d :: ds, ns, h => by
    cases d with
    | int i =>
      simp only [dInts, Option.map_eq_some_iff] at h
      obtain ⟨r, h1, h2⟩ := h
      subst h2
      rw [dInts_map h1] <;> rfl
    | _ => cases h
theorem Reps.ints {K : PySem.W.Frag} {H : Hp} {m : List Addr} : ∀ {ns : List Int} {vs : List V}, Reps K H m (ns.map D.int) vs → vs = ns.map V.int
  | [], _, .nil => rfl
  | n :: ns, _, .cons r t => by cases r; rw [Reps.ints t] <;> rfl
theorem Reps.of_ints {K : PySem.W.Frag} {H : Hp} {m : List Addr} : ∀ (ns : List Int), Reps K H m (ns.map D.int) (ns.map V.int)
  | [] => .nil
  | n :: ns => .cons (.int n) (Reps.of_ints ns)
end
end DL

namespace DL
open PySem PySem.Spec PyProof.Rows L2
/-! ### sorted -/
def pk (st : Sto) (d : D) : PyData := (toPy st eqFuel d).getD .none
def pks (st : Sto) (ds : List D) : Option (List PyData) := pyAll (toPy st eqFuel) ds
def alikeB (ps : List PyData) : Bool := ps.all fun d => ps.all fun d' => PySem.W.alike d d'
def isTup1 : PyData → Bool
  | .tuple (_ :: _) => true
  | _ => false
def notTup : PyData → Bool
  | .tuple _ => false
  | .none => false
  | _ => true
def sortOk (st : Sto) (ds : List D) : Bool := match pks st ds with
  | some ps => alikeB ps && (ps.all isTup1 || ps.all notTup)
  | none => false
def sortD (st : Sto) (ds : List D) : List D := ds.mergeSort (PySem.W.dataLe false (pk st))
def dItems (x : D) (st : Sto) : Option (List D) := match x with
  | .tup ds => some ds
  | .ro ds => some ds
  | .ref a => match st[a]? with
    | some (.lst ds) => some ds
    | none => none
  | _ => none
theorem pyAll_pk {st : Sto} : ∀ {ds : List D} {ps : List PyData}, pks st ds = some ps → ps = ds.map (pk st) ∧ ∀ d ∈ ds, toPy st eqFuel d = some (pk st d)
  | [], ps, h => by cases h; exact ⟨rfl, by simp⟩
  | d :: ds, ps, h => by
    unfold pks pyAll at h
    split at h
    · rename_i a as e1 e2
      cases h
      obtain ⟨h1, h2⟩ := pyAll_pk (ds := ds) e2
      have e3 : pk st d = a := by unfold pk; rw [e1]; rfl
      refine ⟨by rw [List.map_cons, ← h1, e3], fun d' hd => ?_⟩
      rcases List.mem_cons.mp hd with e | hd
      · subst e; rw [e1, e3]
      · exact h2 d' hd
    · cases h
theorem alikeB_ok {ps : List PyData} (h : alikeB ps = true) : PySem.W.AllAlike ps := fun d hd d' hd' => by
  unfold alikeB at h
  rw [List.all_eq_true] at h
  have := h d hd
  rw [List.all_eq_true] at this
  exact this d' hd'
theorem sortable_ok {ps : List PyData} (h : (ps.all isTup1 || ps.all notTup) = true) : PySem.W.Sortable ps := by
  rcases Bool.or_eq_true _ _ |>.mp h with h | h
  · refine .inl fun d hd => ?_
    have := (List.all_eq_true.mp h) d hd
    cases d with
    | tuple xs =>
      cases xs with
      | nil => cases this
      | cons x r => exact ⟨x, r, rfl⟩
    | _ => cases this
  · refine .inr fun d hd => ?_
    have := (List.all_eq_true.mp h) d hd
    cases d with
    | none => cases this
    | tuple xs => cases this
    | _ => exact ⟨by simp, fun xs => by simp⟩
section
variable {X : Cx}
/-- the pairs of data and values -/
def zp : List D → List V → List (D × V) := List.zip
theorem each_zip {K : PySem.W.Frag} {H : Hp} {m : List Addr} {R : Value → D × V → Prop} : ∀ {ds : List D} {vs : List V} {us : List Value}, Reps K H m ds vs → Vals vs us → (∀ d v u, Rep K H m d v → RelV v u → d ∈ ds → R u (d, v)) → PySem.W.EachIs R us (ds.zip vs)
  | _, _, _, .nil, .nil, _ => .nil
  | _, _, _, .cons r rs, .cons q qs, h => .cons (h _ _ _ r q List.mem_cons_self) (each_zip rs qs fun d v u a b c => h d v u a b (List.mem_cons_of_mem _ c))
theorem zip_fst {K : PySem.W.Frag} {H : Hp} {m : List Addr} : ∀ {ds : List D} {vs : List V}, Reps K H m ds vs → (ds.zip vs).map (·.1) = ds
  | _, _, .nil => rfl
  | _, _, .cons r rs => by rw [List.zip_cons_cons, List.map_cons, zip_fst rs]
theorem each_out {K : PySem.W.Frag} {H : Hp} {m : List Addr} : ∀ {us : List Value} {zs : List (D × V)}, PySem.W.EachIs (fun u z => RelV z.2 u ∧ Rep K H m z.1 z.2) us zs → Vals (zs.map (·.2)) us ∧ Reps K H m (zs.map (·.1)) (zs.map (·.2))
  | _, _, .nil => ⟨.nil, .nil⟩
  | _, _, .cons h t => let ⟨a, b⟩ := each_out t; ⟨.cons h.1 a, .cons h.2 b⟩
def dSorted : DF := fun xs st => match xs with
  | [x] => match x with
    | .tup _ => .bad
    | _ => match dItems x st with
      | some ds => if sortOk st ds = true then .ok (.ref st.length) (st ++ [.lst (sortD st ds)]) else .bad
      | none => .bad
  | _ => .bad
theorem sorted_run {k : Nat} (hr : RoomG k X.A) {pins : List (Addr × Obj)} {s : Shared} {σ : L2.St} {H : Hp} {Q : VK} {a : Addr} {vs : List V} {ds : List D} {m : List Addr} {st : Sto} (I : L2.Inv X pins σ H s) (sm : Sim X.K H m st) (hs : SqL X.K H a vs) (rr : Reps X.K H m ds vs) (hok : sortOk st ds = true)
    (q : pE X.K H m (.ok (.ref st.length) (st ++ [.lst (sortD st ds)])) Q) : wpAny (model X.prog X.w) X.A (call (.builtin "sorted") [.ref a]) (EP X pins σ Q) X.xe s := by
  obtain ⟨its, rv, hl, hz⟩ := I.list hs
  unfold sortOk at hok
  cases hps : pks st ds with
  | none => rw [hps] at hok; cases hok
  | some ps =>
    rw [hps] at hok
    simp only [Bool.and_eq_true] at hok
    obtain ⟨e1, e2⟩ := pyAll_pk hps
    have hmap : (ds.zip vs).map (fun z => pk st z.1) = ps := by
      rw [e1, ← zip_fst rr, List.map_map, zip_fst rr] <;> rfl
    have hu := hr.un
    refine PySem.W.sorted_data (bs := ds.zip vs) (enc := fun z => pk st z.1) (R := fun u z => RelV z.2 u ∧ Rep X.K H m z.1 z.2) hl.isList (each_zip rr rv fun d v u a b _ => ⟨b, a⟩) (each_zip rr rv fun d v u a b c => ?_)
      (by rw [hmap]; exact alikeB_ok hok.1) (by rw [hmap]; exact sortable_ok hok.2) (by rw [List.length_zip]; have := rr.len; omega) (fun z hz => ?_) fun out hlen ho => ?_
    · exact Dp.reads I _ v u (toPy_dp sm _ _ _ _ (e2 d c) a) b
    · have hd : z.1 ∈ ds := (List.of_mem_zip hz).1
      have := toPy_depth _ _ _ (e2 _ hd)
      unfold eqFuel at this
      show X.A.units + 2 + (pk st z.1).depth < _
      omega
    · obtain ⟨h1, h2⟩ := each_out ho
      have h3 : ((ds.zip vs).mergeSort (PySem.W.dataLe false fun z => pk st z.1)).map (·.1) = sortD st ds := by
        have e := List.map_mergeSort (r := PySem.W.dataLe false fun z : D × V => pk st z.1) (s := PySem.W.dataLe false (pk st)) (f := fun z : D × V => z.1) (l := ds.zip vs) (fun a _ b _ => rfl)
        rw [e, zip_fst rr] <;> rfl
      rw [h3] at h2
      obtain ⟨ep, he'⟩ := PyProof.Rows.sortedAll_at s.heap its out.toArray
      refine ⟨.ref _, upd H (s.heap.objs.size + 1) (.lst _), I.laid (t' := s.toks) (fun _ _ => PyProof.Rows.sortedAll_old) (Nat.le_succ _) ⟨?_, out, ep, h1, he'⟩, rfl, pE_new sm q h2 (I.hok.fresh (Nat.le_succ _))⟩
      rw [List.length_map, List.length_mergeSort, List.length_zip]
      omega
theorem c_sorted {k : Nat} (hr : RoomG k X.A) : CallR X (.builtin "sorted") (lCB X.K dSorted) := by
  intro pins s σ H xs us Q I rx ⟨m, ds, st, sm, rs, q⟩
  unfold pE dSorted at q
  split at q
  · cases rs with
    | cons r rs =>
      cases rs
      cases rx with
      | cons ru rx =>
        cases rx
        split at q
        · exact False.elim q
        · rename_i hx
          split at q
          · rename_i ds hd
            split at q
            · rename_i hok
              cases r with
              | tup _ _ => exact (hx _ rfl).elim
              | ro sq rr =>
                cases hd
                cases ru
                exact sorted_run hr I sm sq.sq rr hok q
              | @ref a i hi =>
                cases ru
                unfold dItems at hd
                simp only at hd
                split at hd
                · rename_i es he
                  cases hd
                  obtain ⟨a', vs, g1, g2, rr⟩ := sm.ref he
                  rw [hi] at g1; cases g1
                  exact sorted_run hr I sm (.inl (.inl g2)) rr hok q
                · cases hd
              | _ => cases hd
            · exact False.elim q
          · exact False.elim q
  · exact False.elim q
end
end DL

namespace DL
open PySem PySem.Spec PyProof.Rows L2
open AutoSeq1 MeetsSeq
/-! ### list.extend by a tuple -/
theorem ext_tup (l : Addr) (xs : Array Value) (n : Nat) (b : Addr) (ys : Array Value) (k : Nat) (dd : Option Addr) (sl : Array (Option Value)) (h0 : ¬(!xs.isEmpty && Builtin.List.listTooLong (xs.size + ys.size)) = true) (h1 : xs.size ≤ sizeLine) (h2 : xs.size + ys.size ≤ sizeLine + 1) :
    Meets (Builtin.«list.extend» ⟨[.ref l, .ref b], []⟩) (fun _ R s => s.heap.get? l = some { cls := .type "list", dict := none, data := .seq xs n, slots := #[] } ∧
      s.heap.get? b = some { cls := .type "tuple", dict := dd, data := .seq ys k, slots := sl } ∧ R (.ok (.ret Value.none)) { s with heap := s.heap.update l (Obj.mapSeq fun x => x ++ ys), toks := s.toks }) :=
  .of_wp fun prog w A R s h => by
    obtain ⟨hp, g, d, tk, os⟩ := s
    obtain ⟨hl, hb, h⟩ := h
    have hz : (xs ++ ys).size ≤ sizeLine + 1 := by rw [Array.size_append]; exact h2
    have f1 := idx_int
    have f2 := AutoSeq1.sub_tuple_tuple
    have f3 := AutoSeq1.sub_list_list
    have f4 := AutoSeq1.sub_tuple_list
    have f5 := AutoSeq1.sub_list_tuple
    wp_walk using (wpAny_updateSeq hl rfl (hz := h1) (_hz' := hz)), wpAny_loadPart' hl, wpAny_loadPart' hb
    exact ⟨_, rfl, h⟩

section
variable {X : Cx}
def rExtT (K : PySem.W.Frag) : V → List V → Hp → VK → Prop := fun x vs H Q => ∃ l b xs zs, x = .ref l ∧ vs = [.ref b] ∧ H l = some (.lst xs) ∧ SqT K H b zs ∧ xs.length + zs.length ≤ sizeLine ∧ Q .non (upd H l (.lst (xs ++ zs)))
theorem mt_extT : MtR X "list.extend" (rExtT X.K) := by
  intro pins s σ H x vs v us Q I rx rv ⟨l, b, xs, zs, e1, e2, hH, hB, hz, q⟩
  subst e1 e2
  cases rx
  cases rv with
  | cons r0 rv =>
    cases rv
    cases r0
    obtain ⟨z, its, n, r, hl, e⟩ := I.lstM hH
    obtain ⟨its2, r2, ⟨⟨cls, dd, data, sl⟩, ho, hc, k, hd⟩, z2⟩ := I.tuple hB
    simp only at hc hd
    subst hc hd
    have len2 := r2.length
    have hsz : its.toArray.size + its2.toArray.size ≤ sizeLine := by simp only [List.size_toArray]; omega
    refine call_meets PySem.F.slot_list_extend ⟨_, e, rfl⟩ PySem.F.entry_list_extend (PySem.F.args_list_extend_2 _ _)
      (ext_tup l its.toArray n b its2.toArray k dd sl (by rw [notLongL hsz, Bool.and_false]; exact Bool.false_ne_true) (by omega) (by omega)) ⟨e, ho, ?_⟩
    refine ⟨.non, _, I.lset (its' := its ++ its2) hH e (by simp) (r.append r2) ?_, rfl, q⟩
    simp only [List.length_append]
    omega
def dExtend : DM := fun x xs st => match x, xs with
  | .ref a, [.tup es] => match st[a]? with
    | some (.lst ds) => if ds.length + es.length ≤ sizeLine then .ok .non (st.set a (.lst (ds ++ es))) else .bad
    | none => .bad
  | .ref a, [.ref b] => match st[a]?, st[b]? with
    | some (.lst ds), some (.lst es) => if ds.length + es.length ≤ sizeLine then .ok .non (st.set a (.lst (ds ++ es))) else .bad
    | _, _ => .bad
  | _, _ => .bad
theorem m_extend : MtR X "list.extend" (lBM X.K dExtend) := by
  intro pins s σ H x xs v us Q I rx rxs ⟨m, dx, ds, st, sm, r, rs, q⟩
  unfold pE dExtend at q
  split at q
  · cases r with
    | @ref a i hi =>
      cases rs with
      | cons r2 rs =>
        cases rs
        cases r2 with
        | tup sq rr2 =>
          split at q
          · rename_i ds hx
            split at q
            · rename_i hl
              obtain ⟨a', vs, g1, g2, rr⟩ := sm.ref hx
              rw [hi] at g1; cases g1
              exact mt_extT pins s σ H _ _ v us Q I rx rxs ⟨a, _, vs, _, rfl, rfl, g2, sq, by rw [rr.len, rr2.len]; exact hl, pE_put sm q hi g2 (rr.app rr2) .non⟩
            · exact False.elim q
          · exact False.elim q
  · cases r with
    | @ref a i hi =>
      cases rs with
      | cons r2 rs =>
        cases rs
        cases r2 with
        | @ref b j hj =>
          split at q
          · rename_i ds es hx hy
            split at q
            · rename_i hl
              obtain ⟨a', vs, g1, g2, rr⟩ := sm.ref hx
              rw [hi] at g1; cases g1
              obtain ⟨b', ws, k1, k2, rr2⟩ := sm.ref hy
              rw [hj] at k1; cases k1
              exact mt_extend pins s σ H _ _ v us Q I rx rxs ⟨a, b, vs, ws, rfl, rfl, g2, k2, by rw [rr.len, rr2.len]; exact hl, pE_put sm q hi g2 (rr.app rr2) .non⟩
            · exact False.elim q
          · exact False.elim q
  · exact False.elim q
end
end DL

namespace DL
open PySem PySem.Spec PyProof.Rows L2
section
variable {P : Program} {w : World} {K : PySem.W.Frag} {mg mb : Str → Option Value} {k : Nat} {fa a : Addr} {fd : FuncData} {x : Str} {sp : Sp} {s : Shared} {vs : List Value} {ns : List Int}
/-- the abstract heap at the law's call: the script, if it is not of the written part -/
def h0 (K : PySem.W.Frag) (a : Addr) (o : Obj) (ns : List Int) : Hp := fun b => if K.lookup a = none ∧ b = a then some (.frz o (.lst (ns.map V.int))) else none
theorem h0_some {o : Obj} {b : Addr} {u : HO} (h : h0 K a o ns b = some u) : K.lookup a = none ∧ b = a ∧ u = .frz o (.lst (ns.map V.int)) := by
  unfold h0 at h
  split at h
  · rename_i c; cases h; exact ⟨c.1, c.2, rfl⟩
  · cases h
/-- the law's call, by its def's promise -/
theorem law_g (KX : K.In s.heap) (gl : s.heap.Ns mainGlobals mg) (bl : s.heap.Ns builtinsNs mb) (bb : ∀ x : Str, x ≠ "__name__" → mb x = bootBuiltins x) (lim : s.heap.NoLimit) (gens : s.gens = #[])
    (ha : s.heap.get? a = some { cls := .type "list", data := .seq vs.toArray }) (hi : IntsAre vs ns) (len : ns.length ≤ sizeLine) (hr : RoomG k callerA)
    (F : ∀ base : Heap, K.In base → base.Ns mainGlobals mg → FnG P w K mg base k fa fd [x] sp) (bind : ∀ (s : Shared) (u : Value), BindsTo s fd ⟨[u], []⟩ [(x, u)])
    (start : ∀ H : Hp, Only H → SqL K H a (ns.map V.int) → sp [.ref a] H (fun v _ => v = .bl true) E0) :
    codeAny (model P w) callerA (.call (.ref fa) ⟨[.ref a], []⟩) (fun r s' => r = .ok (.ret (.bool true)) ∧ OldK s.heap s'.heap ∧ s'.os = s.os ∧ AllBare s'.gens) s := by
  have rv := vals_ints hi
  have lenV := hi.length
  obtain ⟨H, hH⟩ : ∃ H, H = h0 K a { cls := .type "list", data := .seq vs.toArray } ns := ⟨_, rfl⟩
  have at_ : ∀ b u, H b = some u → K.lookup a = none ∧ b = a ∧ u = .frz { cls := .type "list", data := .seq vs.toArray } (.lst (ns.map V.int)) := fun b u e => h0_some (by rw [← hH]; exact e)
  have only : Only H := fun b => by
    cases q : H b with
    | none => exact .inl rfl
    | some u => exact .inr ⟨_, _, by rw [(at_ b u q).2.2]⟩
  have reads : SqL K H a (ns.map V.int) := by
    cases hk : K.lookup a with
    | none =>
      refine .inl (.inr ⟨{ cls := .type "list", data := .seq vs.toArray }, ?_⟩)
      rw [hH]
      exact if_pos ⟨hk, rfl⟩
    | some o =>
      have e := KX a o hk
      rw [ha] at e
      cases e
      exact .inr ⟨_, vs.toArray, _, hk, rfl, rfl, rfl, by rw [List.size_toArray, lenV]; exact len, by simpa using rv⟩
  have lies : HOk P w H s.heap := fun b u q => by
    obtain ⟨_, e1, e2⟩ := at_ b u q
    subst e1 e2
    exact ⟨ha, by rw [List.length_map]; exact len, vs, _, rv, ha⟩
  have none_of : ∀ {b : Addr} {o : Obj} {es : Array DictEntry} {ep : Nat}, s.heap.get? b = some o → o.data = .dict es ep → H b = none := fun {b o es ep} e d => by
    cases q : H b with
    | none => rfl
    | some u =>
      obtain ⟨_, e1, _⟩ := at_ b u q
      subst e1
      rw [ha] at e
      cases e
      exact absurd d (by intro z; cases z)
  have ns_of : ∀ {b : Addr} {m : Str → Option Value}, s.heap.Ns b m → (hidT s.heap H).Ns b m := fun {b m} ⟨o, es, ep, e, d, r⟩ => ⟨o, es, ep, hidT_get e (none_of e d), d, r⟩
  have kin : K.In (hidT s.heap H) := fun b o e => hidT_get (KX b o e) (by
    cases q : H b with
    | none => rfl
    | some u =>
      obtain ⟨e0, e1, _⟩ := at_ b u q
      subst e1
      rw [e0] at e
      cases e)
  have e0 : Env0 P w K mg (hidT s.heap H) callerA [] s H := {
    frames := rfl
    mod := ⟨kin, ns_of gl, ⟨mb, ns_of bl, bb⟩, let ⟨mc, h1, h2⟩ := lim; ⟨mc, ns_of h1, h2⟩⟩
    bs := fun b o e => of_hidT e
    bsz := Nat.le_of_eq (hidT_size _ _)
    funs := trivial
    frf := fun b hb => (List.not_mem_nil (a := b) hb).elim
    hok := lies
    bare := .of_eq gens }
  refine codeAny_mono ((F _ kin (ns_of gl)).does callerA [] s H ⟨[.ref a], []⟩ [.ref a] [.ref a] _ hr e0 (bind s (.ref a)) (.cons rfl .nil) (start H only reads)) fun r s2 h => ?_
  cases r with
  | error e => exact False.elim h
  | ok fl =>
    cases fl with
    | ret u =>
      obtain ⟨v, H2, os, bare, un, lies2, r2, q⟩ := h
      have q : v = .bl true := q
      subst q
      have e : u = Value.bool true := r2
      subst e
      refine ⟨rfl, OldK.of_keep fun b o e => ?_, os, bare⟩
      cases q : H b with
      | none => exact un.keep b o e q (fun z => List.not_mem_nil (a := b) z) (fun z => List.not_mem_nil (a := b) z)
      | some u =>
        obtain ⟨_, e1, e2⟩ := at_ b u q
        subst e1 e2
        have k2 := (lies2 _ _ (un.frzs _ _ _ q)).1
        rw [ha] at e
        cases e
        exact k2
    | _ => exact False.elim h
end
/-- the end of a law's row -/
theorem walk_g {l : PySem.W.OpenLaw} {n k : Nat} {q : Program} {loose : List Str} {XP : (Str → Option Value) → Heap → Prop} {YP : World → Heap → Prop} {d : DefRec} {K : Params → PySem.W.Frag} {F : DF} {x : Str}
    (most : l.most = some n) (small : n ≤ 63) (dflt : d.params.defaults = []) (hr : Room k callerA) (inK : ∀ (w : World) (h : Heap), YP w h → (K w.params).In h)
    (fn : ∀ (w : World) (mg : Str → Option Value) (fa : Addr) (h : Heap), (K w.params).In h → h.Ns mainGlobals mg → mg d.name = some (.ref fa) →
      ∃ fd : FuncData, (∀ (s : Shared) (u : Value), BindsTo s fd ⟨[u], []⟩ [(x, u)]) ∧ ∀ base : Heap, (K w.params).In base → base.Ns mainGlobals mg → FnG l.prog w (K w.params) mg base k fa fd [x] (spD (K w.params) 1 F))
    (true_ : ∀ ns : List Int, ns.length ≤ 63 → (F [.ro (ns.map .int)] []).post fun d _ => d = .bl true) :
    PySem.W.WalkO q loose XP YP l.row.toRowW d [] (fun f vs => PySem.call f vs) := by
  refine Att.attach_call most dflt fun w s0 s1 mg mb fa o pm cd doc a vs ns G Y _ _ _ hmg hobj hi hlen gens => ?_
  have KX := inK w _ Y
  obtain ⟨fd, hb, hF⟩ := fn w mg fa _ KX G.T.g hmg
  have h63 : ns.length ≤ 63 := Nat.le_trans hlen small
  refine law_g KX G.T.g G.T.b G.T.builtins G.T.nolimit gens hobj hi (Nat.le_trans h63 (by decide)) ⟨hr, rfl⟩ hF hb fun H hO hS => ?_
  have hro : RoL (K w.params) H a (ns.map V.int) := by
    rcases hS with (h | h) | h
    · rcases hO a with z | ⟨o, xs, z⟩
      · rw [h] at z; cases z
      · rw [h] at z; cases z
    · exact .inl h
    · exact .inr h
  refine ⟨rfl, [], [.ro (ns.map .int)], [], ⟨rfl, List.nodup_nil, fun i a o e _ => by simp at e⟩, .cons (.ro hro (Reps.of_ints ns)) .nil, R.post_mono (true_ ns h63) fun d st e H' m' _ _ _ v r => ?_⟩
  subst e
  cases r
  rfl
end DL

namespace DL
open PySem PySem.Spec PyProof.Rows L2
/-! ### repr -/
theorem pyAll_nd {f : D → Option PyData} (h : ∀ d p, f d = some p → p.hasDict = false) : ∀ {ds : List D} {ps : List PyData}, pyAll f ds = some ps → PyData.hasDictAll ps = false
  | [], _, e => by cases e; simp [PyData.hasDictAll]
  | d :: ds, ps, e => by
    unfold pyAll at e
    split at e
    · rename_i a as e1 e2
      cases e
      simp [PyData.hasDictAll, h d a e1, pyAll_nd h e2]
    · cases e
theorem toPy_nd {st : Sto} : ∀ (n : Nat) (d : D) (p : PyData), toPy st n d = some p → p.hasDict = false := by
  intro n
  induction n with
  | zero => intro d p e; cases d <;> simp only [toPy] at e <;> cases e <;> simp [PyData.hasDict]
  | succ n ih =>
    intro d p e
    cases d with
    | tup xs =>
      simp only [toPy, Option.map_eq_some_iff] at e
      obtain ⟨ps, e1, e2⟩ := e
      subst e2
      simpa [PyData.hasDict] using pyAll_nd ih e1
    | ro xs =>
      simp only [toPy, Option.map_eq_some_iff] at e
      obtain ⟨ps, e1, e2⟩ := e
      subst e2
      simpa [PyData.hasDict] using pyAll_nd ih e1
    | ref i =>
      simp only [toPy] at e
      split at e
      · obtain ⟨ps, e1, e2⟩ := Option.map_eq_some_iff.mp e
        subst e2
        simpa [PyData.hasDict] using pyAll_nd ih e1
      · cases e
    | _ => simp only [toPy] at e; cases e; simp [PyData.hasDict]
def dRepr : DF := fun xs st => match xs with
  | [x] => match toPy st eqFuel x with
    | some p => if p.showable = true ∧ p.shown.length ≤ sizeLine then .ok (.str p.shown) st else .bad
    | none => .bad
  | _ => .bad
section
variable {X : Cx}
theorem c_repr {k : Nat} (hr : RoomG k X.A) : CallR X (.builtin "repr") (lCB X.K dRepr) := by
  intro pins s σ H xs us Q I rx ⟨m, ds, st, sm, rs, q⟩
  unfold pE dRepr at q
  split at q
  · rename_i x
    split at q
    · rename_i p e
      split at q
      · rename_i hp
        cases rs with
        | @cons d v _ _ r rs =>
          cases rs
          cases rx with
          | @cons _ u _ _ ru rx =>
            cases rx
            obtain ⟨as, rd⟩ := Dp.reads I p v u (toPy_dp sm _ _ _ _ e r) ru
            have dep := toPy_depth _ _ _ e
            unfold eqFuel at dep
            have hu := hr.un
            have fin : ∀ h' tk t, (∀ b o, s.heap.get? b = some o → h'.get? b = some o) → EP X pins σ Q (.str p.shown t) { s with heap := h', toks := tk } := fun h' tk t kp => ⟨.str p.shown, H, I.kept kp, ⟨t, rfl⟩, pE_here sm q (.str _)⟩
            cases rd with
            | none => simp only [PyData.shown] at fin; exact PySem.P.repr_of_none (fin s.heap _ _ fun _ _ h => h)
            | bool b => simp only [PyData.shown] at fin; exact PySem.P.repr_of_bool (fin s.heap _ _ fun _ _ h => h)
            | int i t =>
              have h1 := hp.1
              simp only [PyData.showable, decide_eq_true_eq] at h1
              simp only [PyData.shown] at fin
              exact PySem.P.repr_of_int h1 (fin s.heap _ _ fun _ _ h => h)
            | str y t =>
              have h1 := hp.2
              simp only [PyData.shown] at fin h1
              exact PySem.P.repr_of_str (fin s.heap _ _ fun _ _ h => h) h1
            | list a b c d => exact repr_of_reads' (.list a b c d) hp.1 (fun z => by rw [toPy_nd _ _ _ e] at z; cases z) hr.gd (by omega) (fun _ _ h => h) (fun h' u tk kp => fin h' tk u kp) hp.2
            | tuple a b c d => exact repr_of_reads' (.tuple a b c d) hp.1 (fun z => by rw [toPy_nd _ _ _ e] at z; cases z) hr.gd (by omega) (fun _ _ h => h) (fun h' u tk kp => fin h' tk u kp) hp.2
            | dict a b c d f => exact absurd (toPy_nd _ _ _ e) (by simp [PyData.hasDict])
      · exact False.elim q
    · exact False.elim q
  · exact False.elim q
end
/-! ### list(range(..)), tuple(range(..)) -/
def rngL (lo : Int) (n : Nat) : List D := (List.range n).map fun (k : Nat) => D.int (lo + (k : Int))
theorem Reps.rng {K : PySem.W.Frag} {H : Hp} {m : List Addr} (lo : Int) : ∀ l : List Nat, Reps K H m (l.map fun (k : Nat) => D.int (lo + (k : Int))) (l.map fun (k : Nat) => V.int (lo + (k : Int)))
  | [] => .nil
  | k :: l => .cons (.int _) (Reps.rng lo l)
instance (a b : Int) : Decidable (RgOk a b) := by unfold RgOk; exact inferInstance
def eRg1 (t : Bool) (f : DE) : DE := fun env st => (f env st).bind fun d st1 => match d with
  | .int n => if RgOk 0 n then (if t = true then .ok (.tup (rngL 0 (n - 0).toNat)) st1 else .ok (.ref st1.length) (st1 ++ [.lst (rngL 0 (n - 0).toNat)])) else .bad
  | _ => .bad
def eRg2 (t : Bool) (f g : DE) : DE := fun env st => (f env st).bind fun d st1 => (g env st1).bind fun e st2 => match d, e with
  | .int a, .int b => if RgOk a b then (if t = true then .ok (.tup (rngL a (b - a).toNat)) st2 else .ok (.ref st2.length) (st2 ++ [.lst (rngL a (b - a).toNat)])) else .bad
  | _, _ => .bad
section
variable {X : Cx} {a b : Expr} {fa fb : DE} {p pos q0 qp : Pos}
theorem x_listRg1 (hc : X.calm = true) (hg : Gl X "list") (hm : X.mg "list" = none) (rg : Gl X "range") (rm : X.mg "range" = none) (ha : PE X a (lE X.K fa)) (na : starEach [a] X.env = (false, eval a X.env) :: starEach [] X.env := by rfl)
    (ne : starEach [.Call (.Name "range" qp) [a] [] q0] X.env = (false, eval (.Call (.Name "range" qp) [a] [] q0) X.env) :: starEach [] X.env := by rfl) :
    PE X (.Call (.Name "list" p) [.Call (.Name "range" qp) [a] [] q0] [] pos) (lE X.K (eRg1 false fa)) := pe_w (pe_listRg hc hg hm (prg_1 rg rm ha na) ne) fun σ H Q ⟨m, env, st, s, se, q⟩ => by
  unfold pE eRg1 at q
  rw [R.post_bind] at q
  refine lE_then s se q fun d st1 H1 m1 v p hm hk s1 se1 rv => ?_
  split at p
  · cases rv
    split at p
    · rename_i n ok
      rw [if_neg (by simp)] at p
      exact ⟨_, rfl, ok, fun b hb => pE_new s1 (pE_up hm hk p) (Reps.rng 0 _) hb⟩
    · exact False.elim p
  · exact False.elim p
theorem x_listRg2 (hc : X.calm = true) (hg : Gl X "list") (hm : X.mg "list" = none) (rg : Gl X "range") (rm : X.mg "range" = none) (ha : PE X a (lE X.K fa)) (hb : PE X b (lE X.K fb)) (na : starEach [a, b] X.env = (false, eval a X.env) :: starEach [b] X.env := by rfl)
    (nb : starEach [b] X.env = (false, eval b X.env) :: starEach [] X.env := by rfl) (hp : (backTo q0 (starEach [b] X.env)).any (·.1) = false := by rfl)
    (ne : starEach [.Call (.Name "range" qp) [a, b] [] q0] X.env = (false, eval (.Call (.Name "range" qp) [a, b] [] q0) X.env) :: starEach [] X.env := by rfl) :
    PE X (.Call (.Name "list" p) [.Call (.Name "range" qp) [a, b] [] q0] [] pos) (lE X.K (eRg2 false fa fb)) := pe_w (pe_listRg hc hg hm (prg_2 rg rm ha hb na nb hp) ne) fun σ H Q ⟨m, env, st, s, se, q⟩ => by
  unfold pE eRg2 at q
  rw [R.post_bind] at q
  refine lE_then s se q fun d st1 H1 m1 v p hm hk s1 se1 rv => ?_
  rw [R.post_bind] at p
  refine lE_then s1 se1 p fun d2 st2 H2 m2 v2 p2 hm2 hk2 s2 se2 rv2 => ?_
  split at p2
  · cases rv; cases rv2
    split at p2
    · rename_i ok
      rw [if_neg (by simp)] at p2
      exact ⟨_, _, rfl, rfl, ok, fun b hb => pE_new s2 (pE_up (hm.trans hm2) (hk.trans hk2) p2) (Reps.rng _ _) hb⟩
    · exact False.elim p2
  · exact False.elim p2
end
end DL

namespace DL
open PySem PySem.Spec PyProof.Rows L2

/-! ### working with semantic functions -/
theorem post_ite {α : Type} {c : Prop} [Decidable c] {a b : R α} {Q : α → Sto → Prop} : (if c then a else b).post Q = if c then a.post Q else b.post Q := by split <;> rfl
/-- walks over what stands still -/
def forL (g : DG) (b : DS) : List D → Env → Sto → R Fl
  | [], env, st => .ok (.nx env) st
  | d :: ds, env, st => match g d env with
    | none => .bad
    | some env1 => (b env1 st).bind fun fl st1 => match fl with
      | .nx env2 => forL g b ds env2 st1
      | .ct env2 => forL g b ds env2 st1
      | .bk env2 => .ok (.nx env2) st1
      | .rt d => .ok (.rt d) st1
theorem forGo_tup (g : DG) (b : DS) (xs : List D) : ∀ (n i : Nat) (env : Env) (st : Sto), xs.length - i < n → i ≤ xs.length → forGo (.tup xs) g b n i env st = forL g b (xs.drop i) env st
  | 0, i, env, st, h, _ => absurd h (Nat.not_lt_zero _)
  | n + 1, i, env, st, h, hi => by
    unfold forGo
    simp only [DIt.at]
    by_cases hl : i < xs.length
    · rw [List.getElem?_eq_getElem hl, List.drop_eq_getElem_cons hl]
      simp only [forL]
      cases g xs[i] env with
      | none => rfl
      | some env1 =>
        simp only
        congr 1
        funext fl st1
        cases fl <;> simp only
        · exact forGo_tup g b xs n (i + 1) _ _ (by omega) (by omega)
        · exact forGo_tup g b xs n (i + 1) _ _ (by omega) (by omega)
    · have e : xs[i]? = none := List.getElem?_eq_none_iff.mpr (by omega)
      rw [e, List.drop_of_length_le (by omega)]
      rfl
theorem sFor_tup (g : DG) (b : DS) (xs : List D) (env : Env) (st : Sto) : forGo (.tup xs) g b ((DIt.tup xs).size st + 1) 0 env st = forL g b xs env st := by
  rw [forGo_tup g b xs _ 0 env st (by simp only [DIt.size]; omega) (Nat.zero_le _), List.drop_zero]
theorem forGo_rng (g : DG) (b : DS) (lo : Int) (n : Nat) : ∀ (f i : Nat) (env : Env) (st : Sto), forGo (.rng lo n) g b f i env st = forGo (.tup (rngL lo n)) g b f i env st
  | 0, _, _, _ => rfl
  | f + 1, i, env, st => by
    unfold forGo
    have e : (DIt.rng lo n).at i st = (DIt.tup (rngL lo n)).at i st := by
      simp only [DIt.at, rngL, List.getElem?_map]
      by_cases h : i < n
      · rw [if_pos h, List.getElem?_range h] <;> rfl
      · rw [if_neg h, List.getElem?_eq_none_iff.mpr (by simpa using h)] <;> rfl
    rw [e]
    split
    · rfl
    · rfl
    · split
      · rfl
      · congr 1
        funext fl st1
        cases fl <;> simp only
        · exact forGo_rng g b lo n f (i + 1) _ _
        · exact forGo_rng g b lo n f (i + 1) _ _
theorem sFor_rng (g : DG) (b : DS) (lo : Int) (n : Nat) (env : Env) (st : Sto) : forGo (.rng lo n) g b ((DIt.rng lo n).size st + 1) 0 env st = forL g b (rngL lo n) env st := by
  rw [forGo_rng, ← sFor_tup g b (rngL lo n) env st]
  simp only [DIt.size, rngL, List.length_map, List.length_range]
/-- a walk over a list of the store that stands still, by what holds at each turn -/
theorem forGo_lst {g : DG} {b : DS} {a : Nat} {xs : List D} {Q : Fl → Sto → Prop} (P : List D → Env → Sto → Prop)
    (hs : ∀ d ds env st, P (d :: ds) env st → st[a]? = some (.lst xs) ∧ ∃ env1, g d env = some env1 ∧ (b env1 st).post fun fl st1 => match fl with
      | .nx env2 => P ds env2 st1
      | .ct env2 => P ds env2 st1
      | .bk env2 => Q (.nx env2) st1
      | .rt d => Q (.rt d) st1)
    (h0 : ∀ env st, P [] env st → st[a]? = some (.lst xs) ∧ Q (.nx env) st) : ∀ (n i : Nat) (env : Env) (st : Sto), xs.length - i < n → i ≤ xs.length → P (xs.drop i) env st → (forGo (.lst a) g b n i env st).post Q
  | 0, _, _, _, h, _, _ => absurd h (Nat.not_lt_zero _)
  | n + 1, i, env, st, h, hi, p => by
    unfold forGo
    by_cases hl : i < xs.length
    · rw [List.drop_eq_getElem_cons hl] at p
      obtain ⟨e, env1, eg, q⟩ := hs _ _ _ _ p
      have ea : (DIt.lst a).at i st = some (some xs[i]) := by simp only [DIt.at, e]; rw [List.getElem?_eq_getElem hl]
      rw [ea]
      simp only [eg, R.post_bind]
      refine R.post_mono q fun fl st1 q1 => ?_
      cases fl with
      | nx env2 => exact forGo_lst P hs h0 n (i + 1) env2 st1 (by omega) (by omega) q1
      | ct env2 => exact forGo_lst P hs h0 n (i + 1) env2 st1 (by omega) (by omega) q1
      | bk env2 => exact q1
      | rt d => exact q1
    · rw [List.drop_of_length_le (by omega)] at p
      obtain ⟨e, q⟩ := h0 _ _ p
      have ea : (DIt.lst a).at i st = some none := by simp only [DIt.at, e]; rw [List.getElem?_eq_none_iff.mpr (by omega)]
      rw [ea]
      exact q
theorem sFor_lst {g : DG} {b : DS} {a : Nat} {xs : List D} {Q : Fl → Sto → Prop} (P : List D → Env → Sto → Prop) {env : Env} {st : Sto} (e : st[a]? = some (.lst xs)) (p : P xs env st)
    (hs : ∀ d ds env st, P (d :: ds) env st → st[a]? = some (.lst xs) ∧ ∃ env1, g d env = some env1 ∧ (b env1 st).post fun fl st1 => match fl with
      | .nx env2 => P ds env2 st1
      | .ct env2 => P ds env2 st1
      | .bk env2 => Q (.nx env2) st1
      | .rt d => Q (.rt d) st1)
    (h0 : ∀ env st, P [] env st → st[a]? = some (.lst xs) ∧ Q (.nx env) st) : (forGo (.lst a) g b ((DIt.lst a).size st + 1) 0 env st).post Q :=
  forGo_lst P hs h0 _ 0 env st (by simp only [DIt.size, e]; omega) (Nat.zero_le _) (by simpa using p)
/-- the same over items told -/
theorem forL_post {g : DG} {b : DS} {Q : Fl → Sto → Prop} (P : List D → Env → Sto → Prop)
    (hs : ∀ d ds env st, P (d :: ds) env st → ∃ env1, g d env = some env1 ∧ (b env1 st).post fun fl st1 => match fl with
      | .nx env2 => P ds env2 st1
      | .ct env2 => P ds env2 st1
      | .bk env2 => Q (.nx env2) st1
      | .rt d => Q (.rt d) st1)
    (h0 : ∀ env st, P [] env st → Q (.nx env) st) : ∀ (xs : List D) (env : Env) (st : Sto), P xs env st → (forL g b xs env st).post Q
  | [], env, st, p => h0 env st p
  | d :: ds, env, st, p => by
    obtain ⟨env1, eg, q⟩ := hs _ _ _ _ p
    simp only [forL, eg, R.post_bind]
    refine R.post_mono q fun fl st1 q1 => ?_
    cases fl with
    | nx env2 => exact forL_post P hs h0 ds env2 st1 q1
    | ct env2 => exact forL_post P hs h0 ds env2 st1 q1
    | bk env2 => exact q1
    | rt d => exact q1
/-! ### comprehensions -/
def lcL (g : DG) (t : DT) (e : DE) (env0 : Env) : List D → Sto → R (List D)
  | [], st => .ok [] st
  | d :: ds, st => match g d env0 with
    | none => .bad
    | some env1 => (t env1 st).bind fun k st1 => if k = true then (e env1 st1).bind fun y st2 => (lcL g t e env0 ds st2).bind fun ys st3 => .ok (y :: ys) st3
        else lcL g t e env0 ds st1
theorem lcGo_tup (g : DG) (t : DT) (e : DE) (env0 : Env) (xs : List D) : ∀ (n i : Nat) (st : Sto), xs.length - i < n → i ≤ xs.length → lcGo (.tup xs) g t e env0 n i st = lcL g t e env0 (xs.drop i) st
  | 0, i, st, h, _ => absurd h (Nat.not_lt_zero _)
  | n + 1, i, st, h, hi => by
    unfold lcGo
    simp only [DIt.at]
    by_cases hl : i < xs.length
    · rw [List.getElem?_eq_getElem hl, List.drop_eq_getElem_cons hl]
      simp only [lcL]
      cases g xs[i] env0 with
      | none => rfl
      | some env1 =>
        simp only
        congr 1
        funext k st1
        cases k
        · exact lcGo_tup g t e env0 xs n (i + 1) _ (by omega) (by omega)
        · simp only [if_true]
          congr 1
          funext y st2
          rw [lcGo_tup g t e env0 xs n (i + 1) _ (by omega) (by omega)]
    · have e : xs[i]? = none := List.getElem?_eq_none_iff.mpr (by omega)
      rw [e, List.drop_of_length_le (by omega)]
      rfl
theorem eLc_tup (g : DG) (t : DT) (e : DE) (env0 : Env) (xs : List D) (st : Sto) : lcGo (.tup xs) g t e env0 ((DIt.tup xs).size st + 1) 0 st = lcL g t e env0 xs st := by
  rw [lcGo_tup g t e env0 xs _ 0 st (by simp only [DIt.size]; omega) (Nat.zero_le _), List.drop_zero]
theorem lcGo_rng (g : DG) (t : DT) (e : DE) (env0 : Env) (lo : Int) (n : Nat) : ∀ (f i : Nat) (st : Sto), lcGo (.rng lo n) g t e env0 f i st = lcGo (.tup (rngL lo n)) g t e env0 f i st
  | 0, _, _ => rfl
  | f + 1, i, st => by
    unfold lcGo
    have e1 : (DIt.rng lo n).at i st = (DIt.tup (rngL lo n)).at i st := by
      simp only [DIt.at, rngL, List.getElem?_map]
      by_cases h : i < n
      · rw [if_pos h, List.getElem?_range h] <;> rfl
      · rw [if_neg h, List.getElem?_eq_none_iff.mpr (by simpa using h)] <;> rfl
    rw [e1]
    simp only [lcGo_rng g t e env0 lo n f (i + 1)]
theorem eLc_rng (g : DG) (t : DT) (e : DE) (env0 : Env) (lo : Int) (n : Nat) (st : Sto) : lcGo (.rng lo n) g t e env0 ((DIt.rng lo n).size st + 1) 0 st = lcL g t e env0 (rngL lo n) st := by
  rw [lcGo_rng, ← eLc_tup g t e env0 (rngL lo n) st]
  simp only [DIt.size, rngL, List.length_map, List.length_range]
/-- over a list of the store that the turns leave: by what holds at each turn; the items made are told at the end -/
theorem lcGo_lst {g : DG} {t : DT} {e : DE} {env0 : Env} {a : Nat} {xs : List D} {Q : List D → Sto → Prop} (P : List D → List D → Sto → Prop)
    (hs : ∀ d ds acc st, P (d :: ds) acc st → st[a]? = some (.lst xs) ∧ ∃ env1, g d env0 = some env1 ∧ (t env1 st).post fun k st1 => if k = true then (e env1 st1).post fun y st2 => P ds (acc ++ [y]) st2 else P ds acc st1)
    (h0 : ∀ acc st, P [] acc st → st[a]? = some (.lst xs) ∧ Q acc st) : ∀ (n i : Nat) (acc : List D) (st : Sto), xs.length - i < n → i ≤ xs.length → P (xs.drop i) acc st → (lcGo (.lst a) g t e env0 n i st).post fun ys st1 => Q (acc ++ ys) st1
  | 0, _, _, _, h, _, _ => absurd h (Nat.not_lt_zero _)
  | n + 1, i, acc, st, h, hi, p => by
    unfold lcGo
    by_cases hl : i < xs.length
    · rw [List.drop_eq_getElem_cons hl] at p
      obtain ⟨ea, env1, eg, q⟩ := hs _ _ _ _ p
      have ea : (DIt.lst a).at i st = some (some xs[i]) := by simp only [DIt.at, ea]; rw [List.getElem?_eq_getElem hl]
      rw [ea]
      simp only [eg, R.post_bind]
      refine R.post_mono q fun k st1 q1 => ?_
      cases k with
      | false => exact lcGo_lst P hs h0 n (i + 1) acc st1 (by omega) (by omega) (by simpa using q1)
      | true =>
        simp only [if_true] at q1 ⊢
        rw [R.post_bind]
        refine R.post_mono q1 fun y st2 q2 => ?_
        rw [R.post_bind]
        have := lcGo_lst P hs h0 n (i + 1) (acc ++ [y]) st2 (by omega) (by omega) q2
        exact R.post_mono this fun ys st3 q3 => by simpa using q3
    · rw [List.drop_of_length_le (by omega)] at p
      obtain ⟨ea, q⟩ := h0 _ _ p
      have ea : (DIt.lst a).at i st = some none := by simp only [DIt.at, ea]; rw [List.getElem?_eq_none_iff.mpr (by omega)]
      rw [ea]
      simpa using q
theorem eLc_lst {g : DG} {t : DT} {e : DE} {env0 : Env} {a : Nat} {xs : List D} {Q : List D → Sto → Prop} (P : List D → List D → Sto → Prop) {st : Sto} (ea : st[a]? = some (.lst xs)) (p : P xs [] st)
    (hs : ∀ d ds acc st, P (d :: ds) acc st → st[a]? = some (.lst xs) ∧ ∃ env1, g d env0 = some env1 ∧ (t env1 st).post fun k st1 => if k = true then (e env1 st1).post fun y st2 => P ds (acc ++ [y]) st2 else P ds acc st1)
    (h0 : ∀ acc st, P [] acc st → st[a]? = some (.lst xs) ∧ Q acc st) : (lcGo (.lst a) g t e env0 ((DIt.lst a).size st + 1) 0 st).post Q := by
  have := lcGo_lst P hs h0 ((DIt.lst a).size st + 1) 0 [] st (by simp only [DIt.size, ea]; omega) (Nat.zero_le _) (by simpa using p)
  exact R.post_mono this fun ys st1 q => by simpa using q
theorem lcL_post {g : DG} {t : DT} {e : DE} {env0 : Env} {Q : List D → Sto → Prop} (P : List D → List D → Sto → Prop)
    (hs : ∀ d ds acc st, P (d :: ds) acc st → ∃ env1, g d env0 = some env1 ∧ (t env1 st).post fun k st1 => if k = true then (e env1 st1).post fun y st2 => P ds (acc ++ [y]) st2 else P ds acc st1)
    (h0 : ∀ acc st, P [] acc st → Q acc st) : ∀ (xs acc : List D) (st : Sto), P xs acc st → (lcL g t e env0 xs st).post fun ys st1 => Q (acc ++ ys) st1
  | [], acc, st, p => by simpa [lcL] using h0 acc st p
  | d :: ds, acc, st, p => by
    obtain ⟨env1, eg, q⟩ := hs _ _ _ _ p
    simp only [lcL, eg, R.post_bind]
    refine R.post_mono q fun k st1 q1 => ?_
    cases k with
    | false => exact lcL_post P hs h0 ds acc st1 (by simpa using q1)
    | true =>
      simp only [if_true] at q1 ⊢
      rw [R.post_bind]
      refine R.post_mono q1 fun y st2 q2 => ?_
      rw [R.post_bind]
      exact R.post_mono (lcL_post P hs h0 ds (acc ++ [y]) st2 q2) fun ys st3 q3 => by simpa using q3
/-! ### while: the fuel -/
theorem whGo_post {t : DT} {b : DS} {Q : Fl → Sto → Prop} (P : Nat → Env → Sto → Prop)
    (hs : ∀ n env st, P n env st → (t env st).post fun k st1 => if k = true then (b env st1).post fun fl st2 => match fl with
        | .nx env2 => ∃ m, m < n ∧ P m env2 st2
        | .ct env2 => ∃ m, m < n ∧ P m env2 st2
        | .bk env2 => Q (.nx env2) st2
        | .rt d => Q (.rt d) st2
      else Q (.nx env) st1) : ∀ (N n : Nat) (env : Env) (st : Sto), n < N → P n env st → (whGo t b N env st).post Q
  | 0, _, _, _, h, _ => absurd h (Nat.not_lt_zero _)
  | N + 1, n, env, st, h, p => by
    unfold whGo
    rw [R.post_bind]
    refine R.post_mono (hs n env st p) fun k st1 q => ?_
    cases k with
    | false => simpa using q
    | true =>
      simp only [if_true] at q ⊢
      rw [R.post_bind]
      refine R.post_mono q fun fl st2 q2 => ?_
      cases fl with
      | nx env2 => obtain ⟨m, hm, pm⟩ := q2; exact whGo_post P hs N m env2 st2 (by omega) pm
      | ct env2 => obtain ⟨m, hm, pm⟩ := q2; exact whGo_post P hs N m env2 st2 (by omega) pm
      | bk env2 => exact q2
      | rt d => exact q2
end DL

namespace DL
open PySem PySem.Spec PyProof.Rows L2
/-! ### a constant of the module: what stands in the written part -/
mutual
def cB (K : PySem.W.Frag) : D → Value → Bool
  | .non, .none => true
  | .bl b, .bool c => b == c
  | .int i, .int j _ => i == j
  | .str x, .str y _ => x == y
  | .tup ds, .ref a => match K.lookup a with
    | some o => (match o.cls with | .type n => n == "tuple" | _ => false) && (match o.data with | .seq its _ => decide (its.size ≤ sizeLine) && csB K ds its.toList | _ => false)
    | none => false
  | .ro ds, .ref a => match K.lookup a with
    | some o => (match o.cls with | .type n => n == "list" | _ => false) && o.dict.isNone && (match o.data with | .seq its _ => decide (its.size ≤ sizeLine) && csB K ds its.toList | _ => false)
    | none => false
  | _, _ => false
def csB (K : PySem.W.Frag) : List D → List Value → Bool
  | [], [] => true
  | d :: ds, v :: vs => cB K d v && csB K ds vs
  | _, _ => false
end
mutual
theorem cB_rep {K : PySem.W.Frag} {H : Hp} {m : List Addr} : ∀ (d : D) (v : Value), cB K d v = true → ∃ u, RelV u v ∧ Rep K H m d u ∧ (∀ a, v = .ref a → u = .ref a)
  | .non, v, h => by
    cases v <;> simp [cB] at h
    exact ⟨.non, rfl, .non, by intro a e; cases e⟩
  | .bl b, v, h => by
    cases v <;> simp [cB] at h
    subst h; exact ⟨.bl _, rfl, .bl _, by intro a e; cases e⟩
  | .int b, v, h => by
    cases v <;> simp [cB] at h
    subst h; exact ⟨.int _, ⟨_, rfl⟩, .int _, by intro a e; cases e⟩
  | .str b, v, h => by
    cases v <;> simp [cB] at h
    subst h; exact ⟨.str _, ⟨_, rfl⟩, .str _, by intro a e; cases e⟩
  | .tup ds, v, h => by
    cases v <;> simp only [cB, Bool.false_eq_true] at h
    rename_i a
    split at h
    · rename_i o ho
      rw [Bool.and_eq_true] at h
      obtain ⟨h1, h2⟩ := h
      split at h1
      · rename_i n hn
        split at h2
        · rename_i its k hd
          rw [Bool.and_eq_true] at h2
          obtain ⟨vs, p, q⟩ := csB_rep ds its.toList h2.2
          exact ⟨.ref a, rfl, .tup (.inr ⟨o, its, k, ho, by rw [hn, eq_of_beq h1], hd, of_decide_eq_true h2.1, p⟩) q, fun b e => by cases e; rfl⟩
        · simp at h2
      · simp at h1
    · simp at h
  | .ro ds, v, h => by
    cases v <;> simp only [cB, Bool.false_eq_true] at h
    rename_i a
    split at h
    · rename_i o ho
      rw [Bool.and_eq_true, Bool.and_eq_true] at h
      obtain ⟨⟨h1, h3⟩, h2⟩ := h
      split at h1
      · rename_i n hn
        split at h2
        · rename_i its k hd
          rw [Bool.and_eq_true] at h2
          obtain ⟨vs, p, q⟩ := csB_rep ds its.toList h2.2
          exact ⟨.ref a, rfl, .ro (.inr ⟨o, its, k, ho, by rw [hn, eq_of_beq h1], Option.isNone_iff_eq_none.mp h3, hd, of_decide_eq_true h2.1, p⟩) q, fun b e => by cases e; rfl⟩
        · simp at h2
      · simp at h1
    · simp at h
  | .ref i, v, h => by cases v <;> simp [cB] at h
theorem csB_rep {K : PySem.W.Frag} {H : Hp} {m : List Addr} : ∀ (ds : List D) (vs : List Value), csB K ds vs = true → ∃ us, Vals us vs ∧ Reps K H m ds us
  | [], [], _ => ⟨[], .nil, .nil⟩
  | [], v :: vs, h => by simp [csB] at h
  | d :: ds, [], h => by simp [csB] at h
  | d :: ds, v :: vs, h => by
    rw [csB, Bool.and_eq_true] at h
    obtain ⟨u, p, q, _⟩ := cB_rep d v h.1
    obtain ⟨us, p', q'⟩ := csB_rep ds vs h.2
    exact ⟨u :: us, .cons p p', .cons q q'⟩
end
theorem rep_k {K : PySem.W.Frag} {d : D} {a : Addr} (h : cB K d (.ref a) = true) (H : Hp) (m : List Addr) : Rep K H m d (.ref a) := by
  obtain ⟨u, _, q, e⟩ := cB_rep (H := H) (m := m) d (.ref a) h
  cases e a rfl; exact q
end DL

namespace DL
open PySem PySem.Spec PyProof.Rows L2
/-! ### small facts for the plain laws -/
theorem get_app {α : Type} (l r : List α) (k : Nat) : (l ++ r)[l.length + k]? = r[k]? := by
  rw [List.getElem?_append_right (by omega)]; congr 1; omega
theorem get_app0 {α : Type} (l r : List α) : (l ++ r)[l.length]? = r[0]? := get_app l r 0
theorem set_app {α : Type} (l r : List α) (k : Nat) (x : α) : (l ++ r).set (l.length + k) x = l ++ r.set k x := by
  rw [List.set_append_right _ _ (by omega)]; congr 2; omega
theorem set_app0 {α : Type} (l r : List α) (x : α) : (l ++ r).set l.length x = l ++ r.set 0 x := set_app l r 0 x
theorem len1 {α : Type} (l : List α) (a : α) : (l ++ [a]).length = l.length + 1 := by simp
theorem len2 {α : Type} (l : List α) (a b : α) : (l ++ [a, b]).length = l.length + 2 := by simp
theorem len3 {α : Type} (l : List α) (a b c : α) : (l ++ [a, b, c]).length = l.length + 3 := by simp
theorem len4 {α : Type} (l : List α) (a b c d : α) : (l ++ [a, b, c, d]).length = l.length + 4 := by simp
theorem toPy_int (st : Sto) (n : Nat) (i : Int) : toPy st n (.int i) = some (.int i) := by cases n <;> rfl
theorem toPy_str (st : Sto) (n : Nat) (i : Str) : toPy st n (.str i) = some (.str i) := by cases n <;> rfl
theorem toPy_non (st : Sto) (n : Nat) : toPy st n .non = some .none := by cases n <;> rfl
theorem toPy_bl (st : Sto) (n : Nat) (i : Bool) : toPy st n (.bl i) = some (.bool i) := by cases n <;> rfl
theorem dEq_int (i j : Int) (st : Sto) : dEq (.int i) (.int j) st = .ok (.bl (decide (i = j))) st := rfl
theorem dNe_int (i j : Int) (st : Sto) : dNe (.int i) (.int j) st = .ok (.bl (!decide (i = j))) st := rfl
theorem dEq_str (i j : Str) (st : Sto) : dEq (.str i) (.str j) st = .ok (.bl (decide (i = j))) st := rfl
theorem dNe_str (i j : Str) (st : Sto) : dNe (.str i) (.str j) st = .ok (.bl (!decide (i = j))) st := rfl
theorem dEq_py {x y : D} {st : Sto} {p q : PyData} (hx : toPy st eqFuel x = some p) (hy : toPy st eqFuel y = some q) (h1 : p.canLay0 = true) (h2 : q.canLay0 = true) : dEq x y st = .ok (.bl (PyData.eqv p q)) st := by
  unfold dEq dEqv
  split
  · rw [toPy_int] at hx hy; cases hx; cases hy
    rw [PyData.eqv, Bool.beq_eq_decide_eq]
  · rw [toPy_str] at hx hy; cases hx; cases hy
    rw [PyData.eqv, Bool.beq_eq_decide_eq]
  · rw [hx, hy]; simp only [h1, h2, and_self, if_true]
theorem dNe_py {x y : D} {st : Sto} {p q : PyData} (hx : toPy st eqFuel x = some p) (hy : toPy st eqFuel y = some q) (h1 : p.canLay0 = true) (h2 : q.canLay0 = true) : dNe x y st = .ok (.bl (!PyData.eqv p q)) st := by
  unfold dNe dEqv
  split
  · rw [toPy_int] at hx hy; cases hx; cases hy
    rw [PyData.eqv, Bool.beq_eq_decide_eq]
  · rw [toPy_str] at hx hy; cases hx; cases hy
    rw [PyData.eqv, Bool.beq_eq_decide_eq]
  · rw [hx, hy]; simp only [h1, h2, and_self, if_true]
mutual
theorem eqv_refl : ∀ p : PyData, p.canLay0 = true → PyData.eqv p p = true
  | .none, _ => by simp [PyData.eqv]
  | .bool _, _ => by simp [PyData.eqv]
  | .int _, _ => by simp [PyData.eqv]
  | .str _, _ => by simp [PyData.eqv]
  | .list xs, h => by rw [PyData.eqv]; exact eqvAll_refl xs (by simpa [PyData.canLay0] using h)
  | .tuple xs, h => by rw [PyData.eqv]; exact eqvAll_refl xs (by simpa [PyData.canLay0] using h)
  | .dict _, h => by simp [PyData.canLay0] at h
theorem eqvAll_refl : ∀ ps : List PyData, PyData.canLayAll0 ps = true → PyData.eqvAll ps ps = true
  | [], _ => by simp [PyData.eqvAll]
  | p :: ps, h => by
    rw [PyData.canLayAll0, Bool.and_eq_true] at h
    rw [PyData.eqvAll, eqv_refl p h.1, eqvAll_refl ps h.2]; rfl
end
theorem dRepr_py {x : D} {st : Sto} {p : PyData} (hx : toPy st eqFuel x = some p) (h1 : p.showable = true) (h2 : p.shown.length ≤ sizeLine) : dRepr [x] st = .ok (.str p.shown) st := by
  simp only [dRepr, hx, h1, h2, and_self, if_true]
/-- data whose text can be told -/
structure Tell (p : PyData) : Prop where
  lay : p.canLay0 = true
  sh : p.showable = true
  len : p.shown.length ≤ sizeLine
/-! the two laws' helper that tells data alike -/
def t_same : DS := (sRet (eAnd (eBin dEq (eCB dRepr (aCons (eVar 0) aNil)) (eCB dRepr (aCons (eVar 1) aNil))) (eBin dEq (eVar 0) (eVar 1))))
theorem same_ok {x y : D} {st : Sto} {p : PyData} (hx : toPy st eqFuel x = some p) (hy : toPy st eqFuel y = some p) (h : Tell p) : mkF 2 2 t_same [x, y] st = .ok (.bl true) st := by
  simp only [t_same, sizeLine, Nat.reducePow, Nat.reduceLeDiff, mkF, startE, sSeq, sSet, sIf, sRet, sRetN, sNext, sDrop, sBreak, sCont, sUnp, sPar, sPar3, sPut, eVar, eC, eBin, eUn, eTup, eLst, aNil, aCons, eCB, eCall, eBMT, eIf, eAnd, eOr, eNot, tOf, tTruth, DL.tNot, DL.tAnd, DL.tOr, tYesD, eSl, oNone, oSome, sFor, iAny, iRange1, iRange2, gN, gT, gSets, eLc, wipeE, R.post_bind, R.bind_ok, R.bind_bad, R.post_ok, R.post_bad, post_ite, sFor_tup, sFor_rng, eLc_tup, eLc_rng, List.getElem?_cons_zero, List.getElem?_cons_succ, List.getElem?_nil, List.set_cons_zero, List.set_cons_succ, List.map_cons, List.map_nil, List.length_cons, List.length_nil, List.replicate, List.cons_append, List.nil_append, Nat.reduceAdd, Nat.reduceSub, reduceIte, dRepr_py hx h.sh h.len, dRepr_py hy h.sh h.len, dEq_str, decide_true, dEq_py hx hy h.lay h.lay, eqv_refl _ h.lay, and_self]
theorem dGt_int (i j : Int) (st : Sto) : dGt (.int i) (.int j) st = .ok (.bl (decide (j < i))) st := rfl
theorem dGe_int (i j : Int) (st : Sto) : dGe (.int i) (.int j) st = .ok (.bl (decide (j ≤ i))) st := rfl
theorem dLt_int (i j : Int) (st : Sto) : dLt (.int i) (.int j) st = .ok (.bl (decide (i < j))) st := rfl
theorem dLe_int (i j : Int) (st : Sto) : dLe (.int i) (.int j) st = .ok (.bl (decide (i ≤ j))) st := rfl
theorem dAdd_int (i j : Int) (st : Sto) : dAdd (.int i) (.int j) st = .ok (.int (i + j)) st := rfl
theorem dSub_int (i j : Int) (st : Sto) : dSub (.int i) (.int j) st = .ok (.int (i - j)) st := rfl
theorem dNeg_int (i : Int) (st : Sto) : dNeg (.int i) st = .ok (.int (-i)) st := rfl
theorem dAbs_int (i : Int) (st : Sto) : dAbs [.int i] st = .ok (.int (if i < 0 then -i else i)) st := rfl
theorem dInt_int (i : Int) (st : Sto) : dInt [.int i] st = .ok (.int i) st := rfl
theorem dInt_bl (b : Bool) (st : Sto) : dInt [.bl b] st = .ok (.int (if b then 1 else 0)) st := rfl
theorem dMul_int {i j : Int} (st : Sto) (h : CMulW i j) : dMul (.int i) (.int j) st = .ok (.int (i * j)) st := by simp only [dMul]; rw [if_pos h]
theorem dFdiv_int {i j : Int} (st : Sto) (h : CDivW 0 j) : dFdiv (.int i) (.int j) st = .ok (.int (i / j)) st := by simp only [dFdiv, dI2]; rw [if_pos (show CDivW i j from h)]
theorem dMod_int {i j : Int} (st : Sto) (h : 0 < j) : dMod (.int i) (.int j) st = .ok (.int (i % j)) st := by simp only [dMod, dI2]; rw [if_pos h]
theorem dPow_int {i j : Int} (st : Sto) (h : CPow i j) : dPow (.int i) (.int j) st = .ok (.int (i ^ j.toNat)) st := by simp only [dPow, dI2]; rw [if_pos h]
theorem lg_lt {i : Int} {n : Nat} (h0 : -(2 ^ n) < i) (h : i < 2 ^ n) (hn : 0 < n) : i.natAbs.log2 < n := by
  by_cases h1 : i.natAbs = 0
  · rw [h1]; simpa using hn
  · rw [Nat.log2_lt h1]
    have : ((i.natAbs : Nat) : Int) < ((2 ^ n : Nat) : Int) := by rw [Int.natCast_pow]; show _ < (2:Int) ^ n; omega
    exact Int.ofNat_lt.mp this
/-- both below 2^1000 -/
theorem cmul {i j : Int} (h1 : -(2 ^ 1000) < i) (h2 : i < 2 ^ 1000) (h3 : -(2 ^ 1000) < j) (h4 : j < 2 ^ 1000) : CMulW i j := by
  have := lg_lt h1 h2 (by decide); have := lg_lt h3 h4 (by decide)
  unfold CMulW; omega
theorem forL_rng {g : DG} {b : DS} {Q : Fl → Sto → Prop} {lo : Int} {n : Nat} (P : Nat → Env → Sto → Prop)
    (hs : ∀ i env st, i < n → P i env st → ∃ env1, g (.int (lo + (i : Int))) env = some env1 ∧ (b env1 st).post fun fl st1 => match fl with
      | .nx env2 => P (i + 1) env2 st1
      | .ct env2 => P (i + 1) env2 st1
      | .bk env2 => Q (.nx env2) st1
      | .rt d => Q (.rt d) st1)
    (h0 : ∀ env st, P n env st → Q (.nx env) st) {env : Env} {st : Sto} (p : P 0 env st) : (forL g b (rngL lo n) env st).post Q := by
  refine forL_post (fun ds env st => ∃ i, i ≤ n ∧ ds = (rngL lo n).drop i ∧ P i env st) ?_ ?_ _ env st ⟨0, by omega, rfl, p⟩
  · intro d ds env st ⟨i, hi, e, q⟩
    have hl : (rngL lo n).length = n := by simp [rngL]
    by_cases h : i < n
    · rw [List.drop_eq_getElem_cons (by omega)] at e
      obtain ⟨e1, e2⟩ := List.cons.inj e
      have : (rngL lo n)[i]'(by omega) = .int (lo + (i : Int)) := by simp [rngL]
      rw [this] at e1; subst e1
      obtain ⟨env1, k1, k2⟩ := hs i env st h q
      refine ⟨env1, k1, R.post_mono k2 fun fl st1 k => ?_⟩
      cases fl with
      | nx env2 => exact ⟨i + 1, h, e2, k⟩
      | ct env2 => exact ⟨i + 1, h, e2, k⟩
      | bk env2 => exact k
      | rt d => exact k
    · rw [List.drop_of_length_le (by omega)] at e; cases e
  · intro env st ⟨i, hi, e, q⟩
    have hl : (rngL lo n).length = n := by simp [rngL]
    by_cases h : i < n
    · have := congrArg List.length e; rw [List.length_drop, hl] at this; simp at this; omega
    · have : i = n := by omega
      subst this; exact h0 _ _ q

/-! ### the draws -/
def t_draws : DS := (sSeq (sSet 2 (eLst aNil))
  (sSeq (sFor (iAny (eSl dSl (eVar 0) oNone (oSome (eC (.int 63))))) (gN 3) (sSeq (sSet 4 (eCB dAbs (aCons (eCB dInt (aCons (eVar 3) aNil)) aNil)))
  (sIf (tOf (eBin dGe (eVar 4) (eBin dPow (eC (.int 10)) (eC (.int 18))))) (sFor (iRange1 (aCons (eC (.int 60)) aNil)) (gN 5) (sIf (tOf (eBin dGt (eVar 4) (eC (.int 0)))) (sSeq (sDrop (eBMT "list" dAppend (eVar 2) (aCons (eBin dMod (eVar 4) (eC (.int 1000003))) aNil)))
  (sSet 4 (eBin dFdiv (eVar 4) (eC (.int 1000003))))) sNext)) (sSeq (sSet 6 (eBin dMod (eBin dAdd (eBin dAdd (eBin dMul (eVar 4) (eC (.int 48271))) (eBin dMul (eC (.int 7)) (eCB dLen (aCons (eVar 2) aNil)))) (eC (.int 11))) (eC (.int 2147483647))))
  (sFor (iRange1 (aCons (eC (.int 4)) aNil)) (gN 5) (sSeq (sSet 6 (eBin dMod (eBin dAdd (eBin dAdd (eBin dAdd (eBin dMul (eVar 6) (eC (.int 69621))) (eBin dFdiv (eVar 6) (eC (.int 65536)))) (eBin dMul (eC (.int 13)) (eVar 5))) (eC (.int 5))) (eC (.int 2147483629))))
  (sDrop (eBMT "list" dAppend (eVar 2) (aCons (eBin dMod (eBin dFdiv (eVar 6) (eC (.int 8))) (eC (.int 1000003))) aNil)))))))))
  (sSeq (sFor (iRange1 (aCons (eVar 1) aNil)) (gN 5) (sIf (tOf (eBin dLt (eCB dLen (aCons (eVar 2) aNil)) (eVar 1))) (sSeq (sSet 7 (eC (.int 0)))
  (sSeq (sIf (tOf (eBin dGt (eCB dLen (aCons (eVar 2) aNil)) (eC (.int 0)))) (sSet 7 (eBin dIx (eVar 2) (eBin dMod (eVar 5) (eCB dLen (aCons (eVar 2) aNil))))) sNext)
  (sDrop (eBMT "list" dAppend (eVar 2) (aCons (eBin dMod (eBin dAdd (eBin dAdd (eBin dMul (eVar 7) (eC (.int 16807))) (eBin dMul (eC (.int 31)) (eCB dLen (aCons (eVar 2) aNil)))) (eC (.int 17))) (eC (.int 1000003))) aNil))))) sNext))
  (sRet (eSl dSl (eVar 2) oNone (oSome (eVar 1)))))))
def Draw (xs : List Int) : Prop := ∀ x ∈ xs, 0 ≤ x ∧ x < 1000003
theorem Draw.app {xs : List Int} (h : Draw xs) {x : Int} (h0 : 0 ≤ x) (h1 : x < 1000003) : Draw (xs ++ [x]) := by
  intro y hy
  rcases List.mem_append.mp hy with hy | hy
  · exact h y hy
  · cases List.mem_singleton.mp hy; exact ⟨h0, h1⟩
section
variable {st0 : Sto} {cs : List D} {s m : D}
/-- the store while it draws -/
def dSt (st0 : Sto) (cs : List D) (xs : List Int) : Sto := st0 ++ [.lst (xs.map .int), .lst cs]
theorem dSt_get : (dSt st0 cs xs)[st0.length]? = some (.lst (xs.map .int)) := by rw [dSt, get_app0]; rfl
theorem dSt_get1 : (dSt st0 cs xs)[st0.length + 1]? = some (.lst cs) := by rw [dSt, get_app]; rfl
theorem dSt_app {x : Int} (st : Sto) : (dSt st0 cs xs).set st0.length (.lst (xs.map .int ++ [.int x])) = dSt st0 cs (xs ++ [x]) := by
  rw [dSt, set_app0, dSt]; simp
theorem app_ok {xs : List Int} {x : Int} (h : xs.length < 1000000) : dAppend (.ref st0.length) [.int x] (dSt st0 cs xs) = .ok .non (dSt st0 cs (xs ++ [x])) := by
  simp only [dAppend, dSt_get, List.length_map]
  rw [if_pos (by unfold sizeLine; omega), dSt_app (dSt st0 cs xs)]
theorem len_ok {xs : List Int} : dLen [.ref st0.length] (dSt st0 cs xs) = .ok (.int xs.length) (dSt st0 cs xs) := by
  simp only [dLen, dSt_get, List.length_map]
theorem ty_ok {xs : List Int} : dTy "list" (.ref st0.length) (dSt st0 cs xs) = true := by
  simp only [dTy, dSt_get]; rfl

theorem i60 : (-(2:Int) ^ 62 ≤ 60 ∧ (60:Int) < 2 ^ 62) := by decide
theorem i4 : (-(2:Int) ^ 62 ≤ 4 ∧ (4:Int) < 2 ^ 62) := by decide
theorem cd1 : CDivW 0 1000003 := by decide +kernel
theorem cd2 : CDivW 0 65536 := by decide +kernel
theorem cd3 : CDivW 0 8 := by decide +kernel
def DInv (st0 : Sto) (cs : List D) (s m : D) (B : Nat) (env : Env) (st : Sto) : Prop := ∃ xs x3 x4 x5 x6 x7, env = [some s, some m, some (.ref st0.length), x3, x4, x5, x6, x7] ∧ st = dSt st0 cs xs ∧ Draw xs ∧ xs.length ≤ B
theorem drawA (st0 : Sto) (cs : List D) (s m : D) {Q : Fl → Sto → Prop} {xs : List Int} {x3 x5 x6 x7 : Option D} {number : Int} (hn : 0 ≤ number) (hx : Draw xs) {B : Nat} (hB : xs.length ≤ B) (hB2 : B + 60 < 1000000)
    (h : ∀ env st, DInv st0 cs s m (B + 60) env st → Q (.nx env) st) :
    (forL (gN 5) (sIf (tOf (eBin dGt (eVar 4) (eC (.int 0)))) (sSeq (sDrop (eBMT "list" dAppend (eVar 2) (aCons (eBin dMod (eVar 4) (eC (.int 1000003))) aNil)))
  (sSet 4 (eBin dFdiv (eVar 4) (eC (.int 1000003))))) sNext) (rngL 0 60) [some s, some m, some (.ref st0.length), x3, some (.int number), x5, x6, x7] (dSt st0 cs xs)).post Q := by
  refine forL_rng (fun i env st => ∃ xs x5 number, env = [some s, some m, some (.ref st0.length), x3, some (.int number), x5, x6, x7] ∧ st = dSt st0 cs xs ∧ 0 ≤ number ∧ Draw xs ∧ xs.length ≤ B + i) ?_ ?_ ⟨xs, x5, number, rfl, rfl, hn, hx, by omega⟩
  · rintro i env st hi ⟨xs, x5, number, rfl, rfl, hn, hx, hl⟩
    refine ⟨_, rfl, ?_⟩
    have hp : (0:Int) < 1000003 := by decide
    simp only [sizeLine, Nat.reducePow, Nat.reduceLeDiff, mkF, startE, sSeq, sSet, sIf, sRet, sRetN, sNext, sDrop, sBreak, sCont, sUnp, sPar, sPar3, sPut, eVar, eC, eBin, eUn, eTup, eLst, aNil, aCons, eCB, eCall, eBMT, eIf, eAnd, eOr, eNot, tOf, tTruth, DL.tNot, DL.tAnd, DL.tOr, tYesD, eSl, oNone, oSome, sFor, iAny, iRange1, iRange2, gN, gT, gSets, eLc, wipeE, R.post_bind, R.bind_ok, R.bind_bad, R.post_ok, R.post_bad, post_ite, sFor_tup, sFor_rng, eLc_tup, eLc_rng, List.getElem?_cons_zero, List.getElem?_cons_succ, List.getElem?_nil, List.set_cons_zero, List.set_cons_succ, List.map_cons, List.map_nil, List.length_cons, List.length_nil, List.replicate, List.cons_append, List.nil_append, Nat.reduceAdd, Nat.reduceSub, reduceIte, dGt_int]
    by_cases h0 : 0 < number
    · simp only [h0, decide_true, sizeLine, Nat.reducePow, Nat.reduceLeDiff, mkF, startE, sSeq, sSet, sIf, sRet, sRetN, sNext, sDrop, sBreak, sCont, sUnp, sPar, sPar3, sPut, eVar, eC, eBin, eUn, eTup, eLst, aNil, aCons, eCB, eCall, eBMT, eIf, eAnd, eOr, eNot, tOf, tTruth, DL.tNot, DL.tAnd, DL.tOr, tYesD, eSl, oNone, oSome, sFor, iAny, iRange1, iRange2, gN, gT, gSets, eLc, wipeE, R.post_bind, R.bind_ok, R.bind_bad, R.post_ok, R.post_bad, post_ite, sFor_tup, sFor_rng, eLc_tup, eLc_rng, List.getElem?_cons_zero, List.getElem?_cons_succ, List.getElem?_nil, List.set_cons_zero, List.set_cons_succ, List.map_cons, List.map_nil, List.length_cons, List.length_nil, List.replicate, List.cons_append, List.nil_append, Nat.reduceAdd, Nat.reduceSub, reduceIte, dMod_int _ hp, dFdiv_int _ cd1, ty_ok, app_ok (show xs.length < 1000000 by omega)]
      exact ⟨_, _, _, rfl, rfl, by omega, hx.app (by omega) (by omega), by simp; omega⟩
    · simp only [h0, decide_false, Bool.false_eq_true, sizeLine, Nat.reducePow, Nat.reduceLeDiff, mkF, startE, sSeq, sSet, sIf, sRet, sRetN, sNext, sDrop, sBreak, sCont, sUnp, sPar, sPar3, sPut, eVar, eC, eBin, eUn, eTup, eLst, aNil, aCons, eCB, eCall, eBMT, eIf, eAnd, eOr, eNot, tOf, tTruth, DL.tNot, DL.tAnd, DL.tOr, tYesD, eSl, oNone, oSome, sFor, iAny, iRange1, iRange2, gN, gT, gSets, eLc, wipeE, R.post_bind, R.bind_ok, R.bind_bad, R.post_ok, R.post_bad, post_ite, sFor_tup, sFor_rng, eLc_tup, eLc_rng, List.getElem?_cons_zero, List.getElem?_cons_succ, List.getElem?_nil, List.set_cons_zero, List.set_cons_succ, List.map_cons, List.map_nil, List.length_cons, List.length_nil, List.replicate, List.cons_append, List.nil_append, Nat.reduceAdd, Nat.reduceSub, reduceIte]
      exact ⟨_, _, _, rfl, rfl, by omega, hx, by omega⟩
  · rintro env st ⟨xs, x5, number, rfl, rfl, hn, hx, hl⟩
    exact h _ _ ⟨_, _, _, _, _, _, rfl, rfl, hx, hl⟩

theorem big {i : Int} (h : -(2 ^ 200) < i) (h' : i < 2 ^ 200) : -(2 ^ 1000) < i ∧ i < 2 ^ 1000 := by
  have : (2:Int) ^ 200 ≤ 2 ^ 1000 := by decide +kernel
  omega
theorem cmulS {i j : Int} (h1 : -(10 ^ 40) < i) (h2 : i < 10 ^ 40) (h3 : -(10 ^ 40) < j) (h4 : j < 10 ^ 40) : CMulW i j := by
  have e : (10:Int) ^ 40 ≤ 2 ^ 1000 := by decide +kernel
  exact cmul (by omega) (by omega) (by omega) (by omega)
theorem drawB (st0 : Sto) (cs : List D) (s m : D) {Q : Fl → Sto → Prop} {xs : List Int} {x3 x4 x5 x7 : Option D} {mixed : Int} (hn : 0 ≤ mixed) (hn1 : mixed < 2147483647) (hx : Draw xs) {B : Nat} (hB : xs.length ≤ B) (hB2 : B + 60 < 1000000)
    (h : ∀ env st, DInv st0 cs s m (B + 60) env st → Q (.nx env) st) :
    (forL (gN 5) (sSeq (sSet 6 (eBin dMod (eBin dAdd (eBin dAdd (eBin dAdd (eBin dMul (eVar 6) (eC (.int 69621))) (eBin dFdiv (eVar 6) (eC (.int 65536)))) (eBin dMul (eC (.int 13)) (eVar 5))) (eC (.int 5))) (eC (.int 2147483629))))
  (sDrop (eBMT "list" dAppend (eVar 2) (aCons (eBin dMod (eBin dFdiv (eVar 6) (eC (.int 8))) (eC (.int 1000003))) aNil)))) (rngL 0 4) [some s, some m, some (.ref st0.length), x3, x4, x5, some (.int mixed), x7] (dSt st0 cs xs)).post Q := by
  refine forL_rng (fun i env st => ∃ xs x5 mixed, env = [some s, some m, some (.ref st0.length), x3, x4, x5, some (.int mixed), x7] ∧ st = dSt st0 cs xs ∧ 0 ≤ mixed ∧ mixed < 2147483647 ∧ Draw xs ∧ xs.length ≤ B + i) ?_ ?_ ⟨xs, x5, mixed, rfl, rfl, hn, hn1, hx, by omega⟩
  · rintro i env st hi ⟨xs, x5, mixed, rfl, rfl, hn, hn1, hx, hl⟩
    refine ⟨_, rfl, ?_⟩
    have hp : (0:Int) < 1000003 := by decide
    have hp2 : (0:Int) < 2147483629 := by decide
    have c1 : CMulW mixed 69621 := cmulS (by omega) (by omega) (by decide) (by decide)
    have c2 : CMulW 13 (0 + (i : Int)) := cmulS (by decide) (by decide) (by omega) (by omega)
    simp only [sizeLine, Nat.reducePow, Nat.reduceLeDiff, mkF, startE, sSeq, sSet, sIf, sRet, sRetN, sNext, sDrop, sBreak, sCont, sUnp, sPar, sPar3, sPut, eVar, eC, eBin, eUn, eTup, eLst, aNil, aCons, eCB, eCall, eBMT, eIf, eAnd, eOr, eNot, tOf, tTruth, DL.tNot, DL.tAnd, DL.tOr, tYesD, eSl, oNone, oSome, sFor, iAny, iRange1, iRange2, gN, gT, gSets, eLc, wipeE, R.post_bind, R.bind_ok, R.bind_bad, R.post_ok, R.post_bad, post_ite, sFor_tup, sFor_rng, eLc_tup, eLc_rng, List.getElem?_cons_zero, List.getElem?_cons_succ, List.getElem?_nil, List.set_cons_zero, List.set_cons_succ, List.map_cons, List.map_nil, List.length_cons, List.length_nil, List.replicate, List.cons_append, List.nil_append, Nat.reduceAdd, Nat.reduceSub, reduceIte, dMod_int _ hp, dMod_int _ hp2, dFdiv_int _ cd2, dFdiv_int _ cd3, dMul_int _ c1, dMul_int _ c2, dAdd_int, ty_ok, app_ok (show xs.length < 1000000 by omega)]
    exact ⟨_, _, _, rfl, rfl, by omega, by omega, hx.app (by omega) (by omega), by simp; omega⟩
  · rintro env st ⟨xs, x5, mixed, rfl, rfl, hn, hn1, hx, hl⟩
    exact h _ _ ⟨_, _, _, _, _, _, rfl, rfl, hx, by omega⟩
theorem p18 : CPow 10 18 := by decide +kernel
theorem cut63 (xs : List D) : cutD xs none (some 63) = xs.take 63 := by
  unfold cutD HT.sIx
  simp
theorem drawC (st0 : Sto) (ns : List Int) (hns : ns.length ≤ 63) (m : D) {Q : Fl → Sto → Prop} (s : D) {x3 x4 x5 x6 x7 : Option D}
    (h : ∀ env st, DInv st0 (ns.map .int) s m 4000 env st → Q (.nx env) st) :
    (forGo (.lst (st0.length + 1)) (gN 3) (sSeq (sSet 4 (eCB dAbs (aCons (eCB dInt (aCons (eVar 3) aNil)) aNil)))
  (sIf (tOf (eBin dGe (eVar 4) (eBin dPow (eC (.int 10)) (eC (.int 18))))) (sFor (iRange1 (aCons (eC (.int 60)) aNil)) (gN 5) (sIf (tOf (eBin dGt (eVar 4) (eC (.int 0)))) (sSeq (sDrop (eBMT "list" dAppend (eVar 2) (aCons (eBin dMod (eVar 4) (eC (.int 1000003))) aNil)))
  (sSet 4 (eBin dFdiv (eVar 4) (eC (.int 1000003))))) sNext)) (sSeq (sSet 6 (eBin dMod (eBin dAdd (eBin dAdd (eBin dMul (eVar 4) (eC (.int 48271))) (eBin dMul (eC (.int 7)) (eCB dLen (aCons (eVar 2) aNil)))) (eC (.int 11))) (eC (.int 2147483647))))
  (sFor (iRange1 (aCons (eC (.int 4)) aNil)) (gN 5) (sSeq (sSet 6 (eBin dMod (eBin dAdd (eBin dAdd (eBin dAdd (eBin dMul (eVar 6) (eC (.int 69621))) (eBin dFdiv (eVar 6) (eC (.int 65536)))) (eBin dMul (eC (.int 13)) (eVar 5))) (eC (.int 5))) (eC (.int 2147483629))))
  (sDrop (eBMT "list" dAppend (eVar 2) (aCons (eBin dMod (eBin dFdiv (eVar 6) (eC (.int 8))) (eC (.int 1000003))) aNil)))))))) ((DIt.lst (st0.length + 1)).size (dSt st0 (ns.map .int) []) + 1) 0 [some s, some m, some (.ref st0.length), x3, x4, x5, x6, x7] (dSt st0 (ns.map .int) [])).post Q := by
  refine sFor_lst (xs := ns.map .int) (fun ds env st => ∃ ms : List Int, ds = ms.map .int ∧ ms.length ≤ 63 ∧ DInv st0 (ns.map .int) s m (60 * (63 - ms.length)) env st) dSt_get1 ⟨ns, rfl, hns, [], _, _, _, _, _, rfl, rfl, (by intro x hx; cases hx), by simp⟩ ?_ ?_
  · rintro d ds env st ⟨ms, e, hm, xs, x3, x4, x5, x6, x7, rfl, rfl, hx, hl⟩
    cases ms with
    | nil => cases e
    | cons k ms =>
      simp only [List.map_cons, List.cons.injEq] at e
      obtain ⟨rfl, rfl⟩ := e
      refine ⟨dSt_get1, _, rfl, ?_⟩
      simp only [List.length_cons] at hm hl
      have hp : (0:Int) < 2147483647 := by decide
      have hL : (60 * (63 - (ms.length + 1))) + 60 = 60 * (63 - ms.length) := by omega
      simp only [sizeLine, Nat.reducePow, Nat.reduceLeDiff, mkF, startE, sSeq, sSet, sIf, sRet, sRetN, sNext, sDrop, sBreak, sCont, sUnp, sPar, sPar3, sPut, eVar, eC, eBin, eUn, eTup, eLst, aNil, aCons, eCB, eCall, eBMT, eIf, eAnd, eOr, eNot, tOf, tTruth, DL.tNot, DL.tAnd, DL.tOr, tYesD, eSl, oNone, oSome, sFor, iAny, iRange1, iRange2, gN, gT, gSets, eLc, wipeE, R.post_bind, R.bind_ok, R.bind_bad, R.post_ok, R.post_bad, post_ite, sFor_tup, sFor_rng, eLc_tup, eLc_rng, List.getElem?_cons_zero, List.getElem?_cons_succ, List.getElem?_nil, List.set_cons_zero, List.set_cons_succ, List.map_cons, List.map_nil, List.length_cons, List.length_nil, List.replicate, List.cons_append, List.nil_append, Nat.reduceAdd, Nat.reduceSub, reduceIte, dAbs_int, dInt_int, dPow_int _ p18, dGe_int, i60, i4, and_self]
      by_cases hg : (10:Int) ^ (18:Int).toNat ≤ (if k < 0 then -k else k)
      · simp only [hg, decide_true, sizeLine, Nat.reducePow, Nat.reduceLeDiff, mkF, startE, sSeq, sSet, sIf, sRet, sRetN, sNext, sDrop, sBreak, sCont, sUnp, sPar, sPar3, sPut, eVar, eC, eBin, eUn, eTup, eLst, aNil, aCons, eCB, eCall, eBMT, eIf, eAnd, eOr, eNot, tOf, tTruth, DL.tNot, DL.tAnd, DL.tOr, tYesD, eSl, oNone, oSome, sFor, iAny, iRange1, iRange2, gN, gT, gSets, eLc, wipeE, R.post_bind, R.bind_ok, R.bind_bad, R.post_ok, R.post_bad, post_ite, sFor_tup, sFor_rng, eLc_tup, eLc_rng, List.getElem?_cons_zero, List.getElem?_cons_succ, List.getElem?_nil, List.set_cons_zero, List.set_cons_succ, List.map_cons, List.map_nil, List.length_cons, List.length_nil, List.replicate, List.cons_append, List.nil_append, Nat.reduceAdd, Nat.reduceSub, reduceIte, sFor_rng]
        refine drawA st0 _ s m (number := if k < 0 then -k else k) (by split <;> omega) hx hl (by omega) fun env st h => ?_
        rw [hL] at h
        exact ⟨ms, rfl, by omega, h⟩
      · have hk : 0 ≤ (if k < 0 then -k else k) := by split <;> omega
        have hg' : (if k < 0 then -k else k) < 10 ^ 18 := Int.not_le.mp hg
        have c1 : CMulW (if k < 0 then -k else k) 48271 := cmulS (by omega) (by omega) (by decide) (by decide)
        have c2 : CMulW 7 (xs.length : Int) := cmulS (by decide) (by decide) (by omega) (by omega)
        simp only [hg, decide_false, Bool.false_eq_true, sizeLine, Nat.reducePow, Nat.reduceLeDiff, mkF, startE, sSeq, sSet, sIf, sRet, sRetN, sNext, sDrop, sBreak, sCont, sUnp, sPar, sPar3, sPut, eVar, eC, eBin, eUn, eTup, eLst, aNil, aCons, eCB, eCall, eBMT, eIf, eAnd, eOr, eNot, tOf, tTruth, DL.tNot, DL.tAnd, DL.tOr, tYesD, eSl, oNone, oSome, sFor, iAny, iRange1, iRange2, gN, gT, gSets, eLc, wipeE, R.post_bind, R.bind_ok, R.bind_bad, R.post_ok, R.post_bad, post_ite, sFor_tup, sFor_rng, eLc_tup, eLc_rng, List.getElem?_cons_zero, List.getElem?_cons_succ, List.getElem?_nil, List.set_cons_zero, List.set_cons_succ, List.map_cons, List.map_nil, List.length_cons, List.length_nil, List.replicate, List.cons_append, List.nil_append, Nat.reduceAdd, Nat.reduceSub, reduceIte, len_ok, dMul_int _ c1, dMul_int _ c2, dAdd_int, dMod_int _ hp, i4, and_self, sFor_rng]
        refine drawB st0 _ s m (by omega) (by omega) hx hl (by omega) fun env st h => ?_
        rw [hL] at h
        exact ⟨ms, rfl, by omega, h⟩
  · rintro env st ⟨ms, e, hm, hi⟩
    refine ⟨?_, h _ _ ?_⟩
    · obtain ⟨xs, x3, x4, x5, x6, x7, rfl, rfl, hx, hl⟩ := hi
      exact dSt_get1
    · obtain ⟨xs, x3, x4, x5, x6, x7, rfl, rfl, hx, hl⟩ := hi
      exact ⟨_, _, _, _, _, _, rfl, rfl, hx, by omega⟩

theorem atI_ok {α : Type} {xs : List α} {i : Int} (h0 : 0 ≤ i) (h : i < xs.length) : ∃ x, x ∈ xs ∧ atI xs i = some x := by
  have hl : i.toNat < xs.length := by omega
  refine ⟨xs[i.toNat], List.getElem_mem hl, ?_⟩
  unfold atI
  simp only [ixN, h0, h, if_true, Option.bind_some, List.getElem?_eq_getElem hl]
theorem ix_ok {xs : List Int} (hx : Draw xs) {i : Int} (h0 : 0 ≤ i) (h : i < xs.length) : ∃ x, 0 ≤ x ∧ x < 1000003 ∧ dIx (.ref st0.length) (.int i) (dSt st0 cs xs) = .ok (.int x) (dSt st0 cs xs) := by
  obtain ⟨d, hm, e⟩ := atI_ok (xs := xs.map D.int) h0 (by simpa using h)
  obtain ⟨x, hx', rfl⟩ := List.mem_map.mp hm
  refine ⟨x, (hx x hx').1, (hx x hx').2, ?_⟩
  simp only [dIx, dSt_get, e]
theorem Draw.take {xs : List Int} (h : Draw xs) (n : Nat) : Draw (xs.take n) := fun x hx => h x (List.mem_of_mem_take hx)
theorem cut_to (xs : List D) {k : Int} (h : 0 ≤ k) : cutD xs none (some k) = xs.take k.toNat := by
  unfold cutD HT.sIx
  have : ¬ k < 0 := by omega
  simp [this]
/-- after the draws -/
theorem draws_post {st0 : Sto} {ns : List Int} (hns : ns.length ≤ 63) {many : Int} (h0 : 0 ≤ many) (h1 : many ≤ 5000) {Q : D → Sto → Prop}
    (h : ∀ ys ws : List Int, Draw ws → (ws.length : Int) ≤ many → Q (.ref (st0.length + 2)) (st0 ++ [.lst (ys.map .int), .lst (ns.map .int), .lst (ws.map .int)])) :
    (mkF 8 2 t_draws [.ro (ns.map .int), .int many] st0).post Q := by
  have e63 : (ns.map D.int).take 63 = ns.map D.int := List.take_of_length_le (by simpa using hns)
  have ez : st0 ++ [O.lst []] ++ [O.lst (ns.map D.int)] = dSt st0 (ns.map .int) [] := by simp [dSt]
  have sz : ([] : List D).length ≤ sizeLine := by decide
  have i1 : (-(2:Int) ^ 62 ≤ many ∧ many < 2 ^ 62) := by omega
  have hp : (0:Int) < 1000003 := by decide
  simp only [t_draws, sizeLine, Nat.reducePow, Nat.reduceLeDiff, mkF, startE, sSeq, sSet, sIf, sRet, sRetN, sNext, sDrop, sBreak, sCont, sUnp, sPar, sPar3, sPut, eVar, eC, eBin, eUn, eTup, eLst, aNil, aCons, eCB, eCall, eBMT, eIf, eAnd, eOr, eNot, tOf, tTruth, DL.tNot, DL.tAnd, DL.tOr, tYesD, eSl, oNone, oSome, sFor, iAny, iRange1, iRange2, gN, gT, gSets, eLc, wipeE, R.post_bind, R.bind_ok, R.bind_bad, R.post_ok, R.post_bad, post_ite, sFor_tup, sFor_rng, eLc_tup, eLc_rng, List.getElem?_cons_zero, List.getElem?_cons_succ, List.getElem?_nil, List.set_cons_zero, List.set_cons_succ, List.map_cons, List.map_nil, List.length_cons, List.length_nil, List.replicate, List.cons_append, List.nil_append, Nat.reduceAdd, Nat.reduceSub, reduceIte, dSl, cut63, e63, sz, len1, ez]
  refine drawC st0 ns hns (.int many) (.ro (ns.map .int)) fun env st ⟨xs, x3, x4, x5, x6, x7, he, hs, hx, hl⟩ => ?_
  subst he; subst hs
  simp only [sizeLine, Nat.reducePow, Nat.reduceLeDiff, mkF, startE, sSeq, sSet, sIf, sRet, sRetN, sNext, sDrop, sBreak, sCont, sUnp, sPar, sPar3, sPut, eVar, eC, eBin, eUn, eTup, eLst, aNil, aCons, eCB, eCall, eBMT, eIf, eAnd, eOr, eNot, tOf, tTruth, DL.tNot, DL.tAnd, DL.tOr, tYesD, eSl, oNone, oSome, sFor, iAny, iRange1, iRange2, gN, gT, gSets, eLc, wipeE, R.post_bind, R.bind_ok, R.bind_bad, R.post_ok, R.post_bad, post_ite, sFor_tup, sFor_rng, eLc_tup, eLc_rng, List.getElem?_cons_zero, List.getElem?_cons_succ, List.getElem?_nil, List.set_cons_zero, List.set_cons_succ, List.map_cons, List.map_nil, List.length_cons, List.length_nil, List.replicate, List.cons_append, List.nil_append, Nat.reduceAdd, Nat.reduceSub, reduceIte, i1, and_self, sFor_rng]
  refine forL_rng (fun i env st => ∃ xs x5 x7, env = [some (.ro (ns.map .int)), some (.int many), some (.ref st0.length), x3, x4, x5, x6, x7] ∧ st = dSt st0 (ns.map .int) xs ∧ Draw xs ∧ xs.length ≤ 4000 + i) ?_ ?_ ⟨xs, x5, x7, rfl, rfl, hx, by omega⟩
  · rintro i env st hi ⟨xs, x5, x7, rfl, rfl, hx, hl⟩
    refine ⟨_, rfl, ?_⟩
    simp only [sizeLine, Nat.reducePow, Nat.reduceLeDiff, mkF, startE, sSeq, sSet, sIf, sRet, sRetN, sNext, sDrop, sBreak, sCont, sUnp, sPar, sPar3, sPut, eVar, eC, eBin, eUn, eTup, eLst, aNil, aCons, eCB, eCall, eBMT, eIf, eAnd, eOr, eNot, tOf, tTruth, DL.tNot, DL.tAnd, DL.tOr, tYesD, eSl, oNone, oSome, sFor, iAny, iRange1, iRange2, gN, gT, gSets, eLc, wipeE, R.post_bind, R.bind_ok, R.bind_bad, R.post_ok, R.post_bad, post_ite, sFor_tup, sFor_rng, eLc_tup, eLc_rng, List.getElem?_cons_zero, List.getElem?_cons_succ, List.getElem?_nil, List.set_cons_zero, List.set_cons_succ, List.map_cons, List.map_nil, List.length_cons, List.length_nil, List.replicate, List.cons_append, List.nil_append, Nat.reduceAdd, Nat.reduceSub, reduceIte, len_ok, dLt_int]
    by_cases hlt : (xs.length : Int) < many
    · simp only [hlt, decide_true, sizeLine, Nat.reducePow, Nat.reduceLeDiff, mkF, startE, sSeq, sSet, sIf, sRet, sRetN, sNext, sDrop, sBreak, sCont, sUnp, sPar, sPar3, sPut, eVar, eC, eBin, eUn, eTup, eLst, aNil, aCons, eCB, eCall, eBMT, eIf, eAnd, eOr, eNot, tOf, tTruth, DL.tNot, DL.tAnd, DL.tOr, tYesD, eSl, oNone, oSome, sFor, iAny, iRange1, iRange2, gN, gT, gSets, eLc, wipeE, R.post_bind, R.bind_ok, R.bind_bad, R.post_ok, R.post_bad, post_ite, sFor_tup, sFor_rng, eLc_tup, eLc_rng, List.getElem?_cons_zero, List.getElem?_cons_succ, List.getElem?_nil, List.set_cons_zero, List.set_cons_succ, List.map_cons, List.map_nil, List.length_cons, List.length_nil, List.replicate, List.cons_append, List.nil_append, Nat.reduceAdd, Nat.reduceSub, reduceIte, len_ok, dGt_int]
      by_cases hpos : (0:Int) < xs.length
      · obtain ⟨x, hx0, hx1, ex⟩ := ix_ok (st0 := st0) (cs := ns.map .int) hx (i := (0 + (i:Int)) % xs.length) (Int.emod_nonneg _ (by omega)) (Int.emod_lt_of_pos _ hpos)
        have c1 : CMulW x 16807 := cmulS (by omega) (by omega) (by decide) (by decide)
        have c2 : CMulW 31 (xs.length : Int) := cmulS (by decide) (by decide) (by omega) (by omega)
        simp only [hpos, decide_true, sizeLine, Nat.reducePow, Nat.reduceLeDiff, mkF, startE, sSeq, sSet, sIf, sRet, sRetN, sNext, sDrop, sBreak, sCont, sUnp, sPar, sPar3, sPut, eVar, eC, eBin, eUn, eTup, eLst, aNil, aCons, eCB, eCall, eBMT, eIf, eAnd, eOr, eNot, tOf, tTruth, DL.tNot, DL.tAnd, DL.tOr, tYesD, eSl, oNone, oSome, sFor, iAny, iRange1, iRange2, gN, gT, gSets, eLc, wipeE, R.post_bind, R.bind_ok, R.bind_bad, R.post_ok, R.post_bad, post_ite, sFor_tup, sFor_rng, eLc_tup, eLc_rng, List.getElem?_cons_zero, List.getElem?_cons_succ, List.getElem?_nil, List.set_cons_zero, List.set_cons_succ, List.map_cons, List.map_nil, List.length_cons, List.length_nil, List.replicate, List.cons_append, List.nil_append, Nat.reduceAdd, Nat.reduceSub, reduceIte, len_ok, dMod_int _ hpos, ex, dMul_int _ c1, dMul_int _ c2, dAdd_int, dMod_int _ hp, ty_ok, app_ok (show xs.length < 1000000 by omega)]
        exact ⟨_, _, _, rfl, rfl, hx.app (by omega) (by omega), by simp; omega⟩
      · have c1 : CMulW 0 16807 := by decide +kernel
        have c2 : CMulW 31 (xs.length : Int) := cmulS (by decide) (by decide) (by omega) (by omega)
        simp only [hpos, decide_false, Bool.false_eq_true, sizeLine, Nat.reducePow, Nat.reduceLeDiff, mkF, startE, sSeq, sSet, sIf, sRet, sRetN, sNext, sDrop, sBreak, sCont, sUnp, sPar, sPar3, sPut, eVar, eC, eBin, eUn, eTup, eLst, aNil, aCons, eCB, eCall, eBMT, eIf, eAnd, eOr, eNot, tOf, tTruth, DL.tNot, DL.tAnd, DL.tOr, tYesD, eSl, oNone, oSome, sFor, iAny, iRange1, iRange2, gN, gT, gSets, eLc, wipeE, R.post_bind, R.bind_ok, R.bind_bad, R.post_ok, R.post_bad, post_ite, sFor_tup, sFor_rng, eLc_tup, eLc_rng, List.getElem?_cons_zero, List.getElem?_cons_succ, List.getElem?_nil, List.set_cons_zero, List.set_cons_succ, List.map_cons, List.map_nil, List.length_cons, List.length_nil, List.replicate, List.cons_append, List.nil_append, Nat.reduceAdd, Nat.reduceSub, reduceIte, len_ok, dMul_int _ c1, dMul_int _ c2, dAdd_int, dMod_int _ hp, ty_ok, app_ok (show xs.length < 1000000 by omega)]
        exact ⟨_, _, _, rfl, rfl, hx.app (by omega) (by omega), by simp; omega⟩
    · simp only [hlt, decide_false, Bool.false_eq_true, sizeLine, Nat.reducePow, Nat.reduceLeDiff, mkF, startE, sSeq, sSet, sIf, sRet, sRetN, sNext, sDrop, sBreak, sCont, sUnp, sPar, sPar3, sPut, eVar, eC, eBin, eUn, eTup, eLst, aNil, aCons, eCB, eCall, eBMT, eIf, eAnd, eOr, eNot, tOf, tTruth, DL.tNot, DL.tAnd, DL.tOr, tYesD, eSl, oNone, oSome, sFor, iAny, iRange1, iRange2, gN, gT, gSets, eLc, wipeE, R.post_bind, R.bind_ok, R.bind_bad, R.post_ok, R.post_bad, post_ite, sFor_tup, sFor_rng, eLc_tup, eLc_rng, List.getElem?_cons_zero, List.getElem?_cons_succ, List.getElem?_nil, List.set_cons_zero, List.set_cons_succ, List.map_cons, List.map_nil, List.length_cons, List.length_nil, List.replicate, List.cons_append, List.nil_append, Nat.reduceAdd, Nat.reduceSub, reduceIte]
      exact ⟨_, _, _, rfl, rfl, hx, by omega⟩
  · rintro env st ⟨xs, x5, x7, rfl, rfl, hx, hl⟩
    simp only [sizeLine, Nat.reducePow, Nat.reduceLeDiff, mkF, startE, sSeq, sSet, sIf, sRet, sRetN, sNext, sDrop, sBreak, sCont, sUnp, sPar, sPar3, sPut, eVar, eC, eBin, eUn, eTup, eLst, aNil, aCons, eCB, eCall, eBMT, eIf, eAnd, eOr, eNot, tOf, tTruth, DL.tNot, DL.tAnd, DL.tOr, tYesD, eSl, oNone, oSome, sFor, iAny, iRange1, iRange2, gN, gT, gSets, eLc, wipeE, R.post_bind, R.bind_ok, R.bind_bad, R.post_ok, R.post_bad, post_ite, sFor_tup, sFor_rng, eLc_tup, eLc_rng, List.getElem?_cons_zero, List.getElem?_cons_succ, List.getElem?_nil, List.set_cons_zero, List.set_cons_succ, List.map_cons, List.map_nil, List.length_cons, List.length_nil, List.replicate, List.cons_append, List.nil_append, Nat.reduceAdd, Nat.reduceSub, reduceIte, dSl, dSt_get, cut_to _ h0]
    have := h xs (xs.take many.toNat) (hx.take _) (by simp; omega)
    rw [List.map_take] at this
    simpa [dSt] using this
end
/-! ### the tape -/
def Tape (a : Nat) (st : Sto) : Prop := ∃ xs : List Int, st[a]? = some (.lst (xs.map .int)) ∧ Draw xs
/-- all else stays -/
structure Keep (a : Nat) (st st' : Sto) : Prop where
  le : st.length ≤ st'.length
  get : ∀ i o, i ≠ a → st[i]? = some o → st'[i]? = some o
theorem Keep.refl (a : Nat) (st : Sto) : Keep a st st := ⟨Nat.le_refl _, fun _ _ _ h => h⟩
theorem Keep.trans {a : Nat} {s1 s2 s3 : Sto} (h : Keep a s1 s2) (h' : Keep a s2 s3) : Keep a s1 s3 := ⟨Nat.le_trans h.le h'.le, fun i o n e => h'.get i o n (h.get i o n e)⟩
theorem Keep.push (a : Nat) (st r : Sto) : Keep a st (st ++ r) := ⟨by simp, fun i o _ h => by rw [List.getElem?_append_left (List.getElem?_eq_some_iff.mp h).1]; exact h⟩
theorem Keep.to {a : Nat} {s1 s2 : Sto} (h : Keep a s1 s2) (r : Sto) : Keep a s1 (s2 ++ r) := h.trans (.push a s2 r)
theorem get_push {st : Sto} {i : Nat} {o : O} (h : st[i]? = some o) (r : Sto) : (st ++ r)[i]? = some o := by rw [List.getElem?_append_left (List.getElem?_eq_some_iff.mp h).1]; exact h
theorem Tape.push {a : Nat} {st : Sto} (h : Tape a st) (r : Sto) : Tape a (st ++ r) := by
  obtain ⟨xs, e, d⟩ := h
  exact ⟨xs, get_push e r, d⟩
theorem get_new (st : Sto) (o : O) : (st ++ [o])[st.length]? = some o := by rw [get_app0]; rfl
def t_take : DS := (sRet (eIf (tOf (eBin dNe (eVar 0) (eLst aNil))) (eBin dFdiv (eBMT "list" dPop (eVar 0) aNil) (eC (.int 3))) (eC (.int 0))))
theorem pyAll_ints {st : Sto} {n : Nat} : ∀ xs : List Int, pyAll (toPy st n) (xs.map .int) = some (xs.map .int)
  | [] => rfl
  | x :: xs => by simp only [List.map_cons, pyAll, toPy_int, pyAll_ints xs]
theorem lay_ints : ∀ xs : List Int, PyData.canLayAll0 (xs.map .int) = true
  | [] => rfl
  | x :: xs => by simp only [List.map_cons, PyData.canLayAll0, PyData.canLay0, lay_ints xs, Bool.and_self]
theorem cd4 : CDivW 0 3 := by decide +kernel
theorem take_post {a : Nat} {st : Sto} {Q : D → Sto → Prop} (h : Tape a st) (q : ∀ (x : Int) st', 0 ≤ x → x < 333335 → Tape a st' → Keep a st st' → Q (.int x) st') : (mkF 1 1 t_take [.ref a] st).post Q := by
  obtain ⟨xs, e, d⟩ := h
  have sz : ([] : List D).length ≤ sizeLine := by decide
  have e1 : (st ++ [O.lst []])[a]? = some (.lst (xs.map .int)) := get_push e _
  have p1 : toPy (st ++ [O.lst []]) eqFuel (.ref a) = some (.list (xs.map .int)) := by
    simp only [eqFuel, toPy, e1, pyAll_ints, Option.map_some]
  have p2 : toPy (st ++ [O.lst []]) eqFuel (.ref st.length) = some (.list []) := by
    simp only [eqFuel, toPy, get_new, pyAll, Option.map_some]
  simp only [t_take, sizeLine, Nat.reducePow, Nat.reduceLeDiff, mkF, startE, sSeq, sSet, sIf, sRet, sRetN, sNext, sDrop, sBreak, sCont, sUnp, sPar, sPar3, sPut, eVar, eC, eBin, eUn, eTup, eLst, aNil, aCons, eCB, eCall, eBMT, eIf, eAnd, eOr, eNot, tOf, tTruth, DL.tNot, DL.tAnd, DL.tOr, tYesD, eSl, oNone, oSome, sFor, iAny, iRange1, iRange2, gN, gT, gSets, eLc, wipeE, R.post_bind, R.bind_ok, R.bind_bad, R.post_ok, R.post_bad, post_ite, sFor_tup, sFor_rng, eLc_tup, eLc_rng, List.getElem?_cons_zero, List.getElem?_cons_succ, List.getElem?_nil, List.set_cons_zero, List.set_cons_succ, List.map_cons, List.map_nil, List.length_cons, List.length_nil, List.replicate, List.cons_append, List.nil_append, Nat.reduceAdd, Nat.reduceSub, reduceIte, sz, dNe_py p1 p2 (by simpa only [PyData.canLay0] using lay_ints xs) (by rfl)]
  cases xs with
  | nil =>
    simp only [List.map_nil, PyData.eqv, PyData.eqvAll, Bool.not_true, Bool.false_eq_true, sizeLine, Nat.reducePow, Nat.reduceLeDiff, mkF, startE, sSeq, sSet, sIf, sRet, sRetN, sNext, sDrop, sBreak, sCont, sUnp, sPar, sPar3, sPut, eVar, eC, eBin, eUn, eTup, eLst, aNil, aCons, eCB, eCall, eBMT, eIf, eAnd, eOr, eNot, tOf, tTruth, DL.tNot, DL.tAnd, DL.tOr, tYesD, eSl, oNone, oSome, sFor, iAny, iRange1, iRange2, gN, gT, gSets, eLc, wipeE, R.post_bind, R.bind_ok, R.bind_bad, R.post_ok, R.post_bad, post_ite, sFor_tup, sFor_rng, eLc_tup, eLc_rng, List.getElem?_cons_zero, List.getElem?_cons_succ, List.getElem?_nil, List.set_cons_zero, List.set_cons_succ, List.map_cons, List.map_nil, List.length_cons, List.length_nil, List.replicate, List.cons_append, List.nil_append, Nat.reduceAdd, Nat.reduceSub, reduceIte]
    exact q 0 _ (by decide) (by decide) ⟨[], e1, d⟩ (.push a st _)
  | cons x xs =>
    have hl : (List.map D.int (x :: xs))[(List.map D.int (x :: xs)).length - 1]? = some (.int ((x :: xs).getLast (by simp))) := by
      rw [← List.getLast?_eq_getElem?, List.getLast?_map, List.getLast?_eq_some_getLast (by simp)]; rfl
    have hd := d _ (List.getLast_mem (l := x :: xs) (by simp))
    have ty : dTy "list" (.ref a) (st ++ [O.lst []]) = true := by simp only [dTy, e1]; rfl
    simp only [List.map_cons, PyData.eqv, PyData.eqvAll, Bool.not_false, sizeLine, Nat.reducePow, Nat.reduceLeDiff, mkF, startE, sSeq, sSet, sIf, sRet, sRetN, sNext, sDrop, sBreak, sCont, sUnp, sPar, sPar3, sPut, eVar, eC, eBin, eUn, eTup, eLst, aNil, aCons, eCB, eCall, eBMT, eIf, eAnd, eOr, eNot, tOf, tTruth, DL.tNot, DL.tAnd, DL.tOr, tYesD, eSl, oNone, oSome, sFor, iAny, iRange1, iRange2, gN, gT, gSets, eLc, wipeE, R.post_bind, R.bind_ok, R.bind_bad, R.post_ok, R.post_bad, post_ite, sFor_tup, sFor_rng, eLc_tup, eLc_rng, List.getElem?_cons_zero, List.getElem?_cons_succ, List.getElem?_nil, List.set_cons_zero, List.set_cons_succ, List.map_cons, List.map_nil, List.length_cons, List.length_nil, List.replicate, List.cons_append, List.nil_append, Nat.reduceAdd, Nat.reduceSub, reduceIte, ty, dPop, e1]
    rw [List.map_cons] at hl
    simp only [List.map_cons, List.length_cons] at hl ⊢
    rw [hl]
    simp only [sizeLine, Nat.reducePow, Nat.reduceLeDiff, mkF, startE, sSeq, sSet, sIf, sRet, sRetN, sNext, sDrop, sBreak, sCont, sUnp, sPar, sPar3, sPut, eVar, eC, eBin, eUn, eTup, eLst, aNil, aCons, eCB, eCall, eBMT, eIf, eAnd, eOr, eNot, tOf, tTruth, DL.tNot, DL.tAnd, DL.tOr, tYesD, eSl, oNone, oSome, sFor, iAny, iRange1, iRange2, gN, gT, gSets, eLc, wipeE, R.post_bind, R.bind_ok, R.bind_bad, R.post_ok, R.post_bad, post_ite, sFor_tup, sFor_rng, eLc_tup, eLc_rng, List.getElem?_cons_zero, List.getElem?_cons_succ, List.getElem?_nil, List.set_cons_zero, List.set_cons_succ, List.map_cons, List.map_nil, List.length_cons, List.length_nil, List.replicate, List.cons_append, List.nil_append, Nat.reduceAdd, Nat.reduceSub, reduceIte, dFdiv_int _ cd4]
    refine q _ _ (by omega) (by omega) ?_ ?_
    · refine ⟨(x :: xs).dropLast, ?_, fun y hy => d y (List.dropLast_subset _ hy)⟩
      have hlt := (List.getElem?_eq_some_iff.mp e1).1
      rw [List.getElem?_set_self hlt, List.map_dropLast]; rfl
    · refine ⟨by simp, fun i o n g => ?_⟩
      rw [List.getElem?_set_ne (Ne.symm n)]
      exact get_push g _
theorem draws_tape {st0 : Sto} {ns : List Int} (hns : ns.length ≤ 63) {many : Int} (h0 : 0 ≤ many) (h1 : many ≤ 5000) {Q : D → Sto → Prop}
    (h : ∀ st1, Keep st0.length st0 st1 → Tape (st0.length + 2) st1 → st1.length = st0.length + 3 → Q (.ref (st0.length + 2)) st1) :
    (mkF 8 2 t_draws [.ro (ns.map .int), .int many] st0).post Q :=
  draws_post hns h0 h1 fun ys ws hw _ => h _ (.push _ _ _) ⟨ws, by rw [get_app]; rfl, hw⟩ (by simp)
/-! ### data that can be told -/
mutual
def fit : PyData → Bool
  | .none | .bool _ => true
  | .int i => decide (i.natAbs < 10 ^ 300)
  | .str x => PyData.strOk x
  | .list xs | .tuple xs => fitAll xs
  | .dict _ => false
def fitAll : List PyData → Bool
  | [] => true
  | x :: xs => fit x && fitAll xs
end
theorem fit_int {i : Int} (h : i.natAbs < 10 ^ 300) : i.natAbs.log2 < 1920 ∧ (PyData.shown (.int i)).length ≤ 301 := by
  constructor
  · by_cases h1 : i.natAbs = 0
    · rw [h1]; decide
    · rw [Nat.log2_lt h1]
      have : (10:Nat) ^ 300 ≤ 2 ^ 1920 := by decide +kernel
      omega
  · rw [PyData.shown_int, PySem.ofString_length]; exact int_text_length_le10 (by decide) h
mutual
theorem fit_all : ∀ p : PyData, fit p = true → p.canLay0 = true ∧ p.showable = true ∧ p.leavesShort 301 = true
  | .none, _ => ⟨rfl, rfl, rfl⟩
  | .bool _, _ => ⟨rfl, rfl, rfl⟩
  | .int i, h => by
    have := fit_int (of_decide_eq_true (by simpa only [fit] using h))
    exact ⟨by simp only [PyData.canLay0], by simp only [PyData.showable, this.1, decide_true], by simp only [PyData.leavesShort, this.2, decide_true]⟩
  | .str x, h => by
    have h' : PyData.strOk x = true := by simpa only [fit] using h
    refine ⟨by simpa only [PyData.canLay0] using h', by simp only [PyData.showable], ?_⟩
    have := PyData.leavesShort_of_canLay0 301 (.str x) (by simpa only [PyData.canLay0] using h') (by simp only [PyData.intsShort])
    exact this
  | .list xs, h => by
    obtain ⟨h1, h2, h3⟩ := fit_alls xs (by simpa only [fit] using h)
    exact ⟨by simpa only [PyData.canLay0] using h1, by simpa only [PyData.showable] using h2, by simpa only [PyData.leavesShort] using h3⟩
  | .tuple xs, h => by
    obtain ⟨h1, h2, h3⟩ := fit_alls xs (by simpa only [fit] using h)
    exact ⟨by simpa only [PyData.canLay0] using h1, by simpa only [PyData.showable] using h2, by simpa only [PyData.leavesShort] using h3⟩
  | .dict _, h => by simp [fit] at h
theorem fit_alls : ∀ ps : List PyData, fitAll ps = true → PyData.canLayAll0 ps = true ∧ PyData.showableAll ps = true ∧ PyData.leavesShortAll 301 ps = true
  | [], _ => ⟨rfl, rfl, rfl⟩
  | p :: ps, h => by
    rw [fitAll, Bool.and_eq_true] at h
    obtain ⟨a1, a2, a3⟩ := fit_all p h.1
    obtain ⟨b1, b2, b3⟩ := fit_alls ps h.2
    exact ⟨by rw [PyData.canLayAll0, a1, b1]; rfl, by rw [PyData.showableAll, a2, b2]; rfl, by rw [PyData.leavesShortAll, a3, b3]; rfl⟩
end
theorem tell_of {p : PyData} (h : fit p = true) (hb : p.bulk ≤ 55000) : Tell p := by
  obtain ⟨a1, a2, a3⟩ := fit_all p h
  refine ⟨a1, a2, ?_⟩
  have := PyData.shown_le_bulk 301 (by decide) p a3
  unfold sizeLine
  omega
/-! ### the values of the program -/
inductive Val where
  | nil | is (k : Int) | at (n : Int)
  deriving DecidableEq
def eV : Val → D
  | .nil => .tup [.str "nil"]
  | .is k => .tup [.str "is", .int k]
  | .at n => .tup [.str "at", .int n]
def pV : Val → PyData
  | .nil => .tuple [.str "nil"]
  | .is k => .tuple [.str "is", .int k]
  | .at n => .tuple [.str "at", .int n]
def Val.num : Val → Int
  | .nil => 0
  | .is k => k
  | .at n => n
theorem py_eV (st : Sto) (n : Nat) (v : Val) : toPy st (n + 1) (eV v) = some (pV v) := by
  cases v <;> simp only [eV, toPy, pyAll, toPy_str, toPy_int, Option.map_some, pV]
theorem ok_nil : PyData.strOk (Str.ofString "nil") = true := by decide +kernel
theorem ok_is : PyData.strOk (Str.ofString "is") = true := by decide +kernel
theorem ok_at : PyData.strOk (Str.ofString "at") = true := by decide +kernel
theorem lay_pV (v : Val) : (pV v).canLay0 = true := by cases v <;> simp only [pV, PyData.canLay0, PyData.canLayAll0, ok_nil, ok_is, ok_at, Bool.and_self]
theorem fit_pV {v : Val} (h : v.num.natAbs < 10 ^ 300) : fit (pV v) = true := by
  cases v with
  | nil => simp only [pV, fit, fitAll, ok_nil, Bool.and_self]
  | is k => simp only [pV, fit, fitAll, show k.natAbs < 10 ^ 300 from h, decide_true, ok_is, Bool.and_self]
  | «at» k => simp only [pV, fit, fitAll, show k.natAbs < 10 ^ 300 from h, decide_true, ok_at, Bool.and_self]
theorem bulk_pV (v : Val) : (pV v).bulk ≤ 10 := by cases v <;> simp only [pV, PyData.bulk, PyData.bulkAll] <;> decide
theorem tell_pV {v : Val} (h : v.num.natAbs < 10 ^ 300) : Tell (pV v) := tell_of (fit_pV h) (Nat.le_trans (bulk_pV v) (by decide))
theorem tell_int {i : Int} (h : i.natAbs < 10 ^ 300) : Tell (.int i) := tell_of (by simp only [fit, h, decide_true]) (by simp only [PyData.bulk]; decide)
theorem eqv_pV (v w : Val) : PyData.eqv (pV v) (pV w) = decide (v = w) := by
  have e1 : ((Str.ofString "nil" : Str) == Str.ofString "is") = false := by decide
  have e2 : ((Str.ofString "nil" : Str) == Str.ofString "at") = false := by decide
  have e3 : ((Str.ofString "is" : Str) == Str.ofString "at") = false := by decide
  have e4 : ((Str.ofString "at" : Str) == Str.ofString "is") = false := by decide
  have e5 : ((Str.ofString "is" : Str) == Str.ofString "nil") = false := by decide
  have e6 : ((Str.ofString "at" : Str) == Str.ofString "nil") = false := by decide
  cases v <;> cases w <;> simp [pV, PyData.eqv, PyData.eqvAll, e1, e2, e3, e4, e5, e6, Bool.beq_eq_decide_eq]
theorem dEq_eV (v w : Val) (st : Sto) : dEq (eV v) (eV w) st = .ok (.bl (decide (v = w))) st := by
  rw [dEq_py (py_eV st 119 v) (py_eV st 119 w) (lay_pV v) (lay_pV w), eqv_pV]
theorem dNe_eV (v w : Val) (st : Sto) : dNe (eV v) (eV w) st = .ok (.bl (!decide (v = w))) st := by
  rw [dNe_py (py_eV st 119 v) (py_eV st 119 w) (lay_pV v) (lay_pV w), eqv_pV]
/-! ### walks that leave the store -/
theorem lc_pure {g : DG} {t : DT} {e : DE} {env0 : Env} {a : Nat} {xs : List D} {st : Sto} (F : D → D) (ea : st[a]? = some (.lst xs)) (h : ∀ d ∈ xs, ∃ env1, g d env0 = some env1 ∧ t env1 st = .ok true st ∧ e env1 st = .ok (F d) st) :
    lcGo (.lst a) g t e env0 ((DIt.lst a).size st + 1) 0 st = .ok (xs.map F) st := by
  have : (lcGo (.lst a) g t e env0 ((DIt.lst a).size st + 1) 0 st).post fun ys st1 => ys = xs.map F ∧ st1 = st := by
    refine eLc_lst (xs := xs) (fun ds acc st1 => st1 = st ∧ ∃ bs, xs = bs ++ ds ∧ acc = bs.map F) ea ⟨rfl, [], rfl, rfl⟩ ?_ ?_
    · rintro d ds acc st1 ⟨rfl, bs, e1, rfl⟩
      obtain ⟨env1, k1, k2, k3⟩ := h d (by rw [e1]; simp)
      refine ⟨ea, env1, k1, ?_⟩
      rw [k2]
      simp only [R.post_ok, if_true, k3]
      exact ⟨trivial, bs ++ [d], by simp [e1], by simp⟩
    · rintro acc st1 ⟨rfl, bs, e1, rfl⟩
      rw [List.append_nil] at e1; subst e1
      exact ⟨ea, rfl, rfl⟩
  cases hr : lcGo (.lst a) g t e env0 ((DIt.lst a).size st + 1) 0 st with
  | ok ys s => rw [hr] at this; obtain ⟨rfl, rfl⟩ := this; rfl
  | bad => rw [hr] at this; exact False.elim this
/-- every turn goes on and leaves the store; the environment's shape is kept -/
theorem for_stays {g : DG} {b : DS} {a : Nat} {xs : List D} {st : Sto} {env : Env} {Q : Fl → Sto → Prop} (J : Env → Prop) (ea : st[a]? = some (.lst xs)) (j : J env)
    (h : ∀ d ∈ xs, ∀ env, J env → ∃ env1, g d env = some env1 ∧ (b env1 st).post fun fl st1 => ∃ env2, fl = .nx env2 ∧ st1 = st ∧ J env2) (q : ∀ env, J env → Q (.nx env) st) :
    (forGo (.lst a) g b ((DIt.lst a).size st + 1) 0 env st).post Q := by
  refine sFor_lst (xs := xs) (fun ds env st1 => st1 = st ∧ J env ∧ ∀ d ∈ ds, d ∈ xs) ea ⟨rfl, j, fun d h => h⟩ ?_ ?_
  · rintro d ds env st1 ⟨rfl, j, hm⟩
    obtain ⟨env1, k1, k2⟩ := h d (hm d (List.mem_cons_self ..)) env j
    refine ⟨ea, env1, k1, R.post_mono k2 ?_⟩
    rintro fl st1 ⟨env2, rfl, rfl, j2⟩
    exact ⟨rfl, j2, fun d hd => hm d (List.mem_cons_of_mem _ hd)⟩
  · rintro env st1 ⟨rfl, j, _⟩
    exact ⟨ea, q env j⟩
theorem rev_draws {f : DF} (hf : f = mkF 8 2 t_draws) {ns : List Int} (hns : ns.length ≤ 63) {many : Int} (h0 : 0 ≤ many) (h1 : many ≤ 5000) {Q : D → Sto → Prop} {env : Env}
    (h : ∀ st1, Tape 3 st1 → st1.length = 4 → Q (.ref 3) st1) :
    (eRev (eCall 2 f (aCons (eVar 0) (aCons (eC (.int many)) aNil))) (some (.ro (ns.map .int)) :: env) []).post Q := by
  subst hf
  simp only [eRev, eCall, aCons, aNil, eVar, eC, R.bind_ok, List.getElem?_cons_zero, R.post_bind, List.length_cons, List.length_nil, Nat.reduceAdd, if_true]
  refine draws_tape (many := many) hns h0 h1 fun st1 k1 t1 l1 => ?_
  obtain ⟨xs, e1, d1⟩ := t1
  simp only [List.length_nil, Nat.zero_add] at e1 l1
  simp only [List.length_nil, Nat.zero_add, e1, R.post_ok, l1]
  refine h _ ⟨xs.reverse, ?_, fun x hx => d1 x (List.mem_reverse.mp hx)⟩ (by simp [l1])
  have := get_app0 st1 [O.lst (xs.map D.int).reverse]
  rw [l1] at this
  rw [this, List.map_reverse]; rfl
theorem lc_map {β : Type} (enc F : β → D) {g : DG} {t : DT} {e : DE} {env0 : Env} {a : Nat} (zs : List β) {st : Sto} (ea : st[a]? = some (.lst (zs.map enc))) (h : ∀ z ∈ zs, ∃ env1, g (enc z) env0 = some env1 ∧ t env1 st = .ok true st ∧ e env1 st = .ok (F z) st) :
    lcGo (.lst a) g t e env0 ((DIt.lst a).size st + 1) 0 st = .ok (zs.map F) st := by
  have : (lcGo (.lst a) g t e env0 ((DIt.lst a).size st + 1) 0 st).post fun ys st1 => ys = zs.map F ∧ st1 = st := by
    refine eLc_lst (xs := zs.map enc) (fun ds acc st1 => st1 = st ∧ ∃ bs cs, zs = bs ++ cs ∧ ds = cs.map enc ∧ acc = bs.map F) ea ⟨rfl, [], zs, rfl, rfl, rfl⟩ ?_ ?_
    · rintro d ds acc st1 ⟨rfl, bs, cs, e1, e2, rfl⟩
      cases cs with
      | nil => cases e2
      | cons c cs =>
        simp only [List.map_cons, List.cons.injEq] at e2
        obtain ⟨rfl, rfl⟩ := e2
        obtain ⟨env1, k1, k2, k3⟩ := h c (by rw [e1]; simp)
        refine ⟨ea, env1, k1, ?_⟩
        rw [k2]
        simp only [R.post_ok, if_true, k3]
        exact ⟨trivial, bs ++ [c], cs, by simp [e1], rfl, by simp⟩
    · rintro acc st1 ⟨rfl, bs, cs, e1, e2, rfl⟩
      cases cs with
      | nil => rw [List.append_nil] at e1; subst e1; exact ⟨ea, rfl, rfl⟩
      | cons c cs => cases e2
  cases hr : lcGo (.lst a) g t e env0 ((DIt.lst a).size st + 1) 0 st with
  | ok ys s => rw [hr] at this; obtain ⟨rfl, rfl⟩ := this; rfl
  | bad => rw [hr] at this; exact False.elim this
theorem dAdd_ref {i j : Nat} {xs ys : List D} {st : Sto} (e1 : st[i]? = some (.lst xs)) (e2 : st[j]? = some (.lst ys)) (h : xs.length + ys.length ≤ 16777216) : dAdd (.ref i) (.ref j) st = .ok (.ref st.length) (st ++ [.lst (xs ++ ys)]) := by
  simp only [dAdd, e1, e2]
  rw [if_pos (by unfold sizeLine; omega)]
theorem for_map {β : Type} (enc : β → D) {g : DG} {b : DS} {a : Nat} (zs : List β) {st : Sto} {env : Env} {Q : Fl → Sto → Prop} (J : Env → Prop) (ea : st[a]? = some (.lst (zs.map enc))) (j : J env)
    (h : ∀ z ∈ zs, ∀ env, J env → ∃ env1, g (enc z) env = some env1 ∧ (b env1 st).post fun fl st1 => ∃ env2, fl = .nx env2 ∧ st1 = st ∧ J env2) (q : ∀ env, J env → Q (.nx env) st) :
    (forGo (.lst a) g b ((DIt.lst a).size st + 1) 0 env st).post Q := by
  refine for_stays J ea j ?_ q
  intro d hd env j
  obtain ⟨z, hz, rfl⟩ := List.mem_map.mp hd
  exact h z hz env j
theorem atI0 {α : Type} (x : α) (xs : List α) : atI (x :: xs) 0 = some x := by simp [atI, ixN]
theorem atI1 {α : Type} (x y : α) (xs : List α) : atI (x :: y :: xs) 1 = some y := by
  unfold atI
  rw [show ixN (x :: y :: xs).length 1 = some 1 from by unfold ixN; rw [if_pos (by decide), if_pos (by simp only [List.length_cons]; omega)]; rfl]; rfl
theorem atI2 {α : Type} (x y z : α) (xs : List α) : atI (x :: y :: z :: xs) 2 = some z := by
  unfold atI
  rw [show ixN (x :: y :: z :: xs).length 2 = some 2 from by unfold ixN; rw [if_pos (by decide), if_pos (by simp only [List.length_cons]; omega)]; rfl]; rfl
theorem s1 : (Str.ofString "nil" = Str.ofString "is") = False := by decide
theorem s2 : (Str.ofString "nil" = Str.ofString "at") = False := by decide
theorem s3 : (Str.ofString "at" = Str.ofString "is") = False := by decide
theorem s4 : (Str.ofString "is" = Str.ofString "at") = False := by decide
theorem s5 : (Str.ofString "is" = Str.ofString "nil") = False := by decide
theorem s6 : (Str.ofString "at" = Str.ofString "nil") = False := by decide
theorem cdi2 : CDivW 0 2 := by decide +kernel
end DL

namespace Pk70
open PySem PySem.Spec PyProof.Rows L2 DL
def fuelW : Nat := 1000000
/-! ### the text's places -/
def topS (i : Nat) : Stmt := PySem.Challenge.pw_apartcells_k70_words_of_values.main.body.getD i (.Pass ⟨0, 0, 0, 0⟩)
abbrev s_word_of : Stmt := topS 2
abbrev s_value_of : Stmt := topS 3
abbrev s__law_draws : Stmt := topS 5
abbrev s__law_take : Stmt := topS 6
abbrev s__law_word_of : Stmt := topS 7
abbrev s__law_same : Stmt := topS 8
abbrev s_law : Stmt := topS 9
theorem sc_word_of : FnScope ["value"] ["value"] (defScope s_word_of) := ⟨rfl, rfl, rfl, by decide +kernel, rfl, by decide +kernel, by decide +kernel⟩
theorem sc_value_of : FnScope ["word"] ["word"] (defScope s_value_of) := ⟨rfl, rfl, rfl, by decide +kernel, rfl, by decide +kernel, by decide +kernel⟩
theorem sc__law_draws : FnScope ["script", "many", "found", "cell", "number", "k", "mixed", "base"] ["script", "many"] (defScope s__law_draws) := ⟨rfl, rfl, rfl, by decide +kernel, rfl, by decide +kernel, by decide +kernel⟩
theorem sc__law_take : FnScope ["cells"] ["cells"] (defScope s__law_take) := ⟨rfl, rfl, rfl, by decide +kernel, rfl, by decide +kernel, by decide +kernel⟩
theorem sc__law_word_of : FnScope ["value"] ["value"] (defScope s__law_word_of) := ⟨rfl, rfl, rfl, by decide +kernel, rfl, by decide +kernel, by decide +kernel⟩
theorem sc__law_same : FnScope ["told", "due"] ["told", "due"] (defScope s__law_same) := ⟨rfl, rfl, rfl, by decide +kernel, rfl, by decide +kernel, by decide +kernel⟩
theorem sc_law : FnScope ["script", "cells", "numbers", "values", "value", "word", "due", "k"] ["script"] (defScope s_law) := ⟨rfl, rfl, rfl, by decide +kernel, rfl, by decide +kernel, by decide +kernel⟩
def c_NIL : D := (.tup [(.str "nil")])
def b_word_of : DS := (sSeq (sIf (tOf (eBin dEq (eBin dIx (eVar 0) (eC (.int 0))) (eC (.str "is")))) (sRet (eBin dAdd (eBin dMul (eC (.int 2)) (eBin dIx (eVar 0) (eC (.int 1)))) (eC (.int 1)))) sNext)
  (sSeq (sIf (tOf (eBin dEq (eBin dIx (eVar 0) (eC (.int 0))) (eC (.str "at")))) (sRet (eBin dMul (eC (.int 2)) (eBin dIx (eVar 0) (eC (.int 1))))) sNext)
  (sRet (eC (.int 0)))))
def f_word_of : DF := mkF 1 1 b_word_of
def b_value_of : DS := (sSeq (sIf (tOf (eBin dEq (eVar 0) (eC (.int 0)))) (sRet (eC c_NIL)) sNext)
  (sSeq (sIf (tOf (eBin dEq (eBin dMod (eVar 0) (eC (.int 2))) (eC (.int 1)))) (sRet (eTup (aCons (eC (.str "is")) (aCons (eBin dFdiv (eVar 0) (eC (.int 2))) aNil)))) sNext)
  (sRet (eTup (aCons (eC (.str "at")) (aCons (eBin dFdiv (eVar 0) (eC (.int 2))) aNil))))))
def f_value_of : DF := mkF 1 1 b_value_of
def b__law_draws : DS := (sSeq (sSet 2 (eLst aNil))
  (sSeq (sFor (iAny (eSl dSl (eVar 0) oNone (oSome (eC (.int 63))))) (gN 3) (sSeq (sSet 4 (eCB dAbs (aCons (eCB dInt (aCons (eVar 3) aNil)) aNil)))
  (sIf (tOf (eBin dGe (eVar 4) (eBin dPow (eC (.int 10)) (eC (.int 18))))) (sFor (iRange1 (aCons (eC (.int 60)) aNil)) (gN 5) (sIf (tOf (eBin dGt (eVar 4) (eC (.int 0)))) (sSeq (sDrop (eBMT "list" dAppend (eVar 2) (aCons (eBin dMod (eVar 4) (eC (.int 1000003))) aNil)))
  (sSet 4 (eBin dFdiv (eVar 4) (eC (.int 1000003))))) sNext)) (sSeq (sSet 6 (eBin dMod (eBin dAdd (eBin dAdd (eBin dMul (eVar 4) (eC (.int 48271))) (eBin dMul (eC (.int 7)) (eCB dLen (aCons (eVar 2) aNil)))) (eC (.int 11))) (eC (.int 2147483647))))
  (sFor (iRange1 (aCons (eC (.int 4)) aNil)) (gN 5) (sSeq (sSet 6 (eBin dMod (eBin dAdd (eBin dAdd (eBin dAdd (eBin dMul (eVar 6) (eC (.int 69621))) (eBin dFdiv (eVar 6) (eC (.int 65536)))) (eBin dMul (eC (.int 13)) (eVar 5))) (eC (.int 5))) (eC (.int 2147483629))))
  (sDrop (eBMT "list" dAppend (eVar 2) (aCons (eBin dMod (eBin dFdiv (eVar 6) (eC (.int 8))) (eC (.int 1000003))) aNil)))))))))
  (sSeq (sFor (iRange1 (aCons (eVar 1) aNil)) (gN 5) (sIf (tOf (eBin dLt (eCB dLen (aCons (eVar 2) aNil)) (eVar 1))) (sSeq (sSet 7 (eC (.int 0)))
  (sSeq (sIf (tOf (eBin dGt (eCB dLen (aCons (eVar 2) aNil)) (eC (.int 0)))) (sSet 7 (eBin dIx (eVar 2) (eBin dMod (eVar 5) (eCB dLen (aCons (eVar 2) aNil))))) sNext)
  (sDrop (eBMT "list" dAppend (eVar 2) (aCons (eBin dMod (eBin dAdd (eBin dAdd (eBin dMul (eVar 7) (eC (.int 16807))) (eBin dMul (eC (.int 31)) (eCB dLen (aCons (eVar 2) aNil)))) (eC (.int 17))) (eC (.int 1000003))) aNil))))) sNext))
  (sRet (eSl dSl (eVar 2) oNone (oSome (eVar 1)))))))
def f__law_draws : DF := mkF 8 2 b__law_draws
def b__law_take : DS := (sRet (eIf (tOf (eBin dNe (eVar 0) (eLst aNil))) (eBin dFdiv (eBMT "list" dPop (eVar 0) aNil) (eC (.int 3))) (eC (.int 0))))
def f__law_take : DF := mkF 1 1 b__law_take
def b__law_word_of : DS := (sSeq (sIf (tOf (eBin dEq (eVar 0) (eTup (aCons (eC (.str "nil")) aNil)))) (sRet (eC (.int 0))) sNext)
  (sRet (eBin dAdd (eBin dMul (eC (.int 2)) (eBin dIx (eVar 0) (eC (.int 1)))) (eCB dInt (aCons (eBin dEq (eBin dIx (eVar 0) (eC (.int 0))) (eC (.str "is"))) aNil)))))
def f__law_word_of : DF := mkF 1 1 b__law_word_of
def b__law_same : DS := (sRet (eAnd (eBin dEq (eCB dRepr (aCons (eVar 0) aNil)) (eCB dRepr (aCons (eVar 1) aNil))) (eBin dEq (eVar 0) (eVar 1))))
def f__law_same : DF := mkF 2 2 b__law_same
def b_law : DS := (sSeq (sSet 1 (eRev (eCall 2 f__law_draws (aCons (eVar 0) (aCons (eC (.int 60)) aNil)))))
  (sSeq (sSet 2 (eLst (aCons (eC (.int 0)) (aCons (eC (.int 1)) (aCons (eUn dNeg (eC (.int 1))) (aCons (eC (.int 2)) (aCons (eUn dNeg (eC (.int 7))) (aCons (eCall 1 f__law_take (aCons (eVar 1) aNil)) (aCons (eUn dNeg (eCall 1 f__law_take (aCons (eVar 1) aNil))) (aCons (eBin dAdd (eBin dPow (eC (.int 10)) (eC (.int 59))) (eCall 1 f__law_take (aCons (eVar 1) aNil))) (aCons (eBin dSub (eUn dNeg (eBin dPow (eC (.int 10)) (eC (.int 60)))) (eCall 1 f__law_take (aCons (eVar 1) aNil))) (aCons (eBin dAdd (eBin dPow (eC (.int 2)) (eC (.int 64))) (eBin dMod (eCall 1 f__law_take (aCons (eVar 1) aNil)) (eC (.int 3)))) aNil))))))))))))
  (sSeq (sSet 3 (eBin dAdd (eBin dAdd (eLst (aCons (eTup (aCons (eC (.str "nil")) aNil)) aNil)) (eLc (iAny (eVar 2)) (gN 7) tYesD (eTup (aCons (eC (.str "is")) (aCons (eVar 7) aNil))) [7])) (eLc (iAny (eVar 2)) (gN 7) tYesD (eTup (aCons (eC (.str "at")) (aCons (eBin dAdd (eCB dAbs (aCons (eVar 7) aNil)) (eC (.int 1))) aNil))) [7])))
  (sSeq (sFor (iAny (eVar 3)) (gN 4) (sSeq (sSet 5 (eCall 1 f__law_word_of (aCons (eVar 4) aNil)))
  (sIf (tOr (tNot (tTruth (eCall 2 f__law_same (aCons (eCall 1 f_word_of (aCons (eVar 4) aNil)) (aCons (eVar 5) aNil))))) (tNot (tTruth (eCall 2 f__law_same (aCons (eCall 1 f_value_of (aCons (eVar 5) aNil)) (aCons (eVar 4) aNil)))))) (sRet (eC (.bl false))) sNext)))
  (sSeq (sFor (iAny (eBin dAdd (eRg2 false (eUn dNeg (eC (.int 9))) (eC (.int 21))) (eLst (aCons (eBin dAdd (eBin dMul (eC (.int 2)) (eCall 1 f__law_take (aCons (eVar 1) aNil))) (eC (.int 1))) (aCons (eBin dAdd (eBin dMul (eC (.int 2)) (eCall 1 f__law_take (aCons (eVar 1) aNil))) (eC (.int 2))) (aCons (eBin dSub (eBin dMul (eUn dNeg (eC (.int 2))) (eCall 1 f__law_take (aCons (eVar 1) aNil))) (eC (.int 1))) aNil)))))) (gN 5) (sSeq (sSet 6 (eTup (aCons (eC (.str "is")) (aCons (eBin dFdiv (eBin dSub (eVar 5) (eC (.int 1))) (eC (.int 2))) aNil))))
  (sSeq (sIf (tOf (eBin dEq (eBin dMod (eVar 5) (eC (.int 2))) (eC (.int 0)))) (sSet 6 (eIf (tOf (eBin dGt (eVar 5) (eC (.int 0)))) (eTup (aCons (eC (.str "at")) (aCons (eBin dFdiv (eVar 5) (eC (.int 2))) aNil))) (eTup (aCons (eC (.str "nil")) aNil)))) sNext)
  (sIf (tAnd (tOr (tOf (eBin dEq (eBin dMod (eVar 5) (eC (.int 2))) (eC (.int 1)))) (tOf (eBin dGe (eVar 5) (eC (.int 0))))) (tNot (tTruth (eCall 2 f__law_same (aCons (eCall 1 f_value_of (aCons (eVar 5) aNil)) (aCons (eVar 6) aNil)))))) (sRet (eC (.bl false))) sNext))))
  (sRet (eC (.bl true))))))))
def f_law : DF := mkF 8 1 b_law
structure Tx (K : PySem.W.Frag) (mg : Str → Option Value) where
  a_word_of : Addr
  d_word_of : FuncData
  F_word_of : Fun K "word_of" "word_of" s_word_of a_word_of d_word_of
  g_word_of : mg "word_of" = some (.ref a_word_of)
  B_word_of : Binds K d_word_of ["value"] []
  a_value_of : Addr
  d_value_of : FuncData
  F_value_of : Fun K "value_of" "value_of" s_value_of a_value_of d_value_of
  g_value_of : mg "value_of" = some (.ref a_value_of)
  B_value_of : Binds K d_value_of ["word"] []
  a__law_draws : Addr
  d__law_draws : FuncData
  F__law_draws : Fun K "_law_draws" "_law_draws" s__law_draws a__law_draws d__law_draws
  g__law_draws : mg "_law_draws" = some (.ref a__law_draws)
  B__law_draws : Binds K d__law_draws ["script", "many"] []
  a__law_take : Addr
  d__law_take : FuncData
  F__law_take : Fun K "_law_take" "_law_take" s__law_take a__law_take d__law_take
  g__law_take : mg "_law_take" = some (.ref a__law_take)
  B__law_take : Binds K d__law_take ["cells"] []
  a__law_word_of : Addr
  d__law_word_of : FuncData
  F__law_word_of : Fun K "_law_word_of" "_law_word_of" s__law_word_of a__law_word_of d__law_word_of
  g__law_word_of : mg "_law_word_of" = some (.ref a__law_word_of)
  B__law_word_of : Binds K d__law_word_of ["value"] []
  a__law_same : Addr
  d__law_same : FuncData
  F__law_same : Fun K "_law_same" "_law_same" s__law_same a__law_same d__law_same
  g__law_same : mg "_law_same" = some (.ref a__law_same)
  B__law_same : Binds K d__law_same ["told", "due"] []
  a_law : Addr
  d_law : FuncData
  F_law : Fun K "law" "law" s_law a_law d_law
  g_law : mg "law" = some (.ref a_law)
  B_law : Binds K d_law ["script"] []
  n_abs : mg "abs" = none
  n_int : mg "int" = none
  n_len : mg "len" = none
  n_list : mg "list" = none
  n_range : mg "range" = none
  n_repr : mg "repr" = none
  a_NIL : Addr
  g_NIL : mg "NIL" = some (.ref a_NIL)
  r_NIL : ∀ H m, Rep K H m c_NIL (.ref a_NIL)
section
variable {P : Program} {w : World} {K : PySem.W.Frag} {mg : Str → Option Value} {base : Heap}
theorem ok_word_of (T : Tx K mg) : FnD P w K mg base 1 T.a_word_of T.d_word_of ["value"] f_word_of := by
  exact fn_d (N := ["value"]) (ps := ["value"]) (k := 0) (b := b_word_of) T.F_word_of sc_word_of fun cdv A outer s H hr => by
    exact (ss_cons (s_if (y_cmp (o_eq hr) (x_ix i_ix (xv 0) x_int) x_str) (ss_one (s_ret (x_op o_add (x_op o_mul x_int (x_ix i_ix (xv 0) x_int)) x_int))) ss_nil)
  (ss_cons (s_if (y_cmp (o_eq hr) (x_ix i_ix (xv 0) x_int) x_str) (ss_one (s_ret (x_op o_mul x_int (x_ix i_ix (xv 0) x_int)))) ss_nil)
  (ss_one (s_ret x_int))))
theorem ok_value_of (T : Tx K mg) : FnD P w K mg base 1 T.a_value_of T.d_value_of ["word"] f_value_of := by
  exact fn_d (N := ["word"]) (ps := ["word"]) (k := 0) (b := b_value_of) T.F_value_of sc_value_of fun cdv A outer s H hr => by
    exact (ss_cons (s_if (y_cmp (o_eq hr) (xv 0) x_int) (ss_one (s_ret (x_glob (v := .ref T.a_NIL) (by rfl) T.g_NIL rfl T.r_NIL))) ss_nil)
  (ss_cons (s_if (y_cmp (o_eq hr) (x_op o_mod (xv 0) x_int) x_int) (ss_one (s_ret (x_tup (a_cons x_str (a_cons (x_op o_fdiv (xv 0) x_int) a_nil))))) ss_nil)
  (ss_one (s_ret (x_tup (a_cons x_str (a_cons (x_op o_fdiv (xv 0) x_int) a_nil)))))))
theorem ok__law_draws (T : Tx K mg) : FnD P w K mg base 1 T.a__law_draws T.d__law_draws ["script", "many"] f__law_draws := by
  exact fn_d (N := ["script", "many", "found", "cell", "number", "k", "mixed", "base"]) (ps := ["script", "many"]) (k := 0) (b := b__law_draws) T.F__law_draws sc__law_draws fun cdv A outer s H hr => by
    exact (ss_cons (s_set (i := 2) sc__law_draws.nd rfl (by first | exact Or.inl rfl | exact Or.inr rfl) (x_lst a_nil))
  (ss_cons (s_for (vs := [3]) PassesOwn.never rfl (i_any (x_sl r_sl (xv 0) o_none (o_some x_int))) (pg_name (i := 3) sc__law_draws.nd rfl (by first | exact Or.inl rfl | exact Or.inr rfl)) gok_n (ss_cons (s_set (i := 4) sc__law_draws.nd rfl (by first | exact Or.inl rfl | exact Or.inr rfl) (x_callB c_abs (by rfl) T.n_abs (by decide +kernel) (a_cons (x_callTy c_int (by rfl) T.n_int (by decide +kernel) (a_cons (xv 3) a_nil)) a_nil)))
  (ss_one (s_if (y_cmp o_ge (xv 4) (x_op o_pow x_int x_int)) (ss_one (s_for (vs := [5]) PassesOwn.never rfl (i_range1 (by rfl) T.n_range (a_cons x_int a_nil)) (pg_name (i := 5) sc__law_draws.nd rfl (by first | exact Or.inl rfl | exact Or.inr rfl)) gok_n (ss_one (s_if (y_cmp o_gt (xv 4) x_int) (ss_cons (s_expr (x_bm PySem.F.plainAttrs_list PySem.F.slot_list_append PySem.F.type_list_append m_append (xv 2) (a_cons (x_op o_mod (xv 4) x_int) a_nil)))
  (ss_one (s_set (i := 4) sc__law_draws.nd rfl (by first | exact Or.inl rfl | exact Or.inr rfl) (x_op o_fdiv (xv 4) x_int)))) ss_nil)))) (ss_cons (s_set (i := 6) sc__law_draws.nd rfl (by first | exact Or.inl rfl | exact Or.inr rfl) (x_op o_mod (x_op o_add (x_op o_add (x_op o_mul (xv 4) x_int) (x_op o_mul x_int (x_callB c_len (by rfl) T.n_len (by decide +kernel) (a_cons (xv 2) a_nil)))) x_int) x_int))
  (ss_one (s_for (vs := [5]) PassesOwn.never rfl (i_range1 (by rfl) T.n_range (a_cons x_int a_nil)) (pg_name (i := 5) sc__law_draws.nd rfl (by first | exact Or.inl rfl | exact Or.inr rfl)) gok_n (ss_cons (s_set (i := 6) sc__law_draws.nd rfl (by first | exact Or.inl rfl | exact Or.inr rfl) (x_op o_mod (x_op o_add (x_op o_add (x_op o_add (x_op o_mul (xv 6) x_int) (x_op o_fdiv (xv 6) x_int)) (x_op o_mul x_int (xv 5))) x_int) x_int))
  (ss_one (s_expr (x_bm PySem.F.plainAttrs_list PySem.F.slot_list_append PySem.F.type_list_append m_append (xv 2) (a_cons (x_op o_mod (x_op o_fdiv (xv 6) x_int) x_int) a_nil))))))))))))
  (ss_cons (s_for (vs := [5]) PassesOwn.never rfl (i_range1 (by rfl) T.n_range (a_cons (xv 1) a_nil)) (pg_name (i := 5) sc__law_draws.nd rfl (by first | exact Or.inl rfl | exact Or.inr rfl)) gok_n (ss_one (s_if (y_cmp o_lt (x_callB c_len (by rfl) T.n_len (by decide +kernel) (a_cons (xv 2) a_nil)) (xv 1)) (ss_cons (s_set (i := 7) sc__law_draws.nd rfl (by first | exact Or.inl rfl | exact Or.inr rfl) x_int)
  (ss_cons (s_if (y_cmp o_gt (x_callB c_len (by rfl) T.n_len (by decide +kernel) (a_cons (xv 2) a_nil)) x_int) (ss_one (s_set (i := 7) sc__law_draws.nd rfl (by first | exact Or.inl rfl | exact Or.inr rfl) (x_ix i_ix (xv 2) (x_op o_mod (xv 5) (x_callB c_len (by rfl) T.n_len (by decide +kernel) (a_cons (xv 2) a_nil)))))) ss_nil)
  (ss_one (s_expr (x_bm PySem.F.plainAttrs_list PySem.F.slot_list_append PySem.F.type_list_append m_append (xv 2) (a_cons (x_op o_mod (x_op o_add (x_op o_add (x_op o_mul (xv 7) x_int) (x_op o_mul x_int (x_callB c_len (by rfl) T.n_len (by decide +kernel) (a_cons (xv 2) a_nil)))) x_int) x_int) a_nil)))))) ss_nil)))
  (ss_one (s_ret (x_sl r_sl (xv 2) o_none (o_some (xv 1))))))))
theorem ok__law_take (T : Tx K mg) : FnD P w K mg base 1 T.a__law_take T.d__law_take ["cells"] f__law_take := by
  exact fn_d (N := ["cells"]) (ps := ["cells"]) (k := 0) (b := b__law_take) T.F__law_take sc__law_take fun cdv A outer s H hr => by
    exact (ss_one (s_ret (x_if (y_cmp (o_ne hr) (xv 0) (x_lst a_nil)) (x_op o_fdiv (x_bm0 PySem.F.plainAttrs_list PySem.F.slot_list_pop PySem.F.type_list_pop m_pop (xv 0)) x_int) x_int)))
theorem ok__law_word_of (T : Tx K mg) : FnD P w K mg base 1 T.a__law_word_of T.d__law_word_of ["value"] f__law_word_of := by
  exact fn_d (N := ["value"]) (ps := ["value"]) (k := 0) (b := b__law_word_of) T.F__law_word_of sc__law_word_of fun cdv A outer s H hr => by
    exact (ss_cons (s_if (y_cmp (o_eq hr) (xv 0) (x_tup (a_cons x_str a_nil))) (ss_one (s_ret x_int)) ss_nil)
  (ss_one (s_ret (x_op o_add (x_op o_mul x_int (x_ix i_ix (xv 0) x_int)) (x_callTy c_int (by rfl) T.n_int (by decide +kernel) (a_cons (x_cmp (o_eq hr) (x_ix i_ix (xv 0) x_int) x_str) a_nil))))))
theorem ok__law_same (T : Tx K mg) : FnD P w K mg base 1 T.a__law_same T.d__law_same ["told", "due"] f__law_same := by
  exact fn_d (N := ["told", "due"]) (ps := ["told", "due"]) (k := 0) (b := b__law_same) T.F__law_same sc__law_same fun cdv A outer s H hr => by
    exact (ss_one (s_ret (x_and (x_cmp (o_eq hr) (x_callB (c_repr hr) (by rfl) T.n_repr (by decide +kernel) (a_cons (xv 0) a_nil)) (x_callB (c_repr hr) (by rfl) T.n_repr (by decide +kernel) (a_cons (xv 1) a_nil))) (x_one (x_cmp (o_eq hr) (xv 0) (xv 1))))))
theorem ok_law (T : Tx K mg) : FnD P w K mg base 2 T.a_law T.d_law ["script"] f_law := by
  have G__law_take : FnD P w K mg base 1 T.a__law_take T.d__law_take ["cells"] f__law_take := ok__law_take T
  have G__law_same : FnD P w K mg base 1 T.a__law_same T.d__law_same ["told", "due"] f__law_same := ok__law_same T
  have G_value_of : FnD P w K mg base 1 T.a_value_of T.d_value_of ["word"] f_value_of := ok_value_of T
  have G_word_of : FnD P w K mg base 1 T.a_word_of T.d_word_of ["value"] f_word_of := ok_word_of T
  have G__law_word_of : FnD P w K mg base 1 T.a__law_word_of T.d__law_word_of ["value"] f__law_word_of := ok__law_word_of T
  have G__law_draws : FnD P w K mg base 1 T.a__law_draws T.d__law_draws ["script", "many"] f__law_draws := ok__law_draws T
  exact fn_d (N := ["script", "cells", "numbers", "values", "value", "word", "due", "k"]) (ps := ["script"]) (k := 1) (b := b_law) T.F_law sc_law fun cdv A outer s H hr => by
    have hr__law_take := hr.mono (show 1 ≤ 1 from by omega)
    have hr__law_same := hr.mono (show 1 ≤ 1 from by omega)
    have hr_value_of := hr.mono (show 1 ≤ 1 from by omega)
    have hr_word_of := hr.mono (show 1 ≤ 1 from by omega)
    have hr__law_word_of := hr.mono (show 1 ≤ 1 from by omega)
    have hr__law_draws := hr.mono (show 1 ≤ 1 from by omega)
    exact (ss_cons (s_set (i := 1) sc_law.nd rfl (by first | exact Or.inl rfl | exact Or.inr rfl) (x_rev (x_call G__law_draws hr__law_draws (by rfl) T.g__law_draws T.F__law_draws.kp T.B__law_draws (a_cons (xv 0) (a_cons x_int a_nil)))))
  (ss_cons (s_set (i := 2) sc_law.nd rfl (by first | exact Or.inl rfl | exact Or.inr rfl) (x_lst (a_cons x_int (a_cons x_int (a_cons (x_un u_neg x_int) (a_cons x_int (a_cons (x_un u_neg x_int) (a_cons (x_call G__law_take hr__law_take (by rfl) T.g__law_take T.F__law_take.kp T.B__law_take (a_cons (xv 1) a_nil)) (a_cons (x_un u_neg (x_call G__law_take hr__law_take (by rfl) T.g__law_take T.F__law_take.kp T.B__law_take (a_cons (xv 1) a_nil))) (a_cons (x_op o_add (x_op o_pow x_int x_int) (x_call G__law_take hr__law_take (by rfl) T.g__law_take T.F__law_take.kp T.B__law_take (a_cons (xv 1) a_nil))) (a_cons (x_op o_sub (x_un u_neg (x_op o_pow x_int x_int)) (x_call G__law_take hr__law_take (by rfl) T.g__law_take T.F__law_take.kp T.B__law_take (a_cons (xv 1) a_nil))) (a_cons (x_op o_add (x_op o_pow x_int x_int) (x_op o_mod (x_call G__law_take hr__law_take (by rfl) T.g__law_take T.F__law_take.kp T.B__law_take (a_cons (xv 1) a_nil)) x_int)) a_nil))))))))))))
  (ss_cons (s_set (i := 3) sc_law.nd rfl (by first | exact Or.inl rfl | exact Or.inr rfl) (x_op o_add (x_op o_add (x_lst (a_cons (x_tup (a_cons x_str a_nil)) a_nil)) (x_lc (own := [("k", 7)]) rfl sc_law.nd (i_any (xv 2)) (blkOk_by (by kernel_rfl)) gok_n (fun _ _ _ _ _ => (pg_name (i := 7) sc_law.nd rfl (by first | exact Or.inl rfl | exact Or.inr rfl))) (fun _ _ _ _ _ => ts_nil) (fun _ _ _ _ _ => (x_tup (a_cons x_str (a_cons (xv 7) a_nil)))))) (x_lc (own := [("k", 7)]) rfl sc_law.nd (i_any (xv 2)) (blkOk_by (by kernel_rfl)) gok_n (fun _ _ _ _ _ => (pg_name (i := 7) sc_law.nd rfl (by first | exact Or.inl rfl | exact Or.inr rfl))) (fun _ _ _ _ _ => ts_nil) (fun _ _ _ _ _ => (x_tup (a_cons x_str (a_cons (x_op o_add (x_callB c_abs (by rfl) T.n_abs (by decide +kernel) (a_cons (xv 7) a_nil)) x_int) a_nil)))))))
  (ss_cons (s_for (vs := [4]) PassesOwn.never rfl (i_any (xv 3)) (pg_name (i := 4) sc_law.nd rfl (by first | exact Or.inl rfl | exact Or.inr rfl)) gok_n (ss_cons (s_set (i := 5) sc_law.nd rfl (by first | exact Or.inl rfl | exact Or.inr rfl) (x_call G__law_word_of hr__law_word_of (by rfl) T.g__law_word_of T.F__law_word_of.kp T.B__law_word_of (a_cons (xv 4) a_nil)))
  (ss_one (s_if (PW.pt (w_or (y_not (y_val (x_call G__law_same hr__law_same (by rfl) T.g__law_same T.F__law_same.kp T.B__law_same (a_cons (x_call G_word_of hr_word_of (by rfl) T.g_word_of T.F_word_of.kp T.B_word_of (a_cons (xv 4) a_nil)) (a_cons (xv 5) a_nil))))) (w_or1 (y_not (y_val (x_call G__law_same hr__law_same (by rfl) T.g__law_same T.F__law_same.kp T.B__law_same (a_cons (x_call G_value_of hr_value_of (by rfl) T.g_value_of T.F_value_of.kp T.B_value_of (a_cons (xv 5) a_nil)) (a_cons (xv 4) a_nil)))))))) (ss_one (s_ret x_bl)) ss_nil))))
  (ss_cons (s_for (vs := [5]) PassesOwn.never rfl (i_any (x_op o_add (x_listRg2 rfl (by rfl) T.n_list (by rfl) T.n_range (x_un u_neg x_int) x_int) (x_lst (a_cons (x_op o_add (x_op o_mul x_int (x_call G__law_take hr__law_take (by rfl) T.g__law_take T.F__law_take.kp T.B__law_take (a_cons (xv 1) a_nil))) x_int) (a_cons (x_op o_add (x_op o_mul x_int (x_call G__law_take hr__law_take (by rfl) T.g__law_take T.F__law_take.kp T.B__law_take (a_cons (xv 1) a_nil))) x_int) (a_cons (x_op o_sub (x_op o_mul (x_un u_neg x_int) (x_call G__law_take hr__law_take (by rfl) T.g__law_take T.F__law_take.kp T.B__law_take (a_cons (xv 1) a_nil))) x_int) a_nil)))))) (pg_name (i := 5) sc_law.nd rfl (by first | exact Or.inl rfl | exact Or.inr rfl)) gok_n (ss_cons (s_set (i := 6) sc_law.nd rfl (by first | exact Or.inl rfl | exact Or.inr rfl) (x_tup (a_cons x_str (a_cons (x_op o_fdiv (x_op o_sub (xv 5) x_int) x_int) a_nil))))
  (ss_cons (s_if (y_cmp (o_eq hr) (x_op o_mod (xv 5) x_int) x_int) (ss_one (s_set (i := 6) sc_law.nd rfl (by first | exact Or.inl rfl | exact Or.inr rfl) (x_if (y_cmp o_gt (xv 5) x_int) (x_tup (a_cons x_str (a_cons (x_op o_fdiv (xv 5) x_int) a_nil))) (x_tup (a_cons x_str a_nil))))) ss_nil)
  (ss_one (s_if (PW.pt (w_and (PW.pt (w_or (y_cmp (o_eq hr) (x_op o_mod (xv 5) x_int) x_int) (w_or1 (y_cmp o_ge (xv 5) x_int)))) (w_and1 (y_not (y_val (x_call G__law_same hr__law_same (by rfl) T.g__law_same T.F__law_same.kp T.B__law_same (a_cons (x_call G_value_of hr_value_of (by rfl) T.g_value_of T.F_value_of.kp T.B_value_of (a_cons (xv 5) a_nil)) (a_cons (xv 6) a_nil)))))))) (ss_one (s_ret x_bl)) ss_nil)))))
  (ss_one (s_ret x_bl)))))))
end
theorem all_mk {l : PySem.W.OpenLaw} {w : World} {K : PySem.W.Frag} {h : Heap} {mg : Str → Option Value} {fa : Addr} (X : K.In h) (G : h.Ns mainGlobals mg) (hfa : mg "law" = some (.ref fa))
    {p_word_of : Addr} {od_word_of an_word_of : Option Addr} {sl_word_of : Array (Option Value)} {oc_word_of kV_word_of dc_word_of pm_word_of cd_word_of ct_word_of : Value}
    (a_word_of : PySem.W.nsIn K mainGlobals "word_of" = some (some (.ref p_word_of))) (l_word_of : K.lookup p_word_of = some ⟨oc_word_of, od_word_of, .func (PySem.W.fnOf "word_of" "word_of" (defArgs s_word_of) (defBody s_word_of) (defScope s_word_of) .none kV_word_of dc_word_of pm_word_of an_word_of cd_word_of ct_word_of), sl_word_of⟩) (c_word_of : PySem.W.codeIn K cd_word_of "word_of" = true) (k_word_of : PySem.W.keepIn K (.ref p_word_of) = true)
    {p_value_of : Addr} {od_value_of an_value_of : Option Addr} {sl_value_of : Array (Option Value)} {oc_value_of kV_value_of dc_value_of pm_value_of cd_value_of ct_value_of : Value}
    (a_value_of : PySem.W.nsIn K mainGlobals "value_of" = some (some (.ref p_value_of))) (l_value_of : K.lookup p_value_of = some ⟨oc_value_of, od_value_of, .func (PySem.W.fnOf "value_of" "value_of" (defArgs s_value_of) (defBody s_value_of) (defScope s_value_of) .none kV_value_of dc_value_of pm_value_of an_value_of cd_value_of ct_value_of), sl_value_of⟩) (c_value_of : PySem.W.codeIn K cd_value_of "value_of" = true) (k_value_of : PySem.W.keepIn K (.ref p_value_of) = true)
    {p__law_draws : Addr} {od__law_draws an__law_draws : Option Addr} {sl__law_draws : Array (Option Value)} {oc__law_draws kV__law_draws dc__law_draws pm__law_draws cd__law_draws ct__law_draws : Value}
    (a__law_draws : PySem.W.nsIn K mainGlobals "_law_draws" = some (some (.ref p__law_draws))) (l__law_draws : K.lookup p__law_draws = some ⟨oc__law_draws, od__law_draws, .func (PySem.W.fnOf "_law_draws" "_law_draws" (defArgs s__law_draws) (defBody s__law_draws) (defScope s__law_draws) .none kV__law_draws dc__law_draws pm__law_draws an__law_draws cd__law_draws ct__law_draws), sl__law_draws⟩) (c__law_draws : PySem.W.codeIn K cd__law_draws "_law_draws" = true) (k__law_draws : PySem.W.keepIn K (.ref p__law_draws) = true)
    {p__law_take : Addr} {od__law_take an__law_take : Option Addr} {sl__law_take : Array (Option Value)} {oc__law_take kV__law_take dc__law_take pm__law_take cd__law_take ct__law_take : Value}
    (a__law_take : PySem.W.nsIn K mainGlobals "_law_take" = some (some (.ref p__law_take))) (l__law_take : K.lookup p__law_take = some ⟨oc__law_take, od__law_take, .func (PySem.W.fnOf "_law_take" "_law_take" (defArgs s__law_take) (defBody s__law_take) (defScope s__law_take) .none kV__law_take dc__law_take pm__law_take an__law_take cd__law_take ct__law_take), sl__law_take⟩) (c__law_take : PySem.W.codeIn K cd__law_take "_law_take" = true) (k__law_take : PySem.W.keepIn K (.ref p__law_take) = true)
    {p__law_word_of : Addr} {od__law_word_of an__law_word_of : Option Addr} {sl__law_word_of : Array (Option Value)} {oc__law_word_of kV__law_word_of dc__law_word_of pm__law_word_of cd__law_word_of ct__law_word_of : Value}
    (a__law_word_of : PySem.W.nsIn K mainGlobals "_law_word_of" = some (some (.ref p__law_word_of))) (l__law_word_of : K.lookup p__law_word_of = some ⟨oc__law_word_of, od__law_word_of, .func (PySem.W.fnOf "_law_word_of" "_law_word_of" (defArgs s__law_word_of) (defBody s__law_word_of) (defScope s__law_word_of) .none kV__law_word_of dc__law_word_of pm__law_word_of an__law_word_of cd__law_word_of ct__law_word_of), sl__law_word_of⟩) (c__law_word_of : PySem.W.codeIn K cd__law_word_of "_law_word_of" = true) (k__law_word_of : PySem.W.keepIn K (.ref p__law_word_of) = true)
    {p__law_same : Addr} {od__law_same an__law_same : Option Addr} {sl__law_same : Array (Option Value)} {oc__law_same kV__law_same dc__law_same pm__law_same cd__law_same ct__law_same : Value}
    (a__law_same : PySem.W.nsIn K mainGlobals "_law_same" = some (some (.ref p__law_same))) (l__law_same : K.lookup p__law_same = some ⟨oc__law_same, od__law_same, .func (PySem.W.fnOf "_law_same" "_law_same" (defArgs s__law_same) (defBody s__law_same) (defScope s__law_same) .none kV__law_same dc__law_same pm__law_same an__law_same cd__law_same ct__law_same), sl__law_same⟩) (c__law_same : PySem.W.codeIn K cd__law_same "_law_same" = true) (k__law_same : PySem.W.keepIn K (.ref p__law_same) = true)
    {p_law : Addr} {od_law an_law : Option Addr} {sl_law : Array (Option Value)} {oc_law kV_law dc_law pm_law cd_law ct_law : Value}
    (a_law : PySem.W.nsIn K mainGlobals "law" = some (some (.ref p_law))) (l_law : K.lookup p_law = some ⟨oc_law, od_law, .func (PySem.W.fnOf "law" "law" (defArgs s_law) (defBody s_law) (defScope s_law) .none kV_law dc_law pm_law an_law cd_law ct_law), sl_law⟩) (c_law : PySem.W.codeIn K cd_law "law" = true) (k_law : PySem.W.keepIn K (.ref p_law) = true)
    (z_abs : PySem.W.nsIn K mainGlobals "abs" = some none)
    (z_int : PySem.W.nsIn K mainGlobals "int" = some none)
    (z_len : PySem.W.nsIn K mainGlobals "len" = some none)
    (z_list : PySem.W.nsIn K mainGlobals "list" = some none)
    (z_range : PySem.W.nsIn K mainGlobals "range" = some none)
    (z_repr : PySem.W.nsIn K mainGlobals "repr" = some none)
    {q_NIL : Addr} (a_NIL : PySem.W.nsIn K mainGlobals "NIL" = some (some (.ref q_NIL))) (r_NIL : ∀ H m, Rep K H m c_NIL (.ref q_NIL))
    : ∃ fd : FuncData, (∀ (s : Shared) (v : Value), BindsTo s fd ⟨[v], []⟩ [("script", v)]) ∧ ∀ base : Heap, K.In base → base.Ns mainGlobals mg → FnG l.prog w K mg base 2 fa fd ["script"] (spD K 1 f_law) := by
  have e := hfa.symm.trans (PySem.W.mg_of X G a_law)
  cases e
  let T : Tx K mg := {
    a_word_of := p_word_of, d_word_of := _, F_word_of := fun_mk (st := s_word_of) l_word_of c_word_of k_word_of, g_word_of := PySem.W.mg_of X G a_word_of, B_word_of := (fun_mk (st := s_word_of) l_word_of c_word_of k_word_of).binds (ps := ["value"]) fun _ _ _ _ _ _ us hl => match us, hl with | [_], _ => rfl
    a_value_of := p_value_of, d_value_of := _, F_value_of := fun_mk (st := s_value_of) l_value_of c_value_of k_value_of, g_value_of := PySem.W.mg_of X G a_value_of, B_value_of := (fun_mk (st := s_value_of) l_value_of c_value_of k_value_of).binds (ps := ["word"]) fun _ _ _ _ _ _ us hl => match us, hl with | [_], _ => rfl
    a__law_draws := p__law_draws, d__law_draws := _, F__law_draws := fun_mk (st := s__law_draws) l__law_draws c__law_draws k__law_draws, g__law_draws := PySem.W.mg_of X G a__law_draws, B__law_draws := (fun_mk (st := s__law_draws) l__law_draws c__law_draws k__law_draws).binds (ps := ["script", "many"]) fun _ _ _ _ _ _ us hl => match us, hl with | [_, _], _ => rfl
    a__law_take := p__law_take, d__law_take := _, F__law_take := fun_mk (st := s__law_take) l__law_take c__law_take k__law_take, g__law_take := PySem.W.mg_of X G a__law_take, B__law_take := (fun_mk (st := s__law_take) l__law_take c__law_take k__law_take).binds (ps := ["cells"]) fun _ _ _ _ _ _ us hl => match us, hl with | [_], _ => rfl
    a__law_word_of := p__law_word_of, d__law_word_of := _, F__law_word_of := fun_mk (st := s__law_word_of) l__law_word_of c__law_word_of k__law_word_of, g__law_word_of := PySem.W.mg_of X G a__law_word_of, B__law_word_of := (fun_mk (st := s__law_word_of) l__law_word_of c__law_word_of k__law_word_of).binds (ps := ["value"]) fun _ _ _ _ _ _ us hl => match us, hl with | [_], _ => rfl
    a__law_same := p__law_same, d__law_same := _, F__law_same := fun_mk (st := s__law_same) l__law_same c__law_same k__law_same, g__law_same := PySem.W.mg_of X G a__law_same, B__law_same := (fun_mk (st := s__law_same) l__law_same c__law_same k__law_same).binds (ps := ["told", "due"]) fun _ _ _ _ _ _ us hl => match us, hl with | [_, _], _ => rfl
    a_law := fa, d_law := _, F_law := fun_mk (st := s_law) l_law c_law k_law, g_law := PySem.W.mg_of X G a_law, B_law := (fun_mk (st := s_law) l_law c_law k_law).binds (ps := ["script"]) fun _ _ _ _ _ _ us hl => match us, hl with | [_], _ => rfl
    n_abs := PySem.W.mg_none_of X G z_abs
    n_int := PySem.W.mg_none_of X G z_int
    n_len := PySem.W.mg_none_of X G z_len
    n_list := PySem.W.mg_none_of X G z_list
    n_range := PySem.W.mg_none_of X G z_range
    n_repr := PySem.W.mg_none_of X G z_repr
    a_NIL := q_NIL, g_NIL := PySem.W.mg_of X G a_NIL, r_NIL := r_NIL
  }
  exact ⟨_, fun s v => .of_eq rfl, fun base _ _ => ok_law T⟩
end Pk70

namespace Pk70
open PySem PySem.Spec PyProof.Rows L2 DL
/-- what a word says -/
def vOf (n : Int) : Val := if n = 0 then .nil else if n % 2 = 1 then .is (n / 2) else .at (n / 2)
def wOf : Val → Int
  | .nil => 0
  | .is k => 2 * k + 1
  | .at n => 2 * n
theorem m2 {k : Int} (h : -(10 ^ 100) < k) (h' : k < 10 ^ 100) : CMulW 2 k := by
  have e : (10:Int) ^ 100 ≤ 2 ^ 1000 := by decide +kernel
  exact cmul (by decide +kernel) (by decide +kernel) (by omega) (by omega)
theorem value_of_ok (n : Int) (st : Sto) : f_value_of [.int n] st = .ok (eV (vOf n)) st := by
  have h2 : (0:Int) < 2 := by decide
  simp only [f_value_of, b_value_of, sizeLine, Nat.reducePow, Nat.reduceLeDiff, mkF, startE, sSeq, sSet, sIf, sRet, sRetN, sNext, sDrop, sBreak, sCont, sUnp, sPar, sPar3, sPut, eVar, eC, eBin, eUn, eTup, eLst, aNil, aCons, eCB, eCall, eBMT, eIf, eAnd, eOr, eNot, tOf, tTruth, DL.tNot, DL.tAnd, DL.tOr, tYesD, eSl, oNone, oSome, sFor, iAny, iRange1, iRange2, gN, gT, gSets, eLc, wipeE, R.post_bind, R.bind_ok, R.bind_bad, R.post_ok, R.post_bad, post_ite, sFor_tup, sFor_rng, eLc_tup, eLc_rng, List.getElem?_cons_zero, List.getElem?_cons_succ, List.getElem?_nil, List.set_cons_zero, List.set_cons_succ, List.map_cons, List.map_nil, List.length_cons, List.length_nil, List.replicate, List.cons_append, List.nil_append, Nat.reduceAdd, Nat.reduceSub, reduceIte, dEq_int, dNe_int, dEq_str, dNe_str, dGt_int, dGe_int, dLt_int, dLe_int, dAdd_int, dSub_int, dNeg_int, dAbs_int, dInt_int, dInt_bl, dEq_eV, dNe_eV, atI0, atI1, atI2, s1, s2, s3, s4, s5, s6, decide_true, decide_false, Bool.false_eq_true, Bool.not_true, Bool.not_false, vOf, c_NIL]
  by_cases h0 : n = 0
  · simp only [h0, dEq_int, dNe_int, dEq_str, dNe_str, dGt_int, dGe_int, dLt_int, dLe_int, dAdd_int, dSub_int, dNeg_int, dAbs_int, dInt_int, dInt_bl, dEq_eV, dNe_eV, atI0, atI1, atI2, s1, s2, s3, s4, s5, s6, decide_true, decide_false, Bool.false_eq_true, Bool.not_true, Bool.not_false, sizeLine, Nat.reducePow, Nat.reduceLeDiff, mkF, startE, sSeq, sSet, sIf, sRet, sRetN, sNext, sDrop, sBreak, sCont, sUnp, sPar, sPar3, sPut, eVar, eC, eBin, eUn, eTup, eLst, aNil, aCons, eCB, eCall, eBMT, eIf, eAnd, eOr, eNot, tOf, tTruth, DL.tNot, DL.tAnd, DL.tOr, tYesD, eSl, oNone, oSome, sFor, iAny, iRange1, iRange2, gN, gT, gSets, eLc, wipeE, R.post_bind, R.bind_ok, R.bind_bad, R.post_ok, R.post_bad, post_ite, sFor_tup, sFor_rng, eLc_tup, eLc_rng, List.getElem?_cons_zero, List.getElem?_cons_succ, List.getElem?_nil, List.set_cons_zero, List.set_cons_succ, List.map_cons, List.map_nil, List.length_cons, List.length_nil, List.replicate, List.cons_append, List.nil_append, Nat.reduceAdd, Nat.reduceSub, reduceIte]; rfl
  · by_cases h1 : n % 2 = 1
    · simp only [h0, h1, dMod_int _ h2, dFdiv_int _ cdi2, dEq_int, dNe_int, dEq_str, dNe_str, dGt_int, dGe_int, dLt_int, dLe_int, dAdd_int, dSub_int, dNeg_int, dAbs_int, dInt_int, dInt_bl, dEq_eV, dNe_eV, atI0, atI1, atI2, s1, s2, s3, s4, s5, s6, decide_true, decide_false, Bool.false_eq_true, Bool.not_true, Bool.not_false, sizeLine, Nat.reducePow, Nat.reduceLeDiff, mkF, startE, sSeq, sSet, sIf, sRet, sRetN, sNext, sDrop, sBreak, sCont, sUnp, sPar, sPar3, sPut, eVar, eC, eBin, eUn, eTup, eLst, aNil, aCons, eCB, eCall, eBMT, eIf, eAnd, eOr, eNot, tOf, tTruth, DL.tNot, DL.tAnd, DL.tOr, tYesD, eSl, oNone, oSome, sFor, iAny, iRange1, iRange2, gN, gT, gSets, eLc, wipeE, R.post_bind, R.bind_ok, R.bind_bad, R.post_ok, R.post_bad, post_ite, sFor_tup, sFor_rng, eLc_tup, eLc_rng, List.getElem?_cons_zero, List.getElem?_cons_succ, List.getElem?_nil, List.set_cons_zero, List.set_cons_succ, List.map_cons, List.map_nil, List.length_cons, List.length_nil, List.replicate, List.cons_append, List.nil_append, Nat.reduceAdd, Nat.reduceSub, reduceIte]; rfl
    · simp only [h0, h1, dMod_int _ h2, dFdiv_int _ cdi2, dEq_int, dNe_int, dEq_str, dNe_str, dGt_int, dGe_int, dLt_int, dLe_int, dAdd_int, dSub_int, dNeg_int, dAbs_int, dInt_int, dInt_bl, dEq_eV, dNe_eV, atI0, atI1, atI2, s1, s2, s3, s4, s5, s6, decide_true, decide_false, Bool.false_eq_true, Bool.not_true, Bool.not_false, sizeLine, Nat.reducePow, Nat.reduceLeDiff, mkF, startE, sSeq, sSet, sIf, sRet, sRetN, sNext, sDrop, sBreak, sCont, sUnp, sPar, sPar3, sPut, eVar, eC, eBin, eUn, eTup, eLst, aNil, aCons, eCB, eCall, eBMT, eIf, eAnd, eOr, eNot, tOf, tTruth, DL.tNot, DL.tAnd, DL.tOr, tYesD, eSl, oNone, oSome, sFor, iAny, iRange1, iRange2, gN, gT, gSets, eLc, wipeE, R.post_bind, R.bind_ok, R.bind_bad, R.post_ok, R.post_bad, post_ite, sFor_tup, sFor_rng, eLc_tup, eLc_rng, List.getElem?_cons_zero, List.getElem?_cons_succ, List.getElem?_nil, List.set_cons_zero, List.set_cons_succ, List.map_cons, List.map_nil, List.length_cons, List.length_nil, List.replicate, List.cons_append, List.nil_append, Nat.reduceAdd, Nat.reduceSub, reduceIte]; rfl
theorem word_of_ok {v : Val} (h : -(10 ^ 100) < v.num) (h' : v.num < 10 ^ 100) (st : Sto) : f_word_of [eV v] st = .ok (.int (wOf v)) st := by
  cases v with
  | nil => simp only [f_word_of, b_word_of, sizeLine, Nat.reducePow, Nat.reduceLeDiff, mkF, startE, sSeq, sSet, sIf, sRet, sRetN, sNext, sDrop, sBreak, sCont, sUnp, sPar, sPar3, sPut, eVar, eC, eBin, eUn, eTup, eLst, aNil, aCons, eCB, eCall, eBMT, eIf, eAnd, eOr, eNot, tOf, tTruth, DL.tNot, DL.tAnd, DL.tOr, tYesD, eSl, oNone, oSome, sFor, iAny, iRange1, iRange2, gN, gT, gSets, eLc, wipeE, R.post_bind, R.bind_ok, R.bind_bad, R.post_ok, R.post_bad, post_ite, sFor_tup, sFor_rng, eLc_tup, eLc_rng, List.getElem?_cons_zero, List.getElem?_cons_succ, List.getElem?_nil, List.set_cons_zero, List.set_cons_succ, List.map_cons, List.map_nil, List.length_cons, List.length_nil, List.replicate, List.cons_append, List.nil_append, Nat.reduceAdd, Nat.reduceSub, reduceIte, eV, dIx, dEq_int, dNe_int, dEq_str, dNe_str, dGt_int, dGe_int, dLt_int, dLe_int, dAdd_int, dSub_int, dNeg_int, dAbs_int, dInt_int, dInt_bl, dEq_eV, dNe_eV, atI0, atI1, atI2, s1, s2, s3, s4, s5, s6, decide_true, decide_false, Bool.false_eq_true, Bool.not_true, Bool.not_false, wOf]
  | is k =>
    have m : CMulW 2 k := m2 h h'
    simp only [f_word_of, b_word_of, sizeLine, Nat.reducePow, Nat.reduceLeDiff, mkF, startE, sSeq, sSet, sIf, sRet, sRetN, sNext, sDrop, sBreak, sCont, sUnp, sPar, sPar3, sPut, eVar, eC, eBin, eUn, eTup, eLst, aNil, aCons, eCB, eCall, eBMT, eIf, eAnd, eOr, eNot, tOf, tTruth, DL.tNot, DL.tAnd, DL.tOr, tYesD, eSl, oNone, oSome, sFor, iAny, iRange1, iRange2, gN, gT, gSets, eLc, wipeE, R.post_bind, R.bind_ok, R.bind_bad, R.post_ok, R.post_bad, post_ite, sFor_tup, sFor_rng, eLc_tup, eLc_rng, List.getElem?_cons_zero, List.getElem?_cons_succ, List.getElem?_nil, List.set_cons_zero, List.set_cons_succ, List.map_cons, List.map_nil, List.length_cons, List.length_nil, List.replicate, List.cons_append, List.nil_append, Nat.reduceAdd, Nat.reduceSub, reduceIte, eV, dIx, dEq_int, dNe_int, dEq_str, dNe_str, dGt_int, dGe_int, dLt_int, dLe_int, dAdd_int, dSub_int, dNeg_int, dAbs_int, dInt_int, dInt_bl, dEq_eV, dNe_eV, atI0, atI1, atI2, s1, s2, s3, s4, s5, s6, decide_true, decide_false, Bool.false_eq_true, Bool.not_true, Bool.not_false, dMul_int _ m, wOf]
  | «at» k =>
    have m : CMulW 2 k := m2 h h'
    simp only [f_word_of, b_word_of, sizeLine, Nat.reducePow, Nat.reduceLeDiff, mkF, startE, sSeq, sSet, sIf, sRet, sRetN, sNext, sDrop, sBreak, sCont, sUnp, sPar, sPar3, sPut, eVar, eC, eBin, eUn, eTup, eLst, aNil, aCons, eCB, eCall, eBMT, eIf, eAnd, eOr, eNot, tOf, tTruth, DL.tNot, DL.tAnd, DL.tOr, tYesD, eSl, oNone, oSome, sFor, iAny, iRange1, iRange2, gN, gT, gSets, eLc, wipeE, R.post_bind, R.bind_ok, R.bind_bad, R.post_ok, R.post_bad, post_ite, sFor_tup, sFor_rng, eLc_tup, eLc_rng, List.getElem?_cons_zero, List.getElem?_cons_succ, List.getElem?_nil, List.set_cons_zero, List.set_cons_succ, List.map_cons, List.map_nil, List.length_cons, List.length_nil, List.replicate, List.cons_append, List.nil_append, Nat.reduceAdd, Nat.reduceSub, reduceIte, eV, dIx, dEq_int, dNe_int, dEq_str, dNe_str, dGt_int, dGe_int, dLt_int, dLe_int, dAdd_int, dSub_int, dNeg_int, dAbs_int, dInt_int, dInt_bl, dEq_eV, dNe_eV, atI0, atI1, atI2, s1, s2, s3, s4, s5, s6, decide_true, decide_false, Bool.false_eq_true, Bool.not_true, Bool.not_false, dMul_int _ m, wOf]
theorem law_word_of_ok {v : Val} (h : -(10 ^ 100) < v.num) (h' : v.num < 10 ^ 100) (st : Sto) : f__law_word_of [eV v] st = .ok (.int (wOf v)) st := by
  have e : (D.tup [D.str (Str.ofString "nil")]) = eV .nil := rfl
  simp only [f__law_word_of, b__law_word_of, sizeLine, Nat.reducePow, Nat.reduceLeDiff, mkF, startE, sSeq, sSet, sIf, sRet, sRetN, sNext, sDrop, sBreak, sCont, sUnp, sPar, sPar3, sPut, eVar, eC, eBin, eUn, eTup, eLst, aNil, aCons, eCB, eCall, eBMT, eIf, eAnd, eOr, eNot, tOf, tTruth, DL.tNot, DL.tAnd, DL.tOr, tYesD, eSl, oNone, oSome, sFor, iAny, iRange1, iRange2, gN, gT, gSets, eLc, wipeE, R.post_bind, R.bind_ok, R.bind_bad, R.post_ok, R.post_bad, post_ite, sFor_tup, sFor_rng, eLc_tup, eLc_rng, List.getElem?_cons_zero, List.getElem?_cons_succ, List.getElem?_nil, List.set_cons_zero, List.set_cons_succ, List.map_cons, List.map_nil, List.length_cons, List.length_nil, List.replicate, List.cons_append, List.nil_append, Nat.reduceAdd, Nat.reduceSub, reduceIte, e, dEq_int, dNe_int, dEq_str, dNe_str, dGt_int, dGe_int, dLt_int, dLe_int, dAdd_int, dSub_int, dNeg_int, dAbs_int, dInt_int, dInt_bl, dEq_eV, dNe_eV, atI0, atI1, atI2, s1, s2, s3, s4, s5, s6, decide_true, decide_false, Bool.false_eq_true, Bool.not_true, Bool.not_false]
  cases v with
  | nil => simp only [dEq_int, dNe_int, dEq_str, dNe_str, dGt_int, dGe_int, dLt_int, dLe_int, dAdd_int, dSub_int, dNeg_int, dAbs_int, dInt_int, dInt_bl, dEq_eV, dNe_eV, atI0, atI1, atI2, s1, s2, s3, s4, s5, s6, decide_true, decide_false, Bool.false_eq_true, Bool.not_true, Bool.not_false, sizeLine, Nat.reducePow, Nat.reduceLeDiff, mkF, startE, sSeq, sSet, sIf, sRet, sRetN, sNext, sDrop, sBreak, sCont, sUnp, sPar, sPar3, sPut, eVar, eC, eBin, eUn, eTup, eLst, aNil, aCons, eCB, eCall, eBMT, eIf, eAnd, eOr, eNot, tOf, tTruth, DL.tNot, DL.tAnd, DL.tOr, tYesD, eSl, oNone, oSome, sFor, iAny, iRange1, iRange2, gN, gT, gSets, eLc, wipeE, R.post_bind, R.bind_ok, R.bind_bad, R.post_ok, R.post_bad, post_ite, sFor_tup, sFor_rng, eLc_tup, eLc_rng, List.getElem?_cons_zero, List.getElem?_cons_succ, List.getElem?_nil, List.set_cons_zero, List.set_cons_succ, List.map_cons, List.map_nil, List.length_cons, List.length_nil, List.replicate, List.cons_append, List.nil_append, Nat.reduceAdd, Nat.reduceSub, reduceIte, wOf]
  | is k =>
    have m : CMulW 2 k := m2 h h'
    simp only [reduceCtorEq, sizeLine, Nat.reducePow, Nat.reduceLeDiff, mkF, startE, sSeq, sSet, sIf, sRet, sRetN, sNext, sDrop, sBreak, sCont, sUnp, sPar, sPar3, sPut, eVar, eC, eBin, eUn, eTup, eLst, aNil, aCons, eCB, eCall, eBMT, eIf, eAnd, eOr, eNot, tOf, tTruth, DL.tNot, DL.tAnd, DL.tOr, tYesD, eSl, oNone, oSome, sFor, iAny, iRange1, iRange2, gN, gT, gSets, eLc, wipeE, R.post_bind, R.bind_ok, R.bind_bad, R.post_ok, R.post_bad, post_ite, sFor_tup, sFor_rng, eLc_tup, eLc_rng, List.getElem?_cons_zero, List.getElem?_cons_succ, List.getElem?_nil, List.set_cons_zero, List.set_cons_succ, List.map_cons, List.map_nil, List.length_cons, List.length_nil, List.replicate, List.cons_append, List.nil_append, Nat.reduceAdd, Nat.reduceSub, reduceIte, eV, dIx, dEq_int, dNe_int, dEq_str, dNe_str, dGt_int, dGe_int, dLt_int, dLe_int, dAdd_int, dSub_int, dNeg_int, dAbs_int, dInt_int, dInt_bl, dEq_eV, dNe_eV, atI0, atI1, atI2, s1, s2, s3, s4, s5, s6, decide_true, decide_false, Bool.false_eq_true, Bool.not_true, Bool.not_false, dMul_int _ m, wOf]
  | «at» k =>
    have m : CMulW 2 k := m2 h h'
    simp only [reduceCtorEq, sizeLine, Nat.reducePow, Nat.reduceLeDiff, mkF, startE, sSeq, sSet, sIf, sRet, sRetN, sNext, sDrop, sBreak, sCont, sUnp, sPar, sPar3, sPut, eVar, eC, eBin, eUn, eTup, eLst, aNil, aCons, eCB, eCall, eBMT, eIf, eAnd, eOr, eNot, tOf, tTruth, DL.tNot, DL.tAnd, DL.tOr, tYesD, eSl, oNone, oSome, sFor, iAny, iRange1, iRange2, gN, gT, gSets, eLc, wipeE, R.post_bind, R.bind_ok, R.bind_bad, R.post_ok, R.post_bad, post_ite, sFor_tup, sFor_rng, eLc_tup, eLc_rng, List.getElem?_cons_zero, List.getElem?_cons_succ, List.getElem?_nil, List.set_cons_zero, List.set_cons_succ, List.map_cons, List.map_nil, List.length_cons, List.length_nil, List.replicate, List.cons_append, List.nil_append, Nat.reduceAdd, Nat.reduceSub, reduceIte, eV, dIx, dEq_int, dNe_int, dEq_str, dNe_str, dGt_int, dGe_int, dLt_int, dLe_int, dAdd_int, dSub_int, dNeg_int, dAbs_int, dInt_int, dInt_bl, dEq_eV, dNe_eV, atI0, atI1, atI2, s1, s2, s3, s4, s5, s6, decide_true, decide_false, Bool.false_eq_true, Bool.not_true, Bool.not_false, dMul_int _ m, wOf, Int.add_zero]
theorem same_v {v : Val} (h : v.num.natAbs < 10 ^ 300) (st : Sto) : f__law_same [eV v, eV v] st = .ok (.bl true) st := same_ok (py_eV st 119 v) (py_eV st 119 v) (tell_pV h)
theorem same_i {i : Int} (h : i.natAbs < 10 ^ 300) (st : Sto) : f__law_same [.int i, .int i] st = .ok (.bl true) st := same_ok (toPy_int st _ i) (toPy_int st _ i) (tell_int h)
theorem vw {v : Val} (h : ∀ n, v = .at n → 0 < n) : vOf (wOf v) = v := by
  cases v with
  | nil => rfl
  | is k =>
    have e : wOf (.is k) = 2 * k + 1 := rfl
    rw [e]; unfold vOf
    rw [if_neg (by omega), if_pos (by omega)]; congr 1; omega
  | «at» k =>
    have := h k rfl
    have e : wOf (.at k) = 2 * k := rfl
    rw [e]; unfold vOf
    rw [if_neg (by omega), if_neg (by omega)]; congr 1; omega
theorem p100 : (10:Int) ^ 61 ≤ 10 ^ 100 := by decide +kernel
theorem bnd {i : Int} (h : -(10 ^ 100) < i) (h' : i < 10 ^ 100) : i.natAbs < 10 ^ 300 := by
  have e : (10:Int) ^ 100 ≤ 10 ^ 300 := by decide +kernel
  have : ((i.natAbs : Nat) : Int) < ((10 ^ 300 : Nat) : Int) := by rw [Int.natCast_pow]; show _ < (10:Int) ^ 300; omega
  exact Int.ofNat_lt.mp this
/-- what the law's second walk waits for -/
def dueOf (w : Int) : Val := if w % 2 = 0 then (if 0 < w then .at (w / 2) else .nil) else .is ((w - 1) / 2)
theorem due_ok {w : Int} (h : w % 2 = 1 ∨ 0 ≤ w) : vOf w = dueOf w := by
  unfold vOf dueOf
  by_cases h0 : w = 0
  · subst h0; rfl
  · rw [if_neg h0]
    by_cases h1 : w % 2 = 1
    · rw [if_pos h1, if_neg (by omega)]; congr 1; omega
    · rw [if_neg h1, if_pos (by omega), if_pos (by omega)]
theorem law_true (ns : List Int) (h : ns.length ≤ 63) : (f_law [.ro (ns.map .int)] []).post fun d _ => d = .bl true := by
  simp only [f_law, b_law, sizeLine, Nat.reducePow, Nat.reduceLeDiff, mkF, startE, sSeq, sSet, sIf, sRet, sRetN, sNext, sDrop, sBreak, sCont, sUnp, sPar, sPar3, sPut, eVar, eC, eBin, eUn, eTup, eLst, aNil, aCons, eCB, eCall, eBMT, eIf, eAnd, eOr, eNot, tOf, tTruth, DL.tNot, DL.tAnd, DL.tOr, tYesD, eSl, oNone, oSome, sFor, iAny, iRange1, iRange2, gN, gT, gSets, eLc, wipeE, R.post_bind, R.bind_ok, R.bind_bad, R.post_ok, R.post_bad, post_ite, sFor_tup, sFor_rng, eLc_tup, eLc_rng, List.getElem?_cons_zero, List.getElem?_cons_succ, List.getElem?_nil, List.set_cons_zero, List.set_cons_succ, List.map_cons, List.map_nil, List.length_cons, List.length_nil, List.replicate, List.cons_append, List.nil_append, Nat.reduceAdd, Nat.reduceSub, reduceIte]
  refine rev_draws rfl h (by decide) (by decide) fun st1 t1 l1 => ?_
  have p59 : CPow 10 59 := by decide +kernel
  have p60 : CPow 10 60 := by decide +kernel
  have p64 : CPow 2 64 := by decide +kernel
  have h3 : (0:Int) < 3 := by decide
  have e59 : (10:Int) ^ Int.toNat 59 = 100000000000000000000000000000000000000000000000000000000000 := by decide +kernel
  have e60 : (10:Int) ^ Int.toNat 60 = 1000000000000000000000000000000000000000000000000000000000000 := by decide +kernel
  have e64 : (2:Int) ^ Int.toNat 64 = 18446744073709551616 := by decide +kernel
  simp only [dPow_int _ p59, dEq_int, dNe_int, dEq_str, dNe_str, dGt_int, dGe_int, dLt_int, dLe_int, dAdd_int, dSub_int, dNeg_int, dAbs_int, dInt_int, dInt_bl, dEq_eV, dNe_eV, atI0, atI1, atI2, s1, s2, s3, s4, s5, s6, decide_true, decide_false, Bool.false_eq_true, Bool.not_true, Bool.not_false, sizeLine, Nat.reducePow, Nat.reduceLeDiff, mkF, startE, sSeq, sSet, sIf, sRet, sRetN, sNext, sDrop, sBreak, sCont, sUnp, sPar, sPar3, sPut, eVar, eC, eBin, eUn, eTup, eLst, aNil, aCons, eCB, eCall, eBMT, eIf, eAnd, eOr, eNot, tOf, tTruth, DL.tNot, DL.tAnd, DL.tOr, tYesD, eSl, oNone, oSome, sFor, iAny, iRange1, iRange2, gN, gT, gSets, eLc, wipeE, R.post_bind, R.bind_ok, R.bind_bad, R.post_ok, R.post_bad, post_ite, sFor_tup, sFor_rng, eLc_tup, eLc_rng, List.getElem?_cons_zero, List.getElem?_cons_succ, List.getElem?_nil, List.set_cons_zero, List.set_cons_succ, List.map_cons, List.map_nil, List.length_cons, List.length_nil, List.replicate, List.cons_append, List.nil_append, Nat.reduceAdd, Nat.reduceSub, reduceIte]
  refine take_post t1 fun x1 st2 a1 b1 t2 k2 => ?_
  refine take_post t2 fun x2 st3 a2 b2 t3 k3 => ?_
  simp only [dPow_int _ p59, dEq_int, dNe_int, dEq_str, dNe_str, dGt_int, dGe_int, dLt_int, dLe_int, dAdd_int, dSub_int, dNeg_int, dAbs_int, dInt_int, dInt_bl, dEq_eV, dNe_eV, atI0, atI1, atI2, s1, s2, s3, s4, s5, s6, decide_true, decide_false, Bool.false_eq_true, Bool.not_true, Bool.not_false, sizeLine, Nat.reducePow, Nat.reduceLeDiff, mkF, startE, sSeq, sSet, sIf, sRet, sRetN, sNext, sDrop, sBreak, sCont, sUnp, sPar, sPar3, sPut, eVar, eC, eBin, eUn, eTup, eLst, aNil, aCons, eCB, eCall, eBMT, eIf, eAnd, eOr, eNot, tOf, tTruth, DL.tNot, DL.tAnd, DL.tOr, tYesD, eSl, oNone, oSome, sFor, iAny, iRange1, iRange2, gN, gT, gSets, eLc, wipeE, R.post_bind, R.bind_ok, R.bind_bad, R.post_ok, R.post_bad, post_ite, sFor_tup, sFor_rng, eLc_tup, eLc_rng, List.getElem?_cons_zero, List.getElem?_cons_succ, List.getElem?_nil, List.set_cons_zero, List.set_cons_succ, List.map_cons, List.map_nil, List.length_cons, List.length_nil, List.replicate, List.cons_append, List.nil_append, Nat.reduceAdd, Nat.reduceSub, reduceIte]
  refine take_post t3 fun x3 st4 a3 b3 t4 k4 => ?_
  simp only [dPow_int _ p60, dEq_int, dNe_int, dEq_str, dNe_str, dGt_int, dGe_int, dLt_int, dLe_int, dAdd_int, dSub_int, dNeg_int, dAbs_int, dInt_int, dInt_bl, dEq_eV, dNe_eV, atI0, atI1, atI2, s1, s2, s3, s4, s5, s6, decide_true, decide_false, Bool.false_eq_true, Bool.not_true, Bool.not_false, sizeLine, Nat.reducePow, Nat.reduceLeDiff, mkF, startE, sSeq, sSet, sIf, sRet, sRetN, sNext, sDrop, sBreak, sCont, sUnp, sPar, sPar3, sPut, eVar, eC, eBin, eUn, eTup, eLst, aNil, aCons, eCB, eCall, eBMT, eIf, eAnd, eOr, eNot, tOf, tTruth, DL.tNot, DL.tAnd, DL.tOr, tYesD, eSl, oNone, oSome, sFor, iAny, iRange1, iRange2, gN, gT, gSets, eLc, wipeE, R.post_bind, R.bind_ok, R.bind_bad, R.post_ok, R.post_bad, post_ite, sFor_tup, sFor_rng, eLc_tup, eLc_rng, List.getElem?_cons_zero, List.getElem?_cons_succ, List.getElem?_nil, List.set_cons_zero, List.set_cons_succ, List.map_cons, List.map_nil, List.length_cons, List.length_nil, List.replicate, List.cons_append, List.nil_append, Nat.reduceAdd, Nat.reduceSub, reduceIte]
  refine take_post t4 fun x4 st5 a4 b4 t5 k5 => ?_
  simp only [dPow_int _ p64, dEq_int, dNe_int, dEq_str, dNe_str, dGt_int, dGe_int, dLt_int, dLe_int, dAdd_int, dSub_int, dNeg_int, dAbs_int, dInt_int, dInt_bl, dEq_eV, dNe_eV, atI0, atI1, atI2, s1, s2, s3, s4, s5, s6, decide_true, decide_false, Bool.false_eq_true, Bool.not_true, Bool.not_false, sizeLine, Nat.reducePow, Nat.reduceLeDiff, mkF, startE, sSeq, sSet, sIf, sRet, sRetN, sNext, sDrop, sBreak, sCont, sUnp, sPar, sPar3, sPut, eVar, eC, eBin, eUn, eTup, eLst, aNil, aCons, eCB, eCall, eBMT, eIf, eAnd, eOr, eNot, tOf, tTruth, DL.tNot, DL.tAnd, DL.tOr, tYesD, eSl, oNone, oSome, sFor, iAny, iRange1, iRange2, gN, gT, gSets, eLc, wipeE, R.post_bind, R.bind_ok, R.bind_bad, R.post_ok, R.post_bad, post_ite, sFor_tup, sFor_rng, eLc_tup, eLc_rng, List.getElem?_cons_zero, List.getElem?_cons_succ, List.getElem?_nil, List.set_cons_zero, List.set_cons_succ, List.map_cons, List.map_nil, List.length_cons, List.length_nil, List.replicate, List.cons_append, List.nil_append, Nat.reduceAdd, Nat.reduceSub, reduceIte]
  refine take_post t5 fun x5 st6 a5 b5 t6 k6 => ?_
  simp only [dMod_int _ h3, dEq_int, dNe_int, dEq_str, dNe_str, dGt_int, dGe_int, dLt_int, dLe_int, dAdd_int, dSub_int, dNeg_int, dAbs_int, dInt_int, dInt_bl, dEq_eV, dNe_eV, atI0, atI1, atI2, s1, s2, s3, s4, s5, s6, decide_true, decide_false, Bool.false_eq_true, Bool.not_true, Bool.not_false, sizeLine, Nat.reducePow, Nat.reduceLeDiff, mkF, startE, sSeq, sSet, sIf, sRet, sRetN, sNext, sDrop, sBreak, sCont, sUnp, sPar, sPar3, sPut, eVar, eC, eBin, eUn, eTup, eLst, aNil, aCons, eCB, eCall, eBMT, eIf, eAnd, eOr, eNot, tOf, tTruth, DL.tNot, DL.tAnd, DL.tOr, tYesD, eSl, oNone, oSome, sFor, iAny, iRange1, iRange2, gN, gT, gSets, eLc, wipeE, R.post_bind, R.bind_ok, R.bind_bad, R.post_ok, R.post_bad, post_ite, sFor_tup, sFor_rng, eLc_tup, eLc_rng, List.getElem?_cons_zero, List.getElem?_cons_succ, List.getElem?_nil, List.set_cons_zero, List.set_cons_succ, List.map_cons, List.map_nil, List.length_cons, List.length_nil, List.replicate, List.cons_append, List.nil_append, Nat.reduceAdd, Nat.reduceSub, reduceIte, e59, e60, e64]
  obtain ⟨zs, hz, hb⟩ : ∃ zs : List Int, [D.int 0, D.int 1, D.int (-1), D.int 2, D.int (-7), D.int x1, D.int (-x2), D.int (100000000000000000000000000000000000000000000000000000000000 + x3), D.int (-1000000000000000000000000000000000000000000000000000000000000 - x4), D.int (18446744073709551616 + x5 % 3)] = zs.map D.int ∧ zs.length = 10 ∧ ∀ z ∈ zs, -(10 ^ 61) < z ∧ z < 10 ^ 61 := by
    refine ⟨[0, 1, -1, 2, -7, x1, -x2, 100000000000000000000000000000000000000000000000000000000000 + x3, -1000000000000000000000000000000000000000000000000000000000000 - x4, 18446744073709551616 + x5 % 3], rfl, rfl, ?_⟩
    simp only [List.mem_cons, List.not_mem_nil, or_false]
    rintro z (rfl | rfl | rfl | rfl | rfl | rfl | rfl | rfl | rfl | rfl) <;> omega
  obtain ⟨hl, hb⟩ := hb
  rw [hz]
  have g1 : (st6 ++ [O.lst (zs.map D.int)] ++ [O.lst [D.tup [D.str (Str.ofString "nil")]]])[st6.length]? = some (.lst (zs.map .int)) := get_push (get_new _ _) _
  have g2 : (st6 ++ [O.lst (zs.map D.int)] ++ [O.lst [D.tup [D.str (Str.ofString "nil")]]])[(st6 ++ [O.lst (zs.map D.int)]).length]? = some (.lst [eV .nil]) := get_new _ _
  have t7 : Tape 3 (st6 ++ [O.lst (zs.map D.int)] ++ [O.lst [D.tup [D.str (Str.ofString "nil")]]]) := (t6.push _).push _
  generalize (st6 ++ [O.lst (zs.map D.int)] ++ [O.lst [D.tup [D.str (Str.ofString "nil")]]]) = st7 at g1 g2 t7 ⊢
  generalize (st6 ++ [O.lst (zs.map D.int)]).length = n2 at g2 ⊢
  generalize st6.length = n1 at g1 ⊢
  rw [lc_map D.int (fun z => eV (.is z)) zs g1 (by
    intro z hz
    refine ⟨_, rfl, rfl, ?_⟩
    simp only [sizeLine, Nat.reducePow, Nat.reduceLeDiff, mkF, startE, sSeq, sSet, sIf, sRet, sRetN, sNext, sDrop, sBreak, sCont, sUnp, sPar, sPar3, sPut, eVar, eC, eBin, eUn, eTup, eLst, aNil, aCons, eCB, eCall, eBMT, eIf, eAnd, eOr, eNot, tOf, tTruth, DL.tNot, DL.tAnd, DL.tOr, tYesD, eSl, oNone, oSome, sFor, iAny, iRange1, iRange2, gN, gT, gSets, eLc, wipeE, R.post_bind, R.bind_ok, R.bind_bad, R.post_ok, R.post_bad, post_ite, sFor_tup, sFor_rng, eLc_tup, eLc_rng, List.getElem?_cons_zero, List.getElem?_cons_succ, List.getElem?_nil, List.set_cons_zero, List.set_cons_succ, List.map_cons, List.map_nil, List.length_cons, List.length_nil, List.replicate, List.cons_append, List.nil_append, Nat.reduceAdd, Nat.reduceSub, reduceIte, eV])]
  simp only [sizeLine, Nat.reducePow, Nat.reduceLeDiff, mkF, startE, sSeq, sSet, sIf, sRet, sRetN, sNext, sDrop, sBreak, sCont, sUnp, sPar, sPar3, sPut, eVar, eC, eBin, eUn, eTup, eLst, aNil, aCons, eCB, eCall, eBMT, eIf, eAnd, eOr, eNot, tOf, tTruth, DL.tNot, DL.tAnd, DL.tOr, tYesD, eSl, oNone, oSome, sFor, iAny, iRange1, iRange2, gN, gT, gSets, eLc, wipeE, R.post_bind, R.bind_ok, R.bind_bad, R.post_ok, R.post_bad, post_ite, sFor_tup, sFor_rng, eLc_tup, eLc_rng, List.getElem?_cons_zero, List.getElem?_cons_succ, List.getElem?_nil, List.set_cons_zero, List.set_cons_succ, List.map_cons, List.map_nil, List.length_cons, List.length_nil, List.replicate, List.cons_append, List.nil_append, Nat.reduceAdd, Nat.reduceSub, reduceIte, List.length_map, hl]
  rw [dAdd_ref (get_push g2 _) (get_new _ _) (by simp [hl])]
  simp only [sizeLine, Nat.reducePow, Nat.reduceLeDiff, mkF, startE, sSeq, sSet, sIf, sRet, sRetN, sNext, sDrop, sBreak, sCont, sUnp, sPar, sPar3, sPut, eVar, eC, eBin, eUn, eTup, eLst, aNil, aCons, eCB, eCall, eBMT, eIf, eAnd, eOr, eNot, tOf, tTruth, DL.tNot, DL.tAnd, DL.tOr, tYesD, eSl, oNone, oSome, sFor, iAny, iRange1, iRange2, gN, gT, gSets, eLc, wipeE, R.post_bind, R.bind_ok, R.bind_bad, R.post_ok, R.post_bad, post_ite, sFor_tup, sFor_rng, eLc_tup, eLc_rng, List.getElem?_cons_zero, List.getElem?_cons_succ, List.getElem?_nil, List.set_cons_zero, List.set_cons_succ, List.map_cons, List.map_nil, List.length_cons, List.length_nil, List.replicate, List.cons_append, List.nil_append, Nat.reduceAdd, Nat.reduceSub, reduceIte]
  rw [lc_map D.int (fun z => eV (.at ((if z < 0 then -z else z) + 1))) zs (get_push (get_push g1 _) _) (by
    intro z hz
    refine ⟨_, rfl, rfl, ?_⟩
    simp only [sizeLine, Nat.reducePow, Nat.reduceLeDiff, mkF, startE, sSeq, sSet, sIf, sRet, sRetN, sNext, sDrop, sBreak, sCont, sUnp, sPar, sPar3, sPut, eVar, eC, eBin, eUn, eTup, eLst, aNil, aCons, eCB, eCall, eBMT, eIf, eAnd, eOr, eNot, tOf, tTruth, DL.tNot, DL.tAnd, DL.tOr, tYesD, eSl, oNone, oSome, sFor, iAny, iRange1, iRange2, gN, gT, gSets, eLc, wipeE, R.post_bind, R.bind_ok, R.bind_bad, R.post_ok, R.post_bad, post_ite, sFor_tup, sFor_rng, eLc_tup, eLc_rng, List.getElem?_cons_zero, List.getElem?_cons_succ, List.getElem?_nil, List.set_cons_zero, List.set_cons_succ, List.map_cons, List.map_nil, List.length_cons, List.length_nil, List.replicate, List.cons_append, List.nil_append, Nat.reduceAdd, Nat.reduceSub, reduceIte, eV, dEq_int, dNe_int, dEq_str, dNe_str, dGt_int, dGe_int, dLt_int, dLe_int, dAdd_int, dSub_int, dNeg_int, dAbs_int, dInt_int, dInt_bl, dEq_eV, dNe_eV, atI0, atI1, atI2, s1, s2, s3, s4, s5, s6, decide_true, decide_false, Bool.false_eq_true, Bool.not_true, Bool.not_false])]
  simp only [sizeLine, Nat.reducePow, Nat.reduceLeDiff, mkF, startE, sSeq, sSet, sIf, sRet, sRetN, sNext, sDrop, sBreak, sCont, sUnp, sPar, sPar3, sPut, eVar, eC, eBin, eUn, eTup, eLst, aNil, aCons, eCB, eCall, eBMT, eIf, eAnd, eOr, eNot, tOf, tTruth, DL.tNot, DL.tAnd, DL.tOr, tYesD, eSl, oNone, oSome, sFor, iAny, iRange1, iRange2, gN, gT, gSets, eLc, wipeE, R.post_bind, R.bind_ok, R.bind_bad, R.post_ok, R.post_bad, post_ite, sFor_tup, sFor_rng, eLc_tup, eLc_rng, List.getElem?_cons_zero, List.getElem?_cons_succ, List.getElem?_nil, List.set_cons_zero, List.set_cons_succ, List.map_cons, List.map_nil, List.length_cons, List.length_nil, List.replicate, List.cons_append, List.nil_append, Nat.reduceAdd, Nat.reduceSub, reduceIte, List.length_map, hl]
  rw [dAdd_ref (get_push (get_new _ _) _) (get_new _ _) (by simp [hl])]
  simp only [sizeLine, Nat.reducePow, Nat.reduceLeDiff, mkF, startE, sSeq, sSet, sIf, sRet, sRetN, sNext, sDrop, sBreak, sCont, sUnp, sPar, sPar3, sPut, eVar, eC, eBin, eUn, eTup, eLst, aNil, aCons, eCB, eCall, eBMT, eIf, eAnd, eOr, eNot, tOf, tTruth, DL.tNot, DL.tAnd, DL.tOr, tYesD, eSl, oNone, oSome, sFor, iAny, iRange1, iRange2, gN, gT, gSets, eLc, wipeE, R.post_bind, R.bind_ok, R.bind_bad, R.post_ok, R.post_bad, post_ite, sFor_tup, sFor_rng, eLc_tup, eLc_rng, List.getElem?_cons_zero, List.getElem?_cons_succ, List.getElem?_nil, List.set_cons_zero, List.set_cons_succ, List.map_cons, List.map_nil, List.length_cons, List.length_nil, List.replicate, List.cons_append, List.nil_append, Nat.reduceAdd, Nat.reduceSub, reduceIte]
  have hv : ∃ vs : List Val, (eV Val.nil :: (List.map (fun z => eV (Val.is z)) zs ++ List.map (fun z => eV (Val.at ((if z < 0 then -z else z) + 1))) zs)) = vs.map eV ∧ ∀ v ∈ vs, -(10 ^ 100) < v.num ∧ v.num < 10 ^ 100 ∧ -(10 ^ 100) < wOf v ∧ wOf v < 10 ^ 100 ∧ ∀ n, v = .at n → 0 < n := by
    refine ⟨.nil :: (zs.map Val.is ++ zs.map fun z => Val.at ((if z < 0 then -z else z) + 1)), by simp; rfl, ?_⟩
    have e : (10:Int) ^ 100 = 10 ^ 61 * 10 ^ 39 := by decide +kernel
    have e' : (10:Int) ^ 61 = 10000000000000000000000000000000000000000000000000000000000000 := by decide +kernel
    have e'' : (10:Int) ^ 39 = 1000000000000000000000000000000000000000 := by decide +kernel
    intro v hv
    rcases List.mem_cons.mp hv with rfl | hv
    · exact ⟨by decide +kernel, by decide +kernel, by decide +kernel, by decide +kernel, fun n h => by cases h⟩
    rcases List.mem_append.mp hv with hv | hv
    · obtain ⟨z, hz, rfl⟩ := List.mem_map.mp hv
      have := hb z hz
      simp only [Val.num, wOf]
      refine ⟨by omega, by omega, by omega, by omega, fun n h => by cases h⟩
    · obtain ⟨z, hz, rfl⟩ := List.mem_map.mp hv
      have := hb z hz
      simp only [Val.num, wOf]
      refine ⟨by split <;> omega, by split <;> omega, by split <;> omega, by split <;> omega, fun n h => ?_⟩
      cases h
      split <;> omega
  obtain ⟨vs, ev, hvs⟩ := hv
  rw [ev]
  have t8 : Tape 3 (st7 ++ [O.lst (List.map (fun z => eV (Val.is z)) zs)] ++ [O.lst (eV Val.nil :: List.map (fun z => eV (Val.is z)) zs)] ++ [O.lst (List.map (fun z => eV (Val.at ((if z < 0 then -z else z) + 1))) zs)] ++ [O.lst (vs.map eV)]) := (((t7.push _).push _).push _).push _
  have g8 := get_new (st7 ++ [O.lst (List.map (fun z => eV (Val.is z)) zs)] ++ [O.lst (eV Val.nil :: List.map (fun z => eV (Val.is z)) zs)] ++ [O.lst (List.map (fun z => eV (Val.at ((if z < 0 then -z else z) + 1))) zs)]) (O.lst (vs.map eV))
  generalize (st7 ++ [O.lst (List.map (fun z => eV (Val.is z)) zs)] ++ [O.lst (eV Val.nil :: List.map (fun z => eV (Val.is z)) zs)] ++ [O.lst (List.map (fun z => eV (Val.at ((if z < 0 then -z else z) + 1))) zs)] ++ [O.lst (vs.map eV)]) = st8 at g8 t8 ⊢
  generalize (st7 ++ [O.lst (List.map (fun z => eV (Val.is z)) zs)] ++ [O.lst (eV Val.nil :: List.map (fun z => eV (Val.is z)) zs)] ++ [O.lst (List.map (fun z => eV (Val.at ((if z < 0 then -z else z) + 1))) zs)]).length = n8 at g8 ⊢
  refine for_map eV vs (fun env => ∃ x4 x5, env = [some (D.ro (List.map D.int ns)), some (D.ref 3), some (D.ref n1), some (D.ref n8), x4, x5, none, none]) g8 ⟨_, _, rfl⟩ ?_ ?_
  · rintro v hv env ⟨x4, x5, rfl⟩
    obtain ⟨q1, q2, q3, q4, q5⟩ := hvs v hv
    refine ⟨_, rfl, ?_⟩
    simp only [sizeLine, Nat.reducePow, Nat.reduceLeDiff, mkF, startE, sSeq, sSet, sIf, sRet, sRetN, sNext, sDrop, sBreak, sCont, sUnp, sPar, sPar3, sPut, eVar, eC, eBin, eUn, eTup, eLst, aNil, aCons, eCB, eCall, eBMT, eIf, eAnd, eOr, eNot, tOf, tTruth, DL.tNot, DL.tAnd, DL.tOr, tYesD, eSl, oNone, oSome, sFor, iAny, iRange1, iRange2, gN, gT, gSets, eLc, wipeE, R.post_bind, R.bind_ok, R.bind_bad, R.post_ok, R.post_bad, post_ite, sFor_tup, sFor_rng, eLc_tup, eLc_rng, List.getElem?_cons_zero, List.getElem?_cons_succ, List.getElem?_nil, List.set_cons_zero, List.set_cons_succ, List.map_cons, List.map_nil, List.length_cons, List.length_nil, List.replicate, List.cons_append, List.nil_append, Nat.reduceAdd, Nat.reduceSub, reduceIte, law_word_of_ok q1 q2, word_of_ok q1 q2, same_i (bnd q3 q4), value_of_ok, vw q5, same_v (bnd q1 q2), dTruth, dEq_int, dNe_int, dEq_str, dNe_str, dGt_int, dGe_int, dLt_int, dLe_int, dAdd_int, dSub_int, dNeg_int, dAbs_int, dInt_int, dInt_bl, dEq_eV, dNe_eV, atI0, atI1, atI2, s1, s2, s3, s4, s5, s6, decide_true, decide_false, Bool.false_eq_true, Bool.not_true, Bool.not_false]
    exact ⟨_, rfl, trivial, _, _, rfl⟩
  · rintro env ⟨x4, x5, rfl⟩
    have r1 : RgOk (-9) 21 := by decide +kernel
    simp only [sizeLine, Nat.reducePow, Nat.reduceLeDiff, mkF, startE, sSeq, sSet, sIf, sRet, sRetN, sNext, sDrop, sBreak, sCont, sUnp, sPar, sPar3, sPut, eVar, eC, eBin, eUn, eTup, eLst, aNil, aCons, eCB, eCall, eBMT, eIf, eAnd, eOr, eNot, tOf, tTruth, DL.tNot, DL.tAnd, DL.tOr, tYesD, eSl, oNone, oSome, sFor, iAny, iRange1, iRange2, gN, gT, gSets, eLc, wipeE, R.post_bind, R.bind_ok, R.bind_bad, R.post_ok, R.post_bad, post_ite, sFor_tup, sFor_rng, eLc_tup, eLc_rng, List.getElem?_cons_zero, List.getElem?_cons_succ, List.getElem?_nil, List.set_cons_zero, List.set_cons_succ, List.map_cons, List.map_nil, List.length_cons, List.length_nil, List.replicate, List.cons_append, List.nil_append, Nat.reduceAdd, Nat.reduceSub, reduceIte, eRg2, dEq_int, dNe_int, dEq_str, dNe_str, dGt_int, dGe_int, dLt_int, dLe_int, dAdd_int, dSub_int, dNeg_int, dAbs_int, dInt_int, dInt_bl, dEq_eV, dNe_eV, atI0, atI1, atI2, s1, s2, s3, s4, s5, s6, decide_true, decide_false, Bool.false_eq_true, Bool.not_true, Bool.not_false, r1]
    have lt8 : 3 < st8.length := by
      obtain ⟨xs, e, _⟩ := t8
      exact (List.getElem?_eq_some_iff.mp e).1
    have n30 : (21 - (-9 : Int)).toNat = 30 := by decide
    refine take_post (t8.push _) fun y1 st9 c1 d1 t9 j1 => ?_
    have o1 := j1.get _ _ (by omega) (get_new _ _)
    have m1 : CMulW 2 y1 := cmulS (by decide) (by decide) (by omega) (by omega)
    simp only [dMul_int _ m1, dEq_int, dNe_int, dEq_str, dNe_str, dGt_int, dGe_int, dLt_int, dLe_int, dAdd_int, dSub_int, dNeg_int, dAbs_int, dInt_int, dInt_bl, dEq_eV, dNe_eV, atI0, atI1, atI2, s1, s2, s3, s4, s5, s6, decide_true, decide_false, Bool.false_eq_true, Bool.not_true, Bool.not_false, sizeLine, Nat.reducePow, Nat.reduceLeDiff, mkF, startE, sSeq, sSet, sIf, sRet, sRetN, sNext, sDrop, sBreak, sCont, sUnp, sPar, sPar3, sPut, eVar, eC, eBin, eUn, eTup, eLst, aNil, aCons, eCB, eCall, eBMT, eIf, eAnd, eOr, eNot, tOf, tTruth, DL.tNot, DL.tAnd, DL.tOr, tYesD, eSl, oNone, oSome, sFor, iAny, iRange1, iRange2, gN, gT, gSets, eLc, wipeE, R.post_bind, R.bind_ok, R.bind_bad, R.post_ok, R.post_bad, post_ite, sFor_tup, sFor_rng, eLc_tup, eLc_rng, List.getElem?_cons_zero, List.getElem?_cons_succ, List.getElem?_nil, List.set_cons_zero, List.set_cons_succ, List.map_cons, List.map_nil, List.length_cons, List.length_nil, List.replicate, List.cons_append, List.nil_append, Nat.reduceAdd, Nat.reduceSub, reduceIte]
    refine take_post t9 fun y2 st10 c2 d2 t10 j2 => ?_
    have o2 := j2.get _ _ (by omega) o1
    have m2 : CMulW 2 y2 := cmulS (by decide) (by decide) (by omega) (by omega)
    simp only [dMul_int _ m2, dEq_int, dNe_int, dEq_str, dNe_str, dGt_int, dGe_int, dLt_int, dLe_int, dAdd_int, dSub_int, dNeg_int, dAbs_int, dInt_int, dInt_bl, dEq_eV, dNe_eV, atI0, atI1, atI2, s1, s2, s3, s4, s5, s6, decide_true, decide_false, Bool.false_eq_true, Bool.not_true, Bool.not_false, sizeLine, Nat.reducePow, Nat.reduceLeDiff, mkF, startE, sSeq, sSet, sIf, sRet, sRetN, sNext, sDrop, sBreak, sCont, sUnp, sPar, sPar3, sPut, eVar, eC, eBin, eUn, eTup, eLst, aNil, aCons, eCB, eCall, eBMT, eIf, eAnd, eOr, eNot, tOf, tTruth, DL.tNot, DL.tAnd, DL.tOr, tYesD, eSl, oNone, oSome, sFor, iAny, iRange1, iRange2, gN, gT, gSets, eLc, wipeE, R.post_bind, R.bind_ok, R.bind_bad, R.post_ok, R.post_bad, post_ite, sFor_tup, sFor_rng, eLc_tup, eLc_rng, List.getElem?_cons_zero, List.getElem?_cons_succ, List.getElem?_nil, List.set_cons_zero, List.set_cons_succ, List.map_cons, List.map_nil, List.length_cons, List.length_nil, List.replicate, List.cons_append, List.nil_append, Nat.reduceAdd, Nat.reduceSub, reduceIte]
    refine take_post t10 fun y3 st11 c3 d3 t11 j3 => ?_
    have o3 := j3.get _ _ (by omega) o2
    have m3 : CMulW (-2) y3 := cmulS (by decide) (by decide) (by omega) (by omega)
    simp only [dMul_int _ m3, dEq_int, dNe_int, dEq_str, dNe_str, dGt_int, dGe_int, dLt_int, dLe_int, dAdd_int, dSub_int, dNeg_int, dAbs_int, dInt_int, dInt_bl, dEq_eV, dNe_eV, atI0, atI1, atI2, s1, s2, s3, s4, s5, s6, decide_true, decide_false, Bool.false_eq_true, Bool.not_true, Bool.not_false, sizeLine, Nat.reducePow, Nat.reduceLeDiff, mkF, startE, sSeq, sSet, sIf, sRet, sRetN, sNext, sDrop, sBreak, sCont, sUnp, sPar, sPar3, sPut, eVar, eC, eBin, eUn, eTup, eLst, aNil, aCons, eCB, eCall, eBMT, eIf, eAnd, eOr, eNot, tOf, tTruth, DL.tNot, DL.tAnd, DL.tOr, tYesD, eSl, oNone, oSome, sFor, iAny, iRange1, iRange2, gN, gT, gSets, eLc, wipeE, R.post_bind, R.bind_ok, R.bind_bad, R.post_ok, R.post_bad, post_ite, sFor_tup, sFor_rng, eLc_tup, eLc_rng, List.getElem?_cons_zero, List.getElem?_cons_succ, List.getElem?_nil, List.set_cons_zero, List.set_cons_succ, List.map_cons, List.map_nil, List.length_cons, List.length_nil, List.replicate, List.cons_append, List.nil_append, Nat.reduceAdd, Nat.reduceSub, reduceIte]
    rw [dAdd_ref (get_push o3 _) (get_new _ _) (by simp [rngL])]
    simp only [sizeLine, Nat.reducePow, Nat.reduceLeDiff, mkF, startE, sSeq, sSet, sIf, sRet, sRetN, sNext, sDrop, sBreak, sCont, sUnp, sPar, sPar3, sPut, eVar, eC, eBin, eUn, eTup, eLst, aNil, aCons, eCB, eCall, eBMT, eIf, eAnd, eOr, eNot, tOf, tTruth, DL.tNot, DL.tAnd, DL.tOr, tYesD, eSl, oNone, oSome, sFor, iAny, iRange1, iRange2, gN, gT, gSets, eLc, wipeE, R.post_bind, R.bind_ok, R.bind_bad, R.post_ok, R.post_bad, post_ite, sFor_tup, sFor_rng, eLc_tup, eLc_rng, List.getElem?_cons_zero, List.getElem?_cons_succ, List.getElem?_nil, List.set_cons_zero, List.set_cons_succ, List.map_cons, List.map_nil, List.length_cons, List.length_nil, List.replicate, List.cons_append, List.nil_append, Nat.reduceAdd, Nat.reduceSub, reduceIte]
    have hw : ∃ ws : List Int, (rngL (-9) (21 - -9).toNat ++ [D.int (2 * y1 + 1), D.int (2 * y2 + 2), D.int (-2 * y3 - 1)]) = ws.map D.int ∧ ∀ w ∈ ws, -(10 ^ 50) < w ∧ w < 10 ^ 50 := by
      refine ⟨((List.range (21 - -9 : Int).toNat).map fun (k : Nat) => (-9 + (k : Int))) ++ [2 * y1 + 1, 2 * y2 + 2, -2 * y3 - 1], by simp only [rngL, List.map_append, List.map_map, List.map_cons, List.map_nil]; rfl, ?_⟩
      intro w hw
      rcases List.mem_append.mp hw with hw | hw
      · obtain ⟨k, hk, rfl⟩ := List.mem_map.mp hw
        have := List.mem_range.mp hk
        omega
      · simp only [List.mem_cons, List.not_mem_nil, or_false] at hw
        rcases hw with rfl | rfl | rfl <;> omega
    obtain ⟨ws, ew, hws⟩ := hw
    rw [ew]
    refine for_map D.int ws (fun env => ∃ x5 x6, env = [some (D.ro (List.map D.int ns)), some (D.ref 3), some (D.ref n1), some (D.ref n8), x4, x5, x6, none]) (get_new _ _) ⟨_, _, rfl⟩ ?_ ?_
    · rintro w hw env ⟨x5, x6, rfl⟩
      obtain ⟨q1, q2⟩ := hws w hw
      refine ⟨_, rfl, ?_⟩
      have h2 : (0:Int) < 2 := by decide
      have e100 : (10:Int) ^ 50 ≤ 10 ^ 100 := by decide +kernel
      have fin : ∀ x st, (w % 2 = 1 ∨ 0 ≤ w) → x = eV (dueOf w) → f__law_same [eV (vOf w), x] st = .ok (.bl true) st := by
        rintro x st hh rfl
        rw [due_ok hh]
        refine same_v ?_ st
        have e100 : (10:Int) ^ 50 ≤ 10 ^ 100 := by decide +kernel
        unfold dueOf Val.num
        refine bnd ?_ ?_
        · split
          · omega
          · rename_i h; split at h
            · split at h <;> cases h
            · cases h; omega
          · rename_i h; split at h
            · split at h <;> cases h; omega
            · cases h
        · split
          · omega
          · rename_i h; split at h
            · split at h <;> cases h
            · cases h; omega
          · rename_i h; split at h
            · split at h <;> cases h; omega
            · cases h
      simp only [sizeLine, Nat.reducePow, Nat.reduceLeDiff, mkF, startE, sSeq, sSet, sIf, sRet, sRetN, sNext, sDrop, sBreak, sCont, sUnp, sPar, sPar3, sPut, eVar, eC, eBin, eUn, eTup, eLst, aNil, aCons, eCB, eCall, eBMT, eIf, eAnd, eOr, eNot, tOf, tTruth, DL.tNot, DL.tAnd, DL.tOr, tYesD, eSl, oNone, oSome, sFor, iAny, iRange1, iRange2, gN, gT, gSets, eLc, wipeE, R.post_bind, R.bind_ok, R.bind_bad, R.post_ok, R.post_bad, post_ite, sFor_tup, sFor_rng, eLc_tup, eLc_rng, List.getElem?_cons_zero, List.getElem?_cons_succ, List.getElem?_nil, List.set_cons_zero, List.set_cons_succ, List.map_cons, List.map_nil, List.length_cons, List.length_nil, List.replicate, List.cons_append, List.nil_append, Nat.reduceAdd, Nat.reduceSub, reduceIte, dMod_int _ h2, dFdiv_int _ cdi2, value_of_ok, dEq_int, dNe_int, dEq_str, dNe_str, dGt_int, dGe_int, dLt_int, dLe_int, dAdd_int, dSub_int, dNeg_int, dAbs_int, dInt_int, dInt_bl, dEq_eV, dNe_eV, atI0, atI1, atI2, s1, s2, s3, s4, s5, s6, decide_true, decide_false, Bool.false_eq_true, Bool.not_true, Bool.not_false]
      by_cases ev : w % 2 = 0
      · by_cases ps : 0 < w
        · have pz : 0 ≤ w := by omega
          simp only [ev, ps, pz, dEq_int, dNe_int, dEq_str, dNe_str, dGt_int, dGe_int, dLt_int, dLe_int, dAdd_int, dSub_int, dNeg_int, dAbs_int, dInt_int, dInt_bl, dEq_eV, dNe_eV, atI0, atI1, atI2, s1, s2, s3, s4, s5, s6, decide_true, decide_false, Bool.false_eq_true, Bool.not_true, Bool.not_false, sizeLine, Nat.reducePow, Nat.reduceLeDiff, mkF, startE, sSeq, sSet, sIf, sRet, sRetN, sNext, sDrop, sBreak, sCont, sUnp, sPar, sPar3, sPut, eVar, eC, eBin, eUn, eTup, eLst, aNil, aCons, eCB, eCall, eBMT, eIf, eAnd, eOr, eNot, tOf, tTruth, DL.tNot, DL.tAnd, DL.tOr, tYesD, eSl, oNone, oSome, sFor, iAny, iRange1, iRange2, gN, gT, gSets, eLc, wipeE, R.post_bind, R.bind_ok, R.bind_bad, R.post_ok, R.post_bad, post_ite, sFor_tup, sFor_rng, eLc_tup, eLc_rng, List.getElem?_cons_zero, List.getElem?_cons_succ, List.getElem?_nil, List.set_cons_zero, List.set_cons_succ, List.map_cons, List.map_nil, List.length_cons, List.length_nil, List.replicate, List.cons_append, List.nil_append, Nat.reduceAdd, Nat.reduceSub, reduceIte, dMod_int _ h2, dFdiv_int _ cdi2, value_of_ok, Int.reduceEq, fin (.tup [.str "at", .int (w / 2)]) _ (.inr pz) (by unfold dueOf; rw [if_pos ev, if_pos ps]; rfl), dTruth]
          exact ⟨_, rfl, trivial, _, _, rfl⟩
        · simp only [ev, ps, dEq_int, dNe_int, dEq_str, dNe_str, dGt_int, dGe_int, dLt_int, dLe_int, dAdd_int, dSub_int, dNeg_int, dAbs_int, dInt_int, dInt_bl, dEq_eV, dNe_eV, atI0, atI1, atI2, s1, s2, s3, s4, s5, s6, decide_true, decide_false, Bool.false_eq_true, Bool.not_true, Bool.not_false, sizeLine, Nat.reducePow, Nat.reduceLeDiff, mkF, startE, sSeq, sSet, sIf, sRet, sRetN, sNext, sDrop, sBreak, sCont, sUnp, sPar, sPar3, sPut, eVar, eC, eBin, eUn, eTup, eLst, aNil, aCons, eCB, eCall, eBMT, eIf, eAnd, eOr, eNot, tOf, tTruth, DL.tNot, DL.tAnd, DL.tOr, tYesD, eSl, oNone, oSome, sFor, iAny, iRange1, iRange2, gN, gT, gSets, eLc, wipeE, R.post_bind, R.bind_ok, R.bind_bad, R.post_ok, R.post_bad, post_ite, sFor_tup, sFor_rng, eLc_tup, eLc_rng, List.getElem?_cons_zero, List.getElem?_cons_succ, List.getElem?_nil, List.set_cons_zero, List.set_cons_succ, List.map_cons, List.map_nil, List.length_cons, List.length_nil, List.replicate, List.cons_append, List.nil_append, Nat.reduceAdd, Nat.reduceSub, reduceIte, dMod_int _ h2, value_of_ok, Int.reduceEq]
          by_cases pz : 0 ≤ w
          · simp only [pz, dEq_int, dNe_int, dEq_str, dNe_str, dGt_int, dGe_int, dLt_int, dLe_int, dAdd_int, dSub_int, dNeg_int, dAbs_int, dInt_int, dInt_bl, dEq_eV, dNe_eV, atI0, atI1, atI2, s1, s2, s3, s4, s5, s6, decide_true, decide_false, Bool.false_eq_true, Bool.not_true, Bool.not_false, sizeLine, Nat.reducePow, Nat.reduceLeDiff, mkF, startE, sSeq, sSet, sIf, sRet, sRetN, sNext, sDrop, sBreak, sCont, sUnp, sPar, sPar3, sPut, eVar, eC, eBin, eUn, eTup, eLst, aNil, aCons, eCB, eCall, eBMT, eIf, eAnd, eOr, eNot, tOf, tTruth, DL.tNot, DL.tAnd, DL.tOr, tYesD, eSl, oNone, oSome, sFor, iAny, iRange1, iRange2, gN, gT, gSets, eLc, wipeE, R.post_bind, R.bind_ok, R.bind_bad, R.post_ok, R.post_bad, post_ite, sFor_tup, sFor_rng, eLc_tup, eLc_rng, List.getElem?_cons_zero, List.getElem?_cons_succ, List.getElem?_nil, List.set_cons_zero, List.set_cons_succ, List.map_cons, List.map_nil, List.length_cons, List.length_nil, List.replicate, List.cons_append, List.nil_append, Nat.reduceAdd, Nat.reduceSub, reduceIte, fin (.tup [.str "nil"]) _ (.inr pz) (by unfold dueOf; rw [if_pos ev, if_neg ps]; rfl), dTruth]
            exact ⟨_, rfl, trivial, _, _, rfl⟩
          · simp only [pz, dEq_int, dNe_int, dEq_str, dNe_str, dGt_int, dGe_int, dLt_int, dLe_int, dAdd_int, dSub_int, dNeg_int, dAbs_int, dInt_int, dInt_bl, dEq_eV, dNe_eV, atI0, atI1, atI2, s1, s2, s3, s4, s5, s6, decide_true, decide_false, Bool.false_eq_true, Bool.not_true, Bool.not_false, sizeLine, Nat.reducePow, Nat.reduceLeDiff, mkF, startE, sSeq, sSet, sIf, sRet, sRetN, sNext, sDrop, sBreak, sCont, sUnp, sPar, sPar3, sPut, eVar, eC, eBin, eUn, eTup, eLst, aNil, aCons, eCB, eCall, eBMT, eIf, eAnd, eOr, eNot, tOf, tTruth, DL.tNot, DL.tAnd, DL.tOr, tYesD, eSl, oNone, oSome, sFor, iAny, iRange1, iRange2, gN, gT, gSets, eLc, wipeE, R.post_bind, R.bind_ok, R.bind_bad, R.post_ok, R.post_bad, post_ite, sFor_tup, sFor_rng, eLc_tup, eLc_rng, List.getElem?_cons_zero, List.getElem?_cons_succ, List.getElem?_nil, List.set_cons_zero, List.set_cons_succ, List.map_cons, List.map_nil, List.length_cons, List.length_nil, List.replicate, List.cons_append, List.nil_append, Nat.reduceAdd, Nat.reduceSub, reduceIte]
            exact ⟨_, rfl, trivial, _, _, rfl⟩
      · have od : w % 2 = 1 := by omega
        simp only [od, dEq_int, dNe_int, dEq_str, dNe_str, dGt_int, dGe_int, dLt_int, dLe_int, dAdd_int, dSub_int, dNeg_int, dAbs_int, dInt_int, dInt_bl, dEq_eV, dNe_eV, atI0, atI1, atI2, s1, s2, s3, s4, s5, s6, decide_true, decide_false, Bool.false_eq_true, Bool.not_true, Bool.not_false, sizeLine, Nat.reducePow, Nat.reduceLeDiff, mkF, startE, sSeq, sSet, sIf, sRet, sRetN, sNext, sDrop, sBreak, sCont, sUnp, sPar, sPar3, sPut, eVar, eC, eBin, eUn, eTup, eLst, aNil, aCons, eCB, eCall, eBMT, eIf, eAnd, eOr, eNot, tOf, tTruth, DL.tNot, DL.tAnd, DL.tOr, tYesD, eSl, oNone, oSome, sFor, iAny, iRange1, iRange2, gN, gT, gSets, eLc, wipeE, R.post_bind, R.bind_ok, R.bind_bad, R.post_ok, R.post_bad, post_ite, sFor_tup, sFor_rng, eLc_tup, eLc_rng, List.getElem?_cons_zero, List.getElem?_cons_succ, List.getElem?_nil, List.set_cons_zero, List.set_cons_succ, List.map_cons, List.map_nil, List.length_cons, List.length_nil, List.replicate, List.cons_append, List.nil_append, Nat.reduceAdd, Nat.reduceSub, reduceIte, dMod_int _ h2, value_of_ok, Int.reduceEq, fin (.tup [.str "is", .int ((w - 1) / 2)]) _ (.inl od) (by unfold dueOf; rw [if_neg ev]; rfl), dTruth]
        exact ⟨_, rfl, trivial, _, _, rfl⟩
    · rintro env ⟨x5, x6, rfl⟩
      simp only [sizeLine, Nat.reducePow, Nat.reduceLeDiff, mkF, startE, sSeq, sSet, sIf, sRet, sRetN, sNext, sDrop, sBreak, sCont, sUnp, sPar, sPar3, sPut, eVar, eC, eBin, eUn, eTup, eLst, aNil, aCons, eCB, eCall, eBMT, eIf, eAnd, eOr, eNot, tOf, tTruth, DL.tNot, DL.tAnd, DL.tOr, tYesD, eSl, oNone, oSome, sFor, iAny, iRange1, iRange2, gN, gT, gSets, eLc, wipeE, R.post_bind, R.bind_ok, R.bind_bad, R.post_ok, R.post_bad, post_ite, sFor_tup, sFor_rng, eLc_tup, eLc_rng, List.getElem?_cons_zero, List.getElem?_cons_succ, List.getElem?_nil, List.set_cons_zero, List.set_cons_succ, List.map_cons, List.map_nil, List.length_cons, List.length_nil, List.replicate, List.cons_append, List.nil_append, Nat.reduceAdd, Nat.reduceSub, reduceIte]
end Pk70

open PySem PySem.W PyProof.Rows
set_option maxHeartbeats 0 in
theorem PySem.Challenge.cw_apartcells_k70_words_of_values_holds : PySem.Challenge.rw_apartcells_k70_words_of_values.Holds := by
  w_on; o_law; k_head; (case hw => w_witness2)
  k_fill
  refine DL.walk_g (l := PySem.Challenge.rw_apartcells_k70_words_of_values) (n := 63) (k := 2) (x := "script") (F := Pk70.f_law) rfl (by decide) rfl ⟨rfl, by decide, by decide⟩ (fun w h Y => PySem.W.kIn_of Y) ?F Pk70.law_true
  case F =>
    intro w mg fa h KX G hmg
    refine' Pk70.all_mk KX G hmg ?a_word_of ?l_word_of ?c_word_of ?k_word_of ?a_value_of ?l_value_of ?c_value_of ?k_value_of ?a__law_draws ?l__law_draws ?c__law_draws ?k__law_draws ?a__law_take ?l__law_take ?c__law_take ?k__law_take ?a__law_word_of ?l__law_word_of ?c__law_word_of ?k__law_word_of ?a__law_same ?l__law_same ?c__law_same ?k__law_same ?a_law ?l_law ?c_law ?k_law ?z_abs ?z_int ?z_len ?z_list ?z_range ?z_repr ?a_NIL ?r_NIL
    (case a_word_of => k_is)
    (case l_word_of => k_is)
    (case c_word_of => k_is)
    (case k_word_of => k_is)
    (case a_value_of => k_is)
    (case l_value_of => k_is)
    (case c_value_of => k_is)
    (case k_value_of => k_is)
    (case a__law_draws => k_is)
    (case l__law_draws => k_is)
    (case c__law_draws => k_is)
    (case k__law_draws => k_is)
    (case a__law_take => k_is)
    (case l__law_take => k_is)
    (case c__law_take => k_is)
    (case k__law_take => k_is)
    (case a__law_word_of => k_is)
    (case l__law_word_of => k_is)
    (case c__law_word_of => k_is)
    (case k__law_word_of => k_is)
    (case a__law_same => k_is)
    (case l__law_same => k_is)
    (case c__law_same => k_is)
    (case k__law_same => k_is)
    (case a_law => k_is)
    (case l_law => k_is)
    (case c_law => k_is)
    (case k_law => k_is)
    (case z_abs => k_is)
    (case z_int => k_is)
    (case z_len => k_is)
    (case z_list => k_is)
    (case z_range => k_is)
    (case z_repr => k_is)
    (case a_NIL => k_is)
    (case r_NIL => exact DL.rep_k (by first | kernel_rfl | rfl))
