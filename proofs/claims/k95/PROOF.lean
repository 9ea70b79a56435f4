import PyProof.Rows.All
import Wide.All
import OpenK.AllK
import Wide.FinOn
import HandS.ForMost
import HandS.Exc
import HandS.ExcOwn
import HandS.WordsExc
import HandS.Defaults
import HandS.HeadHook4
import HandS.More
import HandS.IsInst
import HandS.Head2
import HandS.HeadEnd
import KE.KStateDown
import PySem.Challenge.RW_neverlate_k95_words_of_a_session
set_option Elab.async false
set_option linter.all false
set_option maxRecDepth 100000
set_option maxHeartbeats 0
namespace En
open PySem PySem.Spec PyProof.Rows L2

/-- the written part, the world -/
structure KW where
  K : PySem.W.Frag
  w : World
/-! ### data -/
inductive D where
  | non | bl (b : Bool) | int (i : Int) | str (s : Str)
  | tup (l : List D) | lst (l : List D) | ro (l : List D)
  | ins (c : Str) (ns : List Str) (l : List D)
  | dk (ks : List Key) (l : List D)
  | kd (x : Str) (ks : List Str) (l : List Int)
/-- what a name holds: data, or a thing that may change -/
inductive W where
  | d (x : D) | m (i : Nat)
inductive Ob where
  | lst (l : List D) | mat (l : List Nat) | ins (c : Str) (ns : List Str) (l : List W) | dk (ks : List Key) (l : List D)
abbrev Sto := List (Option Ob)
inductive R (α : Type) where
  | ok (a : α) (S : Sto) | ex (c : Str) (ns : List Str) (l : List D) (S : Sto) | st
def R.bind {α γ : Type} : R α → (α → Sto → R γ) → R γ
  | .ok a S, f => f a S
  | .ex c ns l S, _ => .ex c ns l S
  | .st, _ => .st
abbrev Env' := List (Option W)

/-- a written dict of the module's name x: texts to ints -/
def KTab (K : KW) (x : Str) (ks : List Str) (l : List Int) : Prop := (∃ es n, KDict K.K K.w (He.ga K.K x) es n) ∧ ∀ z, ∃ r, PySem.W.nsIn K.K (He.ga K.K x) z = some r ∧ match (ks.zip l).lookup z with
  | some i => ∃ t, r = some (.int i t)
  | none => r = none
section
variable (K : KW)
mutual
def Rep (G : Hp) : D → V → Prop
  | .non, v => v = .non
  | .bl b, v => v = .bl b
  | .int i, v => v = .int i
  | .str s, v => v = .str s
  | .tup l, v => ∃ a vs, v = .ref a ∧ SqT K.K G a vs ∧ vs.length ≤ sizeLine ∧ RepL G l vs
  | .lst l, v => ∃ a vs, v = .ref a ∧ G a = some (.lst vs) ∧ vs.length ≤ sizeLine ∧ RepL G l vs
  | .ro l, v => ∃ a vs, v = .ref a ∧ SqL K.K G a vs ∧ vs.length ≤ sizeLine ∧ RepL G l vs
  | .ins c ns l, v => ∃ a dx vs, v = .ref a ∧ G a = some (.ins (He.ga K.K c) dx (ns.zip vs)) ∧ ns.length = vs.length ∧ RepL G l vs
  | .dk ks l, v => ∃ a vs, v = .ref a ∧ G a = some (.dK (ks.zip vs)) ∧ ks.length = vs.length ∧ RepL G l vs
  | .kd x ks l, v => v = .ref (He.ga K.K x) ∧ KTab K x ks l
def RepL (G : Hp) : List D → List V → Prop
  | [], vs => vs = []
  | d :: ds, vs => ∃ v r, vs = v :: r ∧ Rep G d v ∧ RepL G ds r
end
end

def Sub (G G' : Hp) : Prop := ∀ a o, G a = some o → G' a = some o
theorem Sub.refl (G : Hp) : Sub G G := fun _ _ h => h
theorem Sub.trans {G G1 G2 : Hp} (h : Sub G G1) (h' : Sub G1 G2) : Sub G G2 := fun a o e => h' a o (h a o e)
theorem Sub.new {G : Hp} {p : Addr} {o : HO} (h : G p = none) : Sub G (upd G p o) := fun a u e => by
  rw [upd_ne (ne_of_none e h)]
  exact e
theorem sub_rd {G G' : Hp} {a : Addr} {u : HO} (s : Sub G G') (h : Rd G a u) : Rd G' a u := by
  rcases h with h | ⟨o, h⟩
  · exact Or.inl (s a _ h)
  · exact Or.inr ⟨o, s a _ h⟩
theorem sub_l {K : PySem.W.Frag} {G G' : Hp} {a : Addr} {xs : List V} (s : Sub G G') (h : SqL K G a xs) : SqL K G' a xs := by
  rcases h with h | h
  · exact Or.inl (sub_rd s h)
  · exact Or.inr h
theorem sub_t {K : PySem.W.Frag} {G G' : Hp} {a : Addr} {xs : List V} (s : Sub G G') (h : SqT K G a xs) : SqT K G' a xs := by
  rcases h with h | h
  · exact Or.inl (sub_rd s h)
  · exact Or.inr h

mutual
theorem Rep.mono {K : KW} {G G' : Hp} (s : Sub G G') : ∀ (d : D) (v : V), Rep K G d v → Rep K G' d v
  | .non, v, h => by simpa only [Rep] using h
  | .bl b, v, h => by simpa only [Rep] using h
  | .int i, v, h => by simpa only [Rep] using h
  | .str z, v, h => by simpa only [Rep] using h
  | .tup l, v, h => by
    simp only [Rep] at h ⊢
    obtain ⟨a, vs, e, h1, h2, h3⟩ := h
    exact ⟨a, vs, e, sub_t s h1, h2, RepL.mono s l vs h3⟩
  | .lst l, v, h => by
    simp only [Rep] at h ⊢
    obtain ⟨a, vs, e, h1, h2, h3⟩ := h
    exact ⟨a, vs, e, s _ _ h1, h2, RepL.mono s l vs h3⟩
  | .ro l, v, h => by
    simp only [Rep] at h ⊢
    obtain ⟨a, vs, e, h1, h2, h3⟩ := h
    exact ⟨a, vs, e, sub_l s h1, h2, RepL.mono s l vs h3⟩
  | .ins c ns l, v, h => by
    simp only [Rep] at h ⊢
    obtain ⟨a, dx, vs, e, h1, h2, h3⟩ := h
    exact ⟨a, dx, vs, e, s _ _ h1, h2, RepL.mono s l vs h3⟩
  | .dk ks l, v, h => by
    simp only [Rep] at h ⊢
    obtain ⟨a, vs, e, h1, h2, h3⟩ := h
    exact ⟨a, vs, e, s _ _ h1, h2, RepL.mono s l vs h3⟩
  | .kd x ks l, v, h => by simpa only [Rep] using h
theorem RepL.mono {K : KW} {G G' : Hp} (s : Sub G G') : ∀ (l : List D) (vs : List V), RepL K G l vs → RepL K G' l vs
  | [], vs, h => by simpa only [RepL] using h
  | d :: ds, vs, h => by
    simp only [RepL] at h ⊢
    obtain ⟨v, r, e, h1, h2⟩ := h
    exact ⟨v, r, e, Rep.mono s d v h1, RepL.mono s ds r h2⟩
end

theorem RepL.length {K : KW} {G : Hp} : ∀ {l : List D} {vs : List V}, RepL K G l vs → l.length = vs.length
  | [], vs, h => by
    simp only [RepL] at h
    rw [h]
    rfl
  | d :: ds, vs, h => by
    simp only [RepL] at h
    obtain ⟨v, r, e, _, h2⟩ := h
    rw [e]
    simp [RepL.length h2]
theorem RepL.append {K : KW} {G : Hp} : ∀ {l l' : List D} {vs vs' : List V}, RepL K G l vs → RepL K G l' vs' → RepL K G (l ++ l') (vs ++ vs')
  | [], l', vs, vs', h, h' => by
    simp only [RepL] at h
    rw [h]
    exact h'
  | d :: ds, l', vs, vs', h, h' => by
    simp only [RepL] at h
    obtain ⟨v, r, e, h1, h2⟩ := h
    rw [e]
    exact ⟨v, r ++ vs', rfl, h1, RepL.append h2 h'⟩
theorem RepL.get {K : KW} {G : Hp} : ∀ {l : List D} {vs : List V} {i : Nat} {d : D}, RepL K G l vs → l[i]? = some d → ∃ v, vs[i]? = some v ∧ Rep K G d v
  | [], vs, i, d, h, e => by simp at e
  | x :: ds, vs, 0, d, h, e => by
    simp only [RepL] at h
    obtain ⟨v, r, ev, h1, h2⟩ := h
    simp at e
    subst e
    exact ⟨v, by rw [ev]; rfl, h1⟩
  | x :: ds, vs, i + 1, d, h, e => by
    simp only [RepL] at h
    obtain ⟨v, r, ev, h1, h2⟩ := h
    obtain ⟨u, e1, e2⟩ := RepL.get (i := i) h2 (by simpa using e)
    exact ⟨u, by rw [ev]; simpa using e1, e2⟩
theorem RepL.drop {K : KW} {G : Hp} : ∀ {l : List D} {vs : List V} (n : Nat), RepL K G l vs → RepL K G (l.drop n) (vs.drop n)
  | l, vs, 0, h => h
  | [], vs, n + 1, h => by
    simp only [RepL] at h
    rw [h]
    simp [RepL]
  | d :: ds, vs, n + 1, h => by
    simp only [RepL] at h
    obtain ⟨v, r, e, h1, h2⟩ := h
    rw [e]
    exact RepL.drop n h2
theorem RepL.take {K : KW} {G : Hp} : ∀ {l : List D} {vs : List V} (n : Nat), RepL K G l vs → RepL K G (l.take n) (vs.take n)
  | l, vs, 0, h => by simp [RepL]
  | [], vs, n + 1, h => by
    simp only [RepL] at h
    rw [h]
    simp [RepL]
  | d :: ds, vs, n + 1, h => by
    simp only [RepL] at h
    obtain ⟨v, r, e, h1, h2⟩ := h
    rw [e]
    exact ⟨v, r.take n, rfl, h1, RepL.take n h2⟩
theorem RepL.set {K : KW} {G : Hp} {d : D} {v : V} (hd : Rep K G d v) : ∀ {l : List D} {vs : List V} (n : Nat), RepL K G l vs → RepL K G (l.set n d) (vs.set n v)
  | [], vs, n, h => by
    simp only [RepL] at h
    rw [h]
    simp [RepL]
  | x :: ds, vs, 0, h => by
    simp only [RepL] at h
    obtain ⟨u, r, e, h1, h2⟩ := h
    rw [e]
    exact ⟨v, r, rfl, hd, h2⟩
  | x :: ds, vs, n + 1, h => by
    simp only [RepL] at h
    obtain ⟨u, r, e, h1, h2⟩ := h
    rw [e]
    exact ⟨u, r.set n v, rfl, h1, RepL.set hd n h2⟩

/-! ### the state -/
def RepW (K : KW) (G : Hp) (B : List Addr) : W → V → Prop
  | .d x, v => Rep K G x v
  | .m i, v => ∃ a, B[i]? = some a ∧ v = .ref a
def RepWs (K : KW) (G : Hp) (B : List Addr) : List W → List V → Prop
  | [], vs => vs = []
  | w :: ws, vs => ∃ v r, vs = v :: r ∧ RepW K G B w v ∧ RepWs K G B ws r
/-- more is known -/
structure Ext (G : Hp) (B : List Addr) (G' : Hp) (B' : List Addr) : Prop where
  sub : Sub G G'
  pre : ∃ t, B' = B ++ t
theorem Ext.refl (G : Hp) (B : List Addr) : Ext G B G B := ⟨Sub.refl G, [], by simp⟩
theorem Ext.trans {G G1 G2 : Hp} {B B1 B2 : List Addr} (h : Ext G B G1 B1) (h' : Ext G1 B1 G2 B2) : Ext G B G2 B2 := by
  obtain ⟨s, t, e⟩ := h
  obtain ⟨s', t', e'⟩ := h'
  exact ⟨s.trans s', t ++ t', by rw [e', e, List.append_assoc]⟩
theorem pre_get {B t : List Addr} {i : Nat} {a : Addr} (h : B[i]? = some a) : (B ++ t)[i]? = some a := by
  rw [List.getElem?_append_left (List.getElem?_eq_some_iff.mp h).1]
  exact h
theorem RepW.mono {K : KW} {G G' : Hp} {B B' : List Addr} (e : Ext G B G' B') : ∀ {w : W} {v : V}, RepW K G B w v → RepW K G' B' w v
  | .d x, v, h => Rep.mono e.sub x v h
  | .m i, v, h => by
    obtain ⟨a, h1, h2⟩ := h
    obtain ⟨t, e2⟩ := e.pre
    exact ⟨a, by rw [e2]; exact pre_get h1, h2⟩
theorem RepWs.mono {K : KW} {G G' : Hp} {B B' : List Addr} (e : Ext G B G' B') : ∀ {ws : List W} {vs : List V}, RepWs K G B ws vs → RepWs K G' B' ws vs
  | [], vs, h => h
  | w :: ws, vs, h => by
    obtain ⟨v, r, e1, h1, h2⟩ := h
    exact ⟨v, r, e1, h1.mono e, RepWs.mono e h2⟩
theorem RepWs.length {K : KW} {G : Hp} {B : List Addr} : ∀ {ws : List W} {vs : List V}, RepWs K G B ws vs → ws.length = vs.length
  | [], vs, h => by
    have h : vs = [] := h
    rw [h]
    rfl
  | w :: ws, vs, h => by
    obtain ⟨v, r, e1, h1, h2⟩ := h
    rw [e1]
    simp [RepWs.length h2]

/-- addresses of the things that may change -/
def Ats (B : List Addr) : List Nat → List V → Prop
  | [], vs => vs = []
  | i :: r, vs => ∃ a t, vs = .ref a :: t ∧ B[i]? = some a ∧ Ats B r t
def ObR (K : KW) (G : Hp) (B : List Addr) (H : Hp) (a : Addr) : Ob → Prop
  | .lst l => ∃ vs, H a = some (.lst vs) ∧ vs.length ≤ sizeLine ∧ RepL K G l vs
  | .mat l => ∃ vs, H a = some (.lst vs) ∧ vs.length ≤ sizeLine ∧ Ats B l vs
  | .ins c ns l => ∃ dx vs, H a = some (.ins (He.ga K.K c) dx (ns.zip vs)) ∧ ns.length = vs.length ∧ RepWs K G B l vs
  | .dk ks l => ∃ vs, H a = some (.dK (ks.zip vs)) ∧ ks.length = vs.length ∧ RepL K G l vs
/-- what stood at the entry: the heap, what is still, the things that may change -/
structure Ent where
  H : Hp
  G : Hp
  L : Addr → Prop
  B : List Addr
structure SimH (K : KW) (E : Ent) (G : Hp) (B : List Addr) (S : Sto) (H : Hp) : Prop where
  gh : Sub G H
  len : B.length = S.length
  ob : ∀ (i : Nat) (o : Ob), S[i]? = some (some o) → ∃ a, B[i]? = some a ∧ G a = none ∧ ObR K G B H a o ∧ (E.L a ∨ E.H a = none)
  inj : ∀ (i j : Nat) (o u : Ob) (a : Addr), S[i]? = some (some o) → S[j]? = some (some u) → B[i]? = some a → B[j]? = some a → i = j
  fr : ∀ a o, E.H a = some o → ¬ E.L a → H a = some o
  fg : ∀ a, E.H a ≠ none → ¬ E.L a → G a = E.G a
  mono : Sub E.G G
  dom : ∀ a, E.H a ≠ none → H a ≠ none
  pre : ∃ t, B = E.B ++ t
def Slots (K : KW) (G : Hp) (B : List Addr) : Env' → List (Option V) → Prop
  | [], σ => σ = []
  | none :: e, σ => ∃ x r, σ = x :: r ∧ Slots K G B e r
  | some w :: e, σ => ∃ v r, σ = some v :: r ∧ RepW K G B w v ∧ Slots K G B e r
structure Sim (K : KW) (E : Ent) (G : Hp) (B : List Addr) (e : Env') (S : Sto) (σ : List (Option V)) (H : Hp) : Prop where
  h : SimH K E G B S H
  s : Slots K G B e σ
theorem Slots.mono {K : KW} {G G' : Hp} {B B' : List Addr} (x : Ext G B G' B') : ∀ {e : Env'} {σ : List (Option V)}, Slots K G B e σ → Slots K G' B' e σ
  | [], σ, h => h
  | none :: e, σ, h => by
    obtain ⟨u, r, e1, h2⟩ := h
    exact ⟨u, r, e1, Slots.mono x h2⟩
  | some w :: e, σ, h => by
    obtain ⟨v, r, e1, h1, h2⟩ := h
    exact ⟨v, r, e1, h1.mono x, Slots.mono x h2⟩
theorem Slots.get {K : KW} {G : Hp} {B : List Addr} : ∀ {e : Env'} {σ : List (Option V)} {i : Nat} {w : W}, Slots K G B e σ → e[i]? = some (some w) → ∃ v, σ[i]? = some (some v) ∧ RepW K G B w v
  | [], σ, i, w, h, q => by simp at q
  | none :: e, σ, 0, w, h, q => by simp at q
  | none :: e, σ, i + 1, w, h, q => by
    obtain ⟨u, r, e1, h2⟩ := h
    obtain ⟨v, a, b⟩ := Slots.get (i := i) h2 (by simpa using q)
    exact ⟨v, by rw [e1]; simpa using a, b⟩
  | some y :: e, σ, 0, w, h, q => by
    obtain ⟨v, r, e1, h1, h2⟩ := h
    simp at q
    subst q
    exact ⟨v, by rw [e1]; rfl, h1⟩
  | some y :: e, σ, i + 1, w, h, q => by
    obtain ⟨u, r, e1, h1, h2⟩ := h
    obtain ⟨v, a, b⟩ := Slots.get (i := i) h2 (by simpa using q)
    exact ⟨v, by rw [e1]; simpa using a, b⟩
theorem Slots.set {K : KW} {G : Hp} {B : List Addr} {w : W} {v : V} (hw : RepW K G B w v) : ∀ {e : Env'} {σ : List (Option V)} {i : Nat}, Slots K G B e σ → Slots K G B (e.set i (some w)) (σ.set i (some v))
  | [], σ, i, h => by
    have h : σ = [] := h
    rw [h]
    simp [Slots]
  | none :: e, σ, 0, h => by
    obtain ⟨u, r, e1, h2⟩ := h
    rw [e1]
    exact ⟨v, r, rfl, hw, h2⟩
  | none :: e, σ, i + 1, h => by
    obtain ⟨u, r, e1, h2⟩ := h
    rw [e1]
    exact ⟨u, r.set i (some v), rfl, Slots.set hw h2⟩
  | some y :: e, σ, 0, h => by
    obtain ⟨u, r, e1, h1, h2⟩ := h
    rw [e1]
    exact ⟨v, r, rfl, hw, h2⟩
  | some y :: e, σ, i + 1, h => by
    obtain ⟨u, r, e1, h1, h2⟩ := h
    rw [e1]
    exact ⟨u, r.set i (some v), rfl, h1, Slots.set hw h2⟩
theorem Slots.none {K : KW} {G : Hp} {B : List Addr} {x : Option V} : ∀ {e : Env'} {σ : List (Option V)} {i : Nat}, Slots K G B e σ → Slots K G B (e.set i Option.none) (σ.set i x)
  | [], σ, i, h => by
    have h : σ = [] := h
    rw [h]
    simp [Slots]
  | Option.none :: e, σ, 0, h => by
    obtain ⟨u, r, e1, h2⟩ := h
    rw [e1]
    exact ⟨x, r, rfl, h2⟩
  | Option.none :: e, σ, i + 1, h => by
    obtain ⟨u, r, e1, h2⟩ := h
    rw [e1]
    exact ⟨u, r.set i x, rfl, Slots.none h2⟩
  | some y :: e, σ, 0, h => by
    obtain ⟨u, r, e1, h1, h2⟩ := h
    rw [e1]
    exact ⟨x, r, rfl, h2⟩
  | some y :: e, σ, i + 1, h => by
    obtain ⟨u, r, e1, h1, h2⟩ := h
    rw [e1]
    exact ⟨u, r.set i x, rfl, h1, Slots.none h2⟩
/-- forgotten in what is known alone -/
theorem Slots.drop {K : KW} {G : Hp} {B : List Addr} : ∀ {e : Env'} {σ : List (Option V)} {i : Nat}, Slots K G B e σ → Slots K G B (e.set i Option.none) σ
  | [], σ, i, h => by simpa using h
  | Option.none :: e, σ, 0, h => h
  | Option.none :: e, σ, i + 1, h => by
    obtain ⟨u, r, e1, h2⟩ := h
    exact ⟨u, r, e1, Slots.drop h2⟩
  | some y :: e, σ, 0, h => by
    obtain ⟨u, r, e1, h1, h2⟩ := h
    exact ⟨some u, r, e1, h2⟩
  | some y :: e, σ, i + 1, h => by
    obtain ⟨u, r, e1, h1, h2⟩ := h
    exact ⟨u, r, e1, h1, Slots.drop h2⟩
theorem Slots.length {K : KW} {G : Hp} {B : List Addr} : ∀ {e : Env'} {σ : List (Option V)}, Slots K G B e σ → e.length = σ.length
  | [], σ, h => by
    have h : σ = [] := h
    rw [h]
    rfl
  | Option.none :: e, σ, h => by
    obtain ⟨u, r, e1, h2⟩ := h
    rw [e1]
    simp [Slots.length h2]
  | some y :: e, σ, h => by
    obtain ⟨u, r, e1, h1, h2⟩ := h
    rw [e1]
    simp [Slots.length h2]
end En

namespace En
open PySem PySem.Spec PyProof.Rows L2

abbrev Fn := List W → Sto → R W
structure Tb where
  fn : List Fn
  cn : List D

inductive Bop where | add | sub | mul | mod | fdiv | pow
inductive Cop where | eq | ne | lt | le | gt | ge | isN | notN | inn | notIn
/-- built-in functions by name -/
inductive Bf where | len | abs | max | min | sum | all | any | str | int | isInst | list | tuple | sorted | divmod
  deriving DecidableEq
/-- methods of built-in types -/
inductive Mf where | append | join | split | index | pop
  deriving DecidableEq
abbrev Pl := Nat × List Str

mutual
inductive E where
  | var (i : Nat) | int (i : Int) | str (s : Str) | bl (b : Bool) | non | glo (n : Nat)
  | op (z : Bool) (o : Bop) (a b : E) | neg (a : E)
  | cmp (o : Cop) (a b : E) | chn (o o' : Cop) (a b c : E)
  | and (l : EL) | or (l : EL) | not (a : E) | ite (t : T) (a b : E)
  | tup (l : A) | lst (z : Bool) (l : A)
  | ix (a b : E) | sl (z : Bool) (a : E) (lo hi : O)
  | call (n : Nat) (l : A) (ps : List Pl)
  | bi (z : Bool) (f : Bf) (l : A)
  | isi (a : E) (ty : String)
  | me (z : Bool) (m : Mf) (o : E) (l : A)
  | lc (z : Bool) (own : List (Str × Nat)) (g : G) (s : Sc) (t : T) (e : E)
  | frz (i : Nat)
inductive EL where
  | one (e : E) | cons (e : E) (l : EL)
inductive A where
  | nil | cons (e : E) (l : A)
inductive O where
  | no | so (e : E)
inductive T where
  | yes | val (e : E) | tru (e : E) | cmp (o : Cop) (a b : E) | chn (o o' : Cop) (a b c : E) | and (l : TL) | or (l : TL) | not (t : T)
inductive TL where
  | one (t : T) | cons (t : T) (l : TL)
/-- what is walked -/
inductive Sc where
  | seq (e : E) | rng1 (a : E) | rng2 (a b : E) | enm (e : E) | chars (e : E)
/-- a target -/
inductive G where
  | nm (i : Nat) | tup (l : GL) | two (a b : Nat)
inductive GL where
  | nil | cons (g : G) (l : GL)
end
mutual
inductive S where
  | set (i : Nat) (e : E) | asg (g : G) (e : E) | aug (i : Nat) (o : Bop) (e : E)
  | setIx (o i e : E)
  | ex (e : E) | ret (e : E) | retN | iff (t : T) (a b : B)
  | fo (g : G) (s : Sc) (b : B) (ks : List Nat) | wh (t : T) (b : B) (ks : List Nat)
  | brk | cont | pass | nop (ks : List Nat)
inductive B where
  | nil | cons (s : S) (b : B)
end

/-! ### operations on values -/
def ok1 (d : D) (S : Sto) : R W := .ok (.d d) S
def mkL (z : Bool) (l : List D) (S : Sto) : R W := if z then .ok (.d (.lst l)) S else .ok (.m S.length) (S ++ [some (.lst l)])
/-- the items of a list -/
def lv (S : Sto) : W → Option (List D)
  | .d (.lst l) => some l
  | .m i => (match S[i]? with
    | some (some (.lst l)) => some l
    | _ => none)
  | _ => none
/-- the items of a list or tuple that is read -/
def sv (S : Sto) : W → Option (List D)
  | .d (.lst l) => some l
  | .d (.tup l) => some l
  | .d (.ro l) => some l
  | .m i => (match S[i]? with
    | some (some (.lst l)) => some l
    | _ => none)
  | _ => none
/-- the items of a list that is read -/
def qv (S : Sto) : W → Option (List D)
  | .d (.lst l) => some l
  | .d (.ro l) => some l
  | .m i => (match S[i]? with
    | some (some (.lst l)) => some l
    | _ => none)
  | _ => none
def mulOk (i j : Int) : Bool := decide (i.natAbs < 2 ^ 64 ∨ j.natAbs < 2 ^ 64)
def bin (z : Bool) : Bop → W → W → Sto → R W
  | .add, .d (.int i), .d (.int j), S => ok1 (.int (i + j)) S
  | .add, .d (.str s), .d (.str t), S => if s.length + t.length ≤ sizeLine then ok1 (.str (s ++ t)) S else .st
  | .add, .d (.tup l), .d (.tup m), S => if l.isEmpty || m.isEmpty then .st else if l.length + m.length ≤ sizeLine then ok1 (.tup (l ++ m)) S else .st
  | .add, a, b, S => (match lv S a, lv S b with
    | some l, some m => if l.length + m.length ≤ sizeLine then mkL z (l ++ m) S else .st
    | _, _ => .st)
  | .sub, .d (.int i), .d (.int j), S => ok1 (.int (i - j)) S
  | .mul, .d (.int i), .d (.int j), S => if mulOk i j then ok1 (.int (i * j)) S else .st
  | .mul, .d (.str s), .d (.int n), S => if s.length = 1 ∧ n ≤ 1000 ∧ -1000 ≤ n then ok1 (.str ⟨(List.replicate n.toNat s.cps.toList).flatten.toArray⟩) S else .st
  | .mod, .d (.int i), .d (.int j), S => if 0 < j then ok1 (.int (i % j)) S else .st
  | .fdiv, .d (.int i), .d (.int j), S => if 0 < j ∧ j < 1073741824 then ok1 (.int (i / j)) S else .st
  | .pow, .d (.int i), .d (.int j), S => if 0 ≤ j ∧ j ≤ 1000000 ∧ i.natAbs < 2 ^ 64 then ok1 (.int (i ^ j.toNat)) S else .st
  | _, _, _, _ => .st
/-- two values of one scalar kind, or one of them None -/
def sceq : D → D → Option Bool
  | .int i, .int j => some (decide (i = j))
  | .str s, .str t => some (decide (s = t))
  | .bl a, .bl b => some (decide (a = b))
  | .non, .non => some true
  | .non, .int _ => some false
  | .int _, .non => some false
  | .non, .str _ => some false
  | .str _, .non => some false
  | .non, .bl _ => some false
  | .bl _, .non => some false
  | _, _ => none
mutual
/-- data that == reads -/
def toPy : D → Option PyData
  | .non => some .none
  | .bl b => some (.bool b)
  | .int i => some (.int i)
  | .str s => some (.str s)
  | .lst l => (toPys l).map .list
  | .tup l => (toPys l).map .tuple
  | _ => none
def toPys : List D → Option (List PyData)
  | [] => some []
  | a :: l => (match toPy a, toPys l with
    | some x, some xs => some (x :: xs)
    | _, _ => none)
end
/-- == of data -/
def deq (a b : D) : Option Bool := match sceq a b with
  | some r => some r
  | none => (match toPy a, toPy b with
    | some p, some q => if SeqAt.shaped p && SeqAt.shaped q then some (PyData.eqv p q) else none
    | _, _ => none)
/-- the data that a value is -/
def pk (S : Sto) : W → Option D
  | .d x => some x
  | .m i => (match S[i]? with
    | some (some (.lst l)) => some (.lst l)
    | _ => none)
def flatD : D → Bool
  | .non => true | .bl _ => true | .int _ => true | .str _ => true | _ => false
def feq : D → D → Bool
  | .int i, .int j => decide (i = j)
  | .str s, .str t => decide (s = t)
  | .bl a, .bl b => decide (a = b)
  | .bl a, .int j => decide ((if a then 1 else 0) = j)
  | .int i, .bl b => decide (i = (if b then 1 else 0))
  | .non, .non => true
  | _, _ => false
def inOf (x : D) (l : List D) : Bool := l.any fun y => feq y x
def cmpI (o : Cop) (i j : Int) : Option Bool := match o with
  | .lt => some (decide (i < j))
  | .le => some (decide (i ≤ j))
  | .gt => some (decide (j < i))
  | .ge => some (decide (j ≤ i))
  | _ => none
def cmpW (o : Cop) (a b : W) (S : Sto) : Option Bool := match o with
  | .eq => (match pk S a, pk S b with
    | some x, some y => deq x y
    | _, _ => none)
  | .ne => (match pk S a, pk S b with
    | some x, some y => (deq x y).map not
    | _, _ => none)
  | .isN => (match a, b with
    | .d .non, .d .non => some true
    | _, .d .non => some false
    | _, _ => none)
  | .notN => (match a, b with
    | .d .non, .d .non => some false
    | _, .d .non => some true
    | _, _ => none)
  | .inn => (match a, b with
    | .d (.str c), .d (.str s) => if c.length = 1 then some (decide (c.cps[0]! ∈ s.cps.toList)) else none
    | .d (.str k), .d (.kd _ ks l) => some (((ks.zip l).lookup k).isSome)
    | .d x, w => (match sv S w with
      | some l => if flatD x && l.all flatD then some (inOf x l) else none
      | none => none)
    | _, _ => none)
  | .notIn => (match a, b with
    | .d (.str c), .d (.str s) => if c.length = 1 then some (!decide (c.cps[0]! ∈ s.cps.toList)) else none
    | .d (.str k), .d (.kd _ ks l) => some (!((ks.zip l).lookup k).isSome)
    | .d x, w => (match sv S w with
      | some l => if flatD x && l.all flatD then some (!inOf x l) else none
      | none => none)
    | _, _ => none)
  | o => (match a, b with
    | .d (.int i), .d (.int j) => cmpI o i j
    | _, _ => none)
/-- truth -/
def tru (S : Sto) : W → Option Bool
  | .d .non => some false
  | .d (.bl b) => some b
  | .d (.int i) => some (i != 0)
  | .d (.str s) => if s.length ≤ sizeLine then some (s.length != 0) else none
  | w => (sv S w).map fun l => !l.isEmpty
def optR (o : Option D) (S : Sto) : R W := match o with
  | some d => ok1 d S
  | none => .st
def ixW (a b : W) (S : Sto) : R W := match a, b with
  | .d (.str s), .d (.int i) => if s.length ≤ sizeLine then (match atI s.cps.toList i with
    | some c => ok1 (.str ⟨#[c]⟩) S
    | none => .st) else .st
  | .d (.kd _ ks l), .d (.str k) => optR (((ks.zip l).lookup k).map .int) S
  | w, .d (.int i) => (match sv S w with
    | some l => (match atI l i with
      | some x => ok1 x S
      | none => .st)
    | none => .st)
  | _, _ => .st
def cutD (xs : List D) (lo hi : Option Int) : List D := (xs.drop (HT.sIx xs.length 0 lo)).take (HT.sIx xs.length xs.length hi - HT.sIx xs.length 0 lo)
def slW (z : Bool) (a : W) (lo hi : Option Int) (S : Sto) : R W := match a with
  | .d (.str s) => if s.length ≤ sizeLine then ok1 (.str (cutS s lo hi)) S else .st
  | .d (.ro l) => mkL z (cutD l lo hi) S
  | w => (match lv S w with
    | some l => mkL z (cutD l lo hi) S
    | none => .st)
def allInt : List D → Option (List Int)
  | [] => some []
  | .int i :: l => (allInt l).map (i :: ·)
  | _ :: _ => none
def allBl : List D → Option (List Bool)
  | [] => some []
  | .bl i :: l => (allBl l).map (i :: ·)
  | _ :: _ => none
def allStr : List D → Option (List Str)
  | [] => some []
  | .str i :: l => (allStr l).map (i :: ·)
  | _ :: _ => none
def biW (z : Bool) (f : Bf) (ws : List W) (S : Sto) : R W := match f, ws with
  | .len, [.d (.str s)] => if s.length ≤ sizeLine then ok1 (.int s.length) S else .st
  | .len, [w] => optR ((sv S w).map fun l => .int l.length) S
  | .abs, [.d (.int i)] => ok1 (.int (if i < 0 then -i else i)) S
  | .max, [.d (.int i), .d (.int j)] => ok1 (.int (if j > i then j else i)) S
  | .min, [.d (.int i), .d (.int j)] => ok1 (.int (if j < i then j else i)) S
  | .all, [w] => optR (((qv S w).bind allBl).map fun l => .bl (l.all id)) S
  | .any, [w] => optR (((qv S w).bind allBl).map fun l => .bl (l.any id)) S
  | .sum, [w] => optR (((qv S w).bind allInt).map fun l => .int l.sum) S
  | .str, [.d (.int i)] => if i.natAbs.log2 < 1920 then ok1 (.str (toString i)) S else .st
  | .int, [.d (.int i)] => ok1 (.int i) S
  | .int, [.d (.str s)] => if s.length ≤ 640 then optR ((PySem.intText? s).map .int) S else .st
  | .list, [w] => (match sv S w with
    | some l => mkL z l S
    | none => .st)
  | _, _ => .st
/-- isinstance against a built-in class -/
def isiW (ty : String) (w : W) (S : Sto) : Option Bool := match w with
  | .d (.bl _) => if ty = "bool" then some true else if ty = "list" then some false else if ty = "int" then some true else none
  | .d (.int _) => if ty = "bool" then some false else if ty = "list" then some false else if ty = "int" then some true else none
  | .d (.lst _) => if ty = "list" then some true else if ty = "bool" then some false else none
  | .m i => (match S[i]? with
    | some (some (.lst _)) => if ty = "list" then some true else if ty = "bool" then some false else none
    | _ => none)
  | _ => none
def joinLen (a : Str) (ys : List Str) : Nat := (ys.map (·.length)).sum + ys.length * a.length
def meW (z : Bool) (m : Mf) (o : W) (ws : List W) (S : Sto) : R W := match m, o, ws with
  | .append, .m i, [.d x] => (match S[i]? with
    | some (some (.lst l)) => if l.length < sizeLine then .ok (.d .non) (S.set i (some (.lst (l ++ [x])))) else .st
    | _ => .st)
  | .join, .d (.str a), [w] => (match (sv S w).bind allStr with
    | some ys => if joinLen a ys ≤ 16777216 then ok1 (.str (Txt.join a ys)) S else .st
    | none => .st)
  | .split, .d (.str a), [.d (.str b)] => if b.length ≠ 0 ∧ a.length + 2 ≤ sizeLine then mkL z ((Txt.split a b).map .str) S else .st
  | _, _, _ => .st

/-- the receiver is of the method's type -/
def meTy (S : Sto) : Mf → W → Bool
  | .append, w => (lv S w).isSome
  | .pop, w => (lv S w).isSome
  | .index, w => (lv S w).isSome
  | .join, .d (.str _) => true
  | .split, .d (.str _) => true
  | _, _ => false
/-! ### places, calls -/
def plc (e : Env') (S : Sto) (p : Pl) : Option Nat := match e[p.1]?, p.2 with
  | some (some (.m i)), [] => some i
  | _, _ => none
def renW (js : List Nat) : W → Option W
  | .d x => some (.d x)
  | .m i => (js.idxOf? i).map .m
def renWs (js : List Nat) : List W → Option (List W)
  | [] => some []
  | w :: ws => (match renW js w, renWs js ws with
    | some x, some l => some (x :: l)
    | _, _ => none)
def renO : Ob → Option Ob
  | .lst l => some (.lst l)
  | _ => none
/-- the objects at these places -/
def subS (S : Sto) : List Nat → Option Sto
  | [] => some []
  | j :: js => (match S[j]? with
    | some (some o) => (match renO o, subS S js with
      | some u, some l => some (some u :: l)
      | _, _ => none)
    | _ => none)
def plcs (e : Env') (S : Sto) : List Pl → Option (List Nat)
  | [] => some []
  | p :: ps => (match plc e S p, plcs e S ps with
    | some j, some l => some (j :: l)
    | _, _ => none)
/-- written back -/
def wbS (S : Sto) : List Nat → Sto → Sto
  | [], r => S ++ r
  | j :: js, o :: r => wbS (S.set j o) js r
  | _ :: _, [] => S
def wbW (n : Nat) (js : List Nat) : W → W
  | .d x => .d x
  | .m i => (match js[i]? with
    | some j => .m j
    | none => .m (n + (i - js.length)))
/-- only flat objects behind -/
def flatS (S : Sto) : Bool := S.all fun o => match o with
  | some (.mat _) => false
  | some (.ins _ _ _) => false
  | _ => true
def callF (F : Fn) (ws : List W) (e : Env') (ps : List Pl) (S : Sto) : R W := match plcs e S ps with
  | none => .st
  | some js => if js.Nodup then (match renWs js ws, subS S js with
    | some us, some Sc => (match F us Sc with
      | .ok w S' => if flatS S' && decide (js.length ≤ S'.length) then .ok (wbW S.length js w) (wbS S js S') else .st
      | .ex c ns l S' => if flatS S' && decide (js.length ≤ S'.length) then .ex c ns l (wbS S js S') else .st
      | .st => .st)
    | _, _ => .st) else .st

/-! ### what is forgotten -/
def kill (e : Env') : List Nat → Env'
  | [] => e
  | k :: ks => kill (e.set k none) ks
def refW (n : Nat) : W → Bool
  | .d _ => true
  | .m i => decide (i < n)
def refO (n : Nat) : Option Ob → Bool
  | some (.mat l) => l.all fun i => decide (i < n)
  | some (.ins _ _ l) => l.all (refW n)
  | _ => true
def trimOk (n : Nat) (e : Env') (S : Sto) : Bool := (e.all fun w => match w with
  | some w => refW n w
  | none => true) && (S.take n).all (refO n)
def trim (n : Nat) (e : Env') (S : Sto) : Sto := if S.length ≤ n then S else if trimOk n e S then S.take n else S

/-! ### statements' ends -/
inductive SR where
  | nx (e : Env') (S : Sto) | rt (w : W) (S : Sto) | bk (e : Env') (S : Sto) | ct (e : Env') (S : Sto)
  | ex (c : Str) (ns : List Str) (l : List D) (e : Env') (S : Sto) | st
def R.sr {α : Type} (e : Env') : R α → (α → Sto → SR) → SR
  | .ok a S, f => f a S
  | .ex c ns l S, _ => .ex c ns l e S
  | .st, _ => .st
def SR.bind : SR → (Env' → Sto → SR) → SR
  | .nx e S, f => f e S
  | r, _ => r
/-- the turns of a loop -/
def loopF (tg : W → Env' → Sto → Option Env') (body : Env' → Sto → SR) (ks : List Nat) (n : Nat) : List W → Env' → Sto → SR
  | [], e, S => .nx e S
  | w :: ws, e, S => (match tg w e S with
    | none => .st
    | some e1 => (match body e1 S with
      | .nx e2 S2 => loopF tg body ks n ws (kill e2 ks) (trim n (kill e2 ks) S2)
      | .ct e2 S2 => loopF tg body ks n ws (kill e2 ks) (trim n (kill e2 ks) S2)
      | .bk e2 S2 => .nx (kill e2 ks) (trim n (kill e2 ks) S2)
      | r => r))
def loopW (test : Env' → Sto → R Bool) (body : Env' → Sto → SR) (ks : List Nat) (n : Nat) : Nat → Env' → Sto → SR
  | 0, _, _ => .st
  | f + 1, e, S => (test e S).sr e fun b S1 => match b with
    | false => .nx e S1
    | true => (match body e S1 with
      | .nx e2 S2 => loopW test body ks n f (kill e2 ks) (trim n (kill e2 ks) S2)
      | .ct e2 S2 => loopW test body ks n f (kill e2 ks) (trim n (kill e2 ks) S2)
      | .bk e2 S2 => .nx (kill e2 ks) (trim n (kill e2 ks) S2)
      | r => r)
/-- a comprehension's turns: the items so far -/
def loopC (tg : W → Env' → Sto → Option Env') (test : Env' → Sto → R Bool) (el : Env' → Sto → R W) : List W → Env' → List D → Sto → R (List D)
  | [], _, acc, S => .ok acc S
  | w :: ws, e, acc, S => (match tg w e S with
    | none => .st
    | some e1 => (test e1 S).bind fun b S1 => match b with
      | false => loopC tg test el ws e acc S1
      | true => (el e1 S1).bind fun x S2 => match x with
        | .d y => if acc.length < sizeLine then loopC tg test el ws e (acc ++ [y]) S2 else .st
        | .m _ => .st)
def R.noX {α : Type} : R α → R α
  | .ok a S => .ok a S
  | _ => .st
def rngL (lo : Int) (n : Nat) : List W := (List.range n).map fun (k : Nat) => W.d (.int (lo + (k : Int)))
def enmL (k : Nat) : List D → List W
  | [] => []
  | x :: l => .d (.tup [.int k, x]) :: enmL (k + 1) l
def optB (o : Option Bool) (S : Sto) : R Bool := match o with
  | some b => .ok b S
  | none => .st
def optBW (o : Option Bool) (S : Sto) : R W := match o with
  | some b => .ok (.d (.bl b)) S
  | none => .st
def getE (e : Env') (i : Nat) (S : Sto) : R W := match e[i]? with
  | some (some w) => .ok w S
  | _ => .st
def frzI (e : Env') (i : Nat) (S : Sto) : R W := match e[i]? with
  | some (some (.m j)) => (match S[j]? with
    | some (some (.lst l)) => .ok (.d (.lst l)) (S.set j none)
    | _ => .st)
  | some (some w) => .ok w S
  | _ => .st
def intPart (w : W) (S : Sto) : R (Option Int) := match w with
  | .d (.int i) => .ok (some i) S
  | _ => .st
def rngOk (i : Int) : Bool := decide (-1000000 ≤ i ∧ i ≤ 1000000)

/-! ### the interpreter -/
def dats : List W → Option (List D)
  | [] => some []
  | .d x :: l => (dats l).map (x :: ·)
  | .m _ :: _ => none
mutual
def evE (t : Tb) : E → Env' → Sto → R W
  | .var i, e, S => getE e i S
  | .int i, _, S => ok1 (.int i) S
  | .str s, _, S => ok1 (.str s) S
  | .bl b, _, S => ok1 (.bl b) S
  | .non, _, S => ok1 .non S
  | .glo n, _, S => optR t.cn[n]? S
  | .op z o a b, e, S => (evE t a e S).bind fun x S => (evE t b e S).bind fun y S => bin z o x y S
  | .neg a, e, S => (evE t a e S).bind fun x S => (match x with
    | .d (.int i) => ok1 (.int (-i)) S
    | _ => .st)
  | .cmp o a b, e, S => (evE t a e S).bind fun x S => (evE t b e S).bind fun y S => optBW (cmpW o x y S) S
  | .chn o o' a b c, e, S => (evE t a e S).bind fun x S => (evE t b e S).bind fun y S => (optB (cmpW o x y S) S).bind fun k S => match k with
    | true => (evE t c e S).bind fun w S => optBW (cmpW o' y w S) S
    | false => ok1 (.bl false) S
  | .and l, e, S => evAnd t l e S
  | .or l, e, S => evOr t l e S
  | .not a, e, S => (evE t a e S).bind fun x S => (match x with
    | .d (.bl b) => ok1 (.bl !b) S
    | _ => .st)
  | .ite c a b, e, S => (evT t c e S).bind fun k S => match k with
    | true => evE t a e S
    | false => evE t b e S
  | .tup l, e, S => (evA t l e S).bind fun ws S => (match dats ws with
    | some ds => if ds.length ≤ sizeLine then ok1 (.tup ds) S else .st
    | none => .st)
  | .lst z l, e, S => (evA t l e S).bind fun ws S => (match dats ws with
    | some ds => if ds.length ≤ sizeLine then mkL z ds S else .st
    | none => .st)
  | .ix a b, e, S => (evE t a e S).bind fun x S => (evE t b e S).bind fun y S => ixW x y S
  | .sl z a lo hi, e, S => (evE t a e S).bind fun x S => (evO t lo e S).bind fun l S => (evO t hi e S).bind fun h S => slW z x l h S
  | .call n l ps, e, S => (evA t l e S).bind fun ws S => (match t.fn[n]? with
    | some F => callF F ws e ps S
    | none => .st)
  | .bi z f l, e, S => (evA t l e S).bind fun ws S => biW z f ws S
  | .isi a ty, e, S => (evE t a e S).bind fun x S => optBW (isiW ty x S) S
  | .me z m o l, e, S => (evE t o e S).bind fun x S => if meTy S m x then (evA t l e S).bind fun ws S => meW z m x ws S else .st
  | .lc z own g s tt el, e, S => (evSc t s e S).bind fun ws S => (loopC (evG g) (fun e S => evT t tt e S) (fun e S => evE t el e S) ws (kill e (own.map (·.2))) [] S).noX.bind fun l S => mkL z l S
  | .frz i, e, S => frzI e i S
def evAnd (t : Tb) : EL → Env' → Sto → R W
  | .one a, e, S => evE t a e S
  | .cons a l, e, S => (evE t a e S).bind fun x S => (match x with
    | .d (.bl true) => evAnd t l e S
    | .d (.bl false) => ok1 (.bl false) S
    | _ => .st)
def evOr (t : Tb) : EL → Env' → Sto → R W
  | .one a, e, S => evE t a e S
  | .cons a l, e, S => (evE t a e S).bind fun x S => (match x with
    | .d (.bl false) => evOr t l e S
    | .d (.bl true) => ok1 (.bl true) S
    | _ => .st)
def evA (t : Tb) : A → Env' → Sto → R (List W)
  | .nil, _, S => .ok [] S
  | .cons a l, e, S => (evE t a e S).bind fun x S => (evA t l e S).bind fun xs S => .ok (x :: xs) S
def evO (t : Tb) : O → Env' → Sto → R (Option Int)
  | .no, _, S => .ok none S
  | .so a, e, S => (evE t a e S).bind fun x S => intPart x S
def evT (t : Tb) : T → Env' → Sto → R Bool
  | .yes, _, S => .ok true S
  | .val a, e, S => (evE t a e S).bind fun x S => (match x with
    | .d (.bl b) => .ok b S
    | _ => .st)
  | .tru a, e, S => (evE t a e S).bind fun x S => optB (tru S x) S
  | .cmp o a b, e, S => (evE t a e S).bind fun x S => (evE t b e S).bind fun y S => optB (cmpW o x y S) S
  | .chn o o' a b c, e, S => (evE t a e S).bind fun x S => (evE t b e S).bind fun y S => (optB (cmpW o x y S) S).bind fun k S => match k with
    | true => (evE t c e S).bind fun w S => optB (cmpW o' y w S) S
    | false => .ok false S
  | .and l, e, S => evTA t l e S
  | .or l, e, S => evTO t l e S
  | .not a, e, S => (evT t a e S).bind fun b S => .ok (!b) S
def evTA (t : Tb) : TL → Env' → Sto → R Bool
  | .one a, e, S => evT t a e S
  | .cons a l, e, S => (evT t a e S).bind fun b S => match b with
    | true => evTA t l e S
    | false => .ok false S
def evTO (t : Tb) : TL → Env' → Sto → R Bool
  | .one a, e, S => evT t a e S
  | .cons a l, e, S => (evT t a e S).bind fun b S => match b with
    | true => .ok true S
    | false => evTO t l e S
/-- the items that are walked -/
def evSc (t : Tb) : Sc → Env' → Sto → R (List W)
  | .seq a, e, S => (evE t a e S).bind fun x S => (match x with
    | .d (.lst l) => .ok (l.map .d) S
    | .d (.tup l) => .ok (l.map .d) S
    | .d (.ro l) => .ok (l.map .d) S
    | _ => .st)
  | .rng1 a, e, S => (evE t a e S).bind fun x S => (match x with
    | .d (.int i) => if rngOk i then .ok (rngL 0 i.toNat) S else .st
    | _ => .st)
  | .rng2 a b, e, S => (evE t a e S).bind fun x S => (evE t b e S).bind fun y S => (match x, y with
    | .d (.int i), .d (.int j) => if rngOk i && rngOk j then .ok (rngL i (j - i).toNat) S else .st
    | _, _ => .st)
  | .enm a, e, S => (evE t a e S).bind fun x S => (match x with
    | .d (.lst l) => .ok (enmL 0 l) S
    | _ => .st)
  | .chars a, e, S => (evE t a e S).bind fun x S => (match x with
    | .d (.str s) => .ok (s.cps.toList.map fun c => .d (.str ⟨#[c]⟩)) S
    | _ => .st)
def evG : G → W → Env' → Sto → Option Env'
  | .nm i, w, e, _ => if i < e.length then some (e.set i (some w)) else none
  | .tup l, w, e, S => (match w with
    | .d (.tup ds) => evGL l ds e S
    | _ => none)
  | .two _ _, _, _, _ => none
def evGL : GL → List D → Env' → Sto → Option Env'
  | .nil, [], e, _ => some e
  | .cons g l, x :: xs, e, S => (match evG g (.d x) e S with
    | some e1 => evGL l xs e1 S
    | none => none)
  | _, _, _, _ => none
end
mutual
def evS (t : Tb) : S → Env' → Sto → SR
  | .set i a, e, S => (evE t a e S).sr e fun w S => if i < e.length then .nx (e.set i (some w)) S else .st
  | .asg g a, e, S => (evE t a e S).sr e fun w S => (match evG g w e S with
    | some e1 => .nx e1 S
    | none => .st)
  | .aug i o a, e, S => (match e[i]? with
    | some (some x) => (evE t a e S).sr e fun y S => (match o, x, y with
      | .add, .d (.int a), .d (.int b) => .nx (e.set i (some (.d (.int (a + b))))) S
      | .sub, .d (.int a), .d (.int b) => .nx (e.set i (some (.d (.int (a - b))))) S
      | .mul, .d (.int a), .d (.int b) => if mulOk a b then .nx (e.set i (some (.d (.int (a * b))))) S else .st
      | _, _, _ => .st)
    | _ => .st)
  | .setIx o j a, e, S => (evE t a e S).sr e fun x S => (evE t o e S).sr e fun l S => (evE t j e S).sr e fun k S => (match l, k, x with
    | .m q, .d (.int i), .d y => (match S[q]? with
      | some (some (.lst l)) => (match ixN l.length i with
        | some n => .nx e (S.set q (some (.lst (l.set n y))))
        | none => .st)
      | _ => .st)
    | _, _, _ => .st)
  | .ex a, e, S => (evE t a e S).sr e fun _ S => .nx e S
  | .ret a, e, S => (evE t a e S).sr e fun w S => .rt w S
  | .retN, e, S => .rt (.d .non) S
  | .iff c a b, e, S => (evT t c e S).sr e fun k S => match k with
    | true => evB t a e S
    | false => evB t b e S
  | .fo g s b ks, e, S => (evSc t s e S).sr e fun ws S => loopF (evG g) (fun e S => evB t b e S) ks S.length ws e S
  | .wh c b ks, e, S => loopW (fun e S => evT t c e S) (fun e S => evB t b e S) ks S.length 100000 e S
  | .brk, e, S => .bk e S
  | .cont, e, S => .ct e S
  | .pass, e, S => .nx e S
  | .nop ks, e, S => .nx (kill e ks) S
def evB (t : Tb) : B → Env' → Sto → SR
  | .nil, e, S => .nx e S
  | .cons s b, e, S => (evS t s e S).bind fun e S => evB t b e S
end
/-- a def: np parameters, n names in all -/
def run (t : Tb) (np n : Nat) (b : B) : Fn := fun ws S => if ws.length = np then (match evB t b (ws.map some ++ List.replicate (n - ws.length) none) S with
  | .nx _ S' => .ok (.d .non) (trim S.length [] S')
  | .rt w S' => .ok w (trim S.length [some w] S')
  | .ex c ns l _ S' => .ex c ns l (trim S.length [] S')
  | _ => .st) else .st
end En

namespace En
open PySem PySem.Spec PyProof.Rows L2

/-! ### readings out of results -/
/-- what is wanted of an exception: its class, its own dict -/
def RepX (K : KW) (G : Hp) (cls : Value) (d : Option Addr) (c : Str) (ns : List Str) (l : List D) : Prop :=
  cls = .ref (He.ga K.K c) ∧ ((ns = [] ∧ l = []) ∨ ∃ a vs, d = some a ∧ G a = some (.xd (ns.zip vs)) ∧ ns.length = vs.length ∧ RepL K G l vs)
section
variable (K : KW) (Z : Ent)
def QG {α γ : Type} (rep : Hp → List Addr → α → γ → Prop) (e : Env') (σ : L2.St) (Wx : WX) (G : Hp) (B : List Addr) (Q : γ → Hp → Prop) : R α → Prop
  | .ok w S' => ∀ v H' G' B', SimH K Z G' B' S' H' → Ext G B G' B' → rep G' B' w v → Q v H'
  | .ex c ns l S' => ∀ cls d H' G' B', SimH K Z G' B' S' H' → Ext G B G' B' → RepX K G' cls d c ns l → Wx cls d σ H'
  | .st => False
def rV : Hp → List Addr → W → V → Prop := RepW K
def rVs : Hp → List Addr → List W → List V → Prop := RepWs K
def rB : Hp → List Addr → Bool → Bool → Prop := fun _ _ a b => b = a
def rO : Hp → List Addr → Option Int → Option Int → Prop := fun _ _ a b => b = a
def tG {α γ : Type} (rep : Hp → List Addr → α → γ → Prop) (Wx : WX) (f : Env' → Sto → R α) : L2.St → Hp → (γ → Hp → Prop) → Prop := fun σ H Q =>
  ∃ G B e S, Sim K Z G B e S σ H ∧ QG K Z rep e σ Wx G B Q (f e S)
end
section
variable {K : KW} {Z : Ent} {e : Env'} {σ : L2.St} {Wx : WX} {G : Hp} {B : List Addr}
theorem QG.ext {α γ : Type} {rep : Hp → List Addr → α → γ → Prop} {Q : γ → Hp → Prop} {G1 : Hp} {B1 : List Addr} (x : Ext G B G1 B1) : ∀ {r : R α}, QG K Z rep e σ Wx G B Q r → QG K Z rep e σ Wx G1 B1 Q r
  | .ok w S', h => fun v H' G' B' s x' => h v H' G' B' s (x.trans x')
  | .ex c ns l S', h => fun cls d H' G' B' s x' => h cls d H' G' B' s (x.trans x')
  | .st, h => h
theorem QG.bind {α γ α' γ' : Type} {rep : Hp → List Addr → α → γ → Prop} {rep' : Hp → List Addr → α' → γ' → Prop} {Q : γ → Hp → Prop} {Q' : γ' → Hp → Prop} {g : α → Sto → R α'} : ∀ {r : R α}, QG K Z rep' e σ Wx G B Q' (r.bind g) →
    (∀ x H1 G1 B1 w S1, r = .ok w S1 → SimH K Z G1 B1 S1 H1 → Ext G B G1 B1 → rep G1 B1 w x → QG K Z rep' e σ Wx G1 B1 Q' (g w S1) → Q x H1) → QG K Z rep e σ Wx G B Q r
  | .ok w S', h, k => fun v H' G' B' s x r => k v H' G' B' w S' rfl s x r (QG.ext x h)
  | .ex c ns l S', h, k => h
  | .st, h, k => h
theorem QG.mono {α γ : Type} {rep : Hp → List Addr → α → γ → Prop} {Q Q' : γ → Hp → Prop} (k : ∀ v H, Q v H → Q' v H) : ∀ {r : R α}, QG K Z rep e σ Wx G B Q r → QG K Z rep e σ Wx G B Q' r
  | .ok w S', h => fun v H' G' B' s x r => k _ _ (h v H' G' B' s x r)
  | .ex c ns l S', h => h
  | .st, h => h
theorem QG.here {α γ : Type} {rep : Hp → List Addr → α → γ → Prop} {Q : γ → Hp → Prop} {w : α} {S : Sto} {v : γ} {H : Hp} (h : QG K Z rep e σ Wx G B Q (.ok w S)) (s : SimH K Z G B S H) (r : rep G B w v) : Q v H := h v H G B s (Ext.refl G B) r
end
theorem PE.imp {X : Cx} {e : Expr} {t t' : TE} (h : PE X e t) (k : ∀ σ H Q, t' σ H Q → t σ H Q) : PE X e t' := ⟨fun pins s σ H Q I q => h.run pins s σ H Q I (k σ H Q q)⟩
theorem PT.imp {X : Cx} {e : Expr} {t t' : TT} (h : PT X e t) (k : ∀ σ H Q, t' σ H Q → t σ H Q) : PT X e t' := ⟨fun pins s σ H Q I q => h.run pins s σ H Q I (k σ H Q q)⟩
theorem PW.imp {X : Cx} {e : Expr} {t t' : TT} (h : PW X e t) (k : ∀ σ H Q, t' σ H Q → t σ H Q) : PW X e t' := ⟨fun wh pins s σ H Q I q => h.run wh pins s σ H Q I (k σ H Q q)⟩
theorem PA.imp {X : Cx} {e : List Expr} {t t' : TA} (h : PA X e t) (k : ∀ σ H Q, t' σ H Q → t σ H Q) : PA X e t' := ⟨fun pos pins s σ H Q I q => h.run pos pins s σ H Q I (k σ H Q q)⟩
theorem PO.imp {X : Cx} {e : Option Expr} {t t' : TO} (h : PO X e t) (k : ∀ σ H Q, t' σ H Q → t σ H Q) : PO X e t' := ⟨fun pins s σ H Q I q => h.run pins s σ H Q I (k σ H Q q)⟩
theorem PS.imp {X : Cx} {e : Stmt} {t t' : TS} (h : PS X e t) (k : ∀ D σ H, t' D σ H → t D σ H) : PS X e t' := ⟨fun pins s σ H D I q => h.run pins s σ H D I (k D σ H q)⟩
theorem PSs.imp {X : Cx} {e : List Stmt} {t t' : TS} (h : PSs X e t) (k : ∀ D σ H, t' D σ H → t D σ H) : PSs X e t' := ⟨fun pins s σ H D I q => h.run pins s σ H D I (k D σ H q)⟩

/-! ### the heap's steps -/
section
variable {K : KW} {Z : Ent} {G H : Hp} {B : List Addr} {S : Sto}
theorem SimH.sub {a : Addr} {o : HO} (s : SimH K Z G B S H) (h : G a = some o) : H a = some o := s.gh a o h
theorem SimH.pre_app (s : SimH K Z G B S H) (u : List Addr) : ∃ t, B ++ u = Z.B ++ t := by
  obtain ⟨t, e⟩ := s.pre
  exact ⟨t ++ u, by rw [e, List.append_assoc]⟩
theorem SimH.fresh {p : Addr} (s : SimH K Z G B S H) (h : H p = none) : G p = none ∧ Z.H p = none := by
  refine ⟨?_, ?_⟩
  · cases e : G p with
    | none => rfl
    | some o =>
      rw [s.gh p o e] at h
      cases h
  · cases e : Z.H p with
    | none => rfl
    | some o => exact absurd h (s.dom p (by rw [e]; intro z; cases z))
theorem ObR.keep {G' H' : Hp} {B' : List Addr} {a : Addr} (x : Ext G B G' B') (k : ∀ o, H a = some o → H' a = some o) : ∀ {o : Ob}, ObR K G B H a o → ObR K G' B' H' a o
  | .lst l, h => by
    obtain ⟨vs, h1, h2, h3⟩ := h
    exact ⟨vs, k _ h1, h2, RepL.mono x.sub _ _ h3⟩
  | .mat l, h => by
    obtain ⟨vs, h1, h2, h3⟩ := h
    refine ⟨vs, k _ h1, h2, ?_⟩
    clear h1 h2
    obtain ⟨t, e⟩ := x.pre
    revert vs
    induction l with
    | nil => exact fun vs h3 => h3
    | cons i r ih =>
      intro vs h3
      obtain ⟨b, u, e1, e2, e3⟩ := h3
      exact ⟨b, u, e1, by rw [e]; exact pre_get e2, ih _ e3⟩
  | .ins c ns l, h => by
    obtain ⟨dx, vs, h1, h2, h3⟩ := h
    exact ⟨dx, vs, k _ h1, h2, RepWs.mono x h3⟩
  | .dk ks l, h => by
    obtain ⟨vs, h1, h2, h3⟩ := h
    exact ⟨vs, k _ h1, h2, RepL.mono x.sub _ _ h3⟩
/-- a new object that is still from now on -/
theorem SimH.newG {p : Addr} {o : HO} (s : SimH K Z G B S H) (h : H p = none) : SimH K Z (upd G p o) B S (upd H p o) ∧ Ext G B (upd G p o) B := by
  obtain ⟨g0, e0⟩ := s.fresh h
  have x : Ext G B (upd G p o) B := ⟨Sub.new g0, [], by simp⟩
  refine ⟨⟨fun a u q => ?_, s.len, fun i u q => ?_, s.inj, fun a u q1 q2 => ?_, fun a q1 q2 => ?_, s.mono.trans x.sub, fun a q => ?_, s.pre⟩, x⟩
  · by_cases z : a = p
    · subst z
      rw [upd_same] at q ⊢
      exact q
    · rw [upd_ne z] at q ⊢
      exact s.gh a u q
  · obtain ⟨a, e1, e2, e3, e4⟩ := s.ob i u q
    have z : a ≠ p := by
      rintro rfl
      have : ∃ v, H a = some v := by
        cases u with
        | lst l => obtain ⟨vs, h1, _⟩ := e3; exact ⟨_, h1⟩
        | mat l => obtain ⟨vs, h1, _⟩ := e3; exact ⟨_, h1⟩
        | ins c ns l => obtain ⟨dx, vs, h1, _⟩ := e3; exact ⟨_, h1⟩
        | dk ks l => obtain ⟨vs, h1, _⟩ := e3; exact ⟨_, h1⟩
      obtain ⟨v, hv⟩ := this
      rw [h] at hv
      cases hv
    exact ⟨a, e1, by rw [upd_ne z]; exact e2, e3.keep x fun o q => by rw [upd_ne z]; exact q, e4⟩
  · rw [upd_ne (ne_of_none (s.fr a u q1 q2) h)]
    exact s.fr a u q1 q2
  · have z : a ≠ p := by
      rintro rfl
      exact q1 e0
    rw [upd_ne z]
    exact s.fg a q1 q2
  · by_cases z : a = p
    · subst z
      rw [upd_same]
      intro y
      cases y
    · rw [upd_ne z]
      exact s.dom a q
/-- a new object that may change -/
theorem SimH.newM {p : Addr} {o : HO} {u : Ob} (s : SimH K Z G B S H) (h : H p = none) (r : ∀ B', Ext G B G B' → ObR K G B' (upd H p o) p u) : SimH K Z G (B ++ [p]) (S ++ [some u]) (upd H p o) ∧ Ext G B G (B ++ [p]) := by
  obtain ⟨g0, e0⟩ := s.fresh h
  have x : Ext G B G (B ++ [p]) := ⟨Sub.refl G, [p], rfl⟩
  have there : ∀ {a : Addr} {v : Ob}, ObR K G B H a v → a ≠ p := fun {a v} e3 => by
    rintro rfl
    have : ∃ v, H a = some v := by
      cases v with
      | lst l => obtain ⟨vs, h1, _⟩ := e3; exact ⟨_, h1⟩
      | mat l => obtain ⟨vs, h1, _⟩ := e3; exact ⟨_, h1⟩
      | ins c ns l => obtain ⟨dx, vs, h1, _⟩ := e3; exact ⟨_, h1⟩
      | dk ks l => obtain ⟨vs, h1, _⟩ := e3; exact ⟨_, h1⟩
    obtain ⟨v, hv⟩ := this
    rw [h] at hv
    cases hv
  have split : ∀ (i : Nat) (v : Ob), (S ++ [some u])[i]? = some (some v) → (i < S.length ∧ S[i]? = some (some v)) ∨ (i = S.length ∧ v = u) := fun i v q => by
    by_cases hi : i < S.length
    · rw [List.getElem?_append_left hi] at q
      exact .inl ⟨hi, q⟩
    · rw [List.getElem?_append_right (Nat.le_of_not_lt hi)] at q
      cases k : i - S.length with
      | zero =>
        rw [k] at q
        simp at q
        exact .inr ⟨by omega, q.symm⟩
      | succ n =>
        rw [k] at q
        simp at q
  have bat : ∀ (i : Nat) (a : Addr), i < S.length → (B ++ [p])[i]? = some a → B[i]? = some a := fun i a hi q => by
    rw [List.getElem?_append_left (by rw [s.len]; exact hi)] at q
    exact q
  have bend : (B ++ [p])[S.length]? = some p := by
    rw [List.getElem?_append_right (by rw [s.len]; exact Nat.le_refl _), s.len]
    simp
  refine ⟨⟨fun a v q => ?_, by simp [s.len], fun i v q => ?_, fun i j v v' a q1 q2 b1 b2 => ?_, fun a v q1 q2 => ?_, s.fg, s.mono, fun a q => ?_, s.pre_app [p]⟩, x⟩
  · rw [upd_ne (ne_of_none (s.gh a v q) h)]
    exact s.gh a v q
  · rcases split i v q with ⟨hi, q⟩ | ⟨rfl, rfl⟩
    · obtain ⟨a, e1, e2, e3, e4⟩ := s.ob i v q
      exact ⟨a, pre_get e1, e2, e3.keep x fun o q => by rw [upd_ne (there e3)]; exact q, e4⟩
    · exact ⟨p, bend, g0, r _ x, .inr e0⟩
  · rcases split i v q1 with ⟨hi, p1⟩ | ⟨p1, _⟩
    · rcases split j v' q2 with ⟨hj, p2⟩ | ⟨p2, _⟩
      · exact s.inj i j v v' a p1 p2 (bat i a hi b1) (bat j a hj b2)
      · rw [p2, bend] at b2
        obtain ⟨c, e1, e2, e3, e4⟩ := s.ob i v p1
        rw [bat i a hi b1] at e1
        cases e1
        cases b2
        exact absurd rfl (there e3)
    · rcases split j v' q2 with ⟨hj, p2⟩ | ⟨p2, _⟩
      · rw [p1, bend] at b1
        obtain ⟨c, e1, e2, e3, e4⟩ := s.ob j v' p2
        rw [bat j a hj b2] at e1
        cases e1
        cases b1
        exact absurd rfl (there e3)
      · rw [p1, p2]
  · rw [upd_ne (ne_of_none (s.fr a v q1 q2) h)]
    exact s.fr a v q1 q2
  · by_cases z : a = p
    · subst z
      rw [upd_same]
      intro y
      cases y
    · rw [upd_ne z]
      exact s.dom a q
theorem ObR.there {a : Addr} : ∀ {v : Ob}, ObR K G B H a v → ∃ o, H a = some o
  | .lst l, h => by obtain ⟨vs, h1, _⟩ := h; exact ⟨_, h1⟩
  | .mat l, h => by obtain ⟨vs, h1, _⟩ := h; exact ⟨_, h1⟩
  | .ins c ns l, h => by obtain ⟨dx, vs, h1, _⟩ := h; exact ⟨_, h1⟩
  | .dk ks l, h => by obtain ⟨vs, h1, _⟩ := h; exact ⟨_, h1⟩
/-- a thing that may change changes -/
theorem SimH.set {i : Nat} {a : Addr} {o : HO} {u v : Ob} (s : SimH K Z G B S H) (hi : S[i]? = some (some v)) (ha : B[i]? = some a) (r : ObR K G B (upd H a o) a u) : SimH K Z G B (S.set i (some u)) (upd H a o) := by
  obtain ⟨a', e1, e2, e3, e4⟩ := s.ob i v hi
  rw [ha] at e1
  cases e1
  have lt : i < S.length := (List.getElem?_eq_some_iff.mp hi).1
  have look : ∀ (j : Nat) (w : Ob), (S.set i (some u))[j]? = some (some w) → (j = i ∧ w = u) ∨ (j ≠ i ∧ S[j]? = some (some w)) := fun j w q => by
    by_cases z : j = i
    · subst z
      rw [List.getElem?_set_self lt] at q
      exact .inl ⟨rfl, by cases q; rfl⟩
    · rw [List.getElem?_set_ne (Ne.symm z)] at q
      exact .inr ⟨z, q⟩
  have oth : ∀ {j : Nat} {w : Ob} {b : Addr}, j ≠ i → S[j]? = some (some w) → B[j]? = some b → b ≠ a := fun {j w b} hj hw hb z => by
    subst z
    exact hj (s.inj j i w v _ hw hi hb ha)
  refine ⟨fun b w q => ?_, by rw [List.length_set]; exact s.len, fun j w q => ?_, fun j k w w' b q1 q2 b1 b2 => ?_, fun b w q1 q2 => ?_, s.fg, s.mono, fun b q => ?_, s.pre⟩
  · have z : b ≠ a := by
      rintro rfl
      rw [e2] at q
      cases q
    rw [upd_ne z]
    exact s.gh b w q
  · rcases look j w q with ⟨rfl, rfl⟩ | ⟨hj, q⟩
    · exact ⟨a, ha, e2, r, e4⟩
    · obtain ⟨b, d1, d2, d3, d4⟩ := s.ob j w q
      exact ⟨b, d1, d2, d3.keep (Ext.refl G B) fun o q' => by rw [upd_ne (oth hj q d1)]; exact q', d4⟩
  · rcases look j w q1 with ⟨p1, _⟩ | ⟨hj, p1⟩
    · rcases look k w' q2 with ⟨p2, _⟩ | ⟨hk, p2⟩
      · rw [p1, p2]
      · rw [p1, ha] at b1
        cases b1
        exact absurd rfl (oth hk p2 b2)
    · rcases look k w' q2 with ⟨p2, _⟩ | ⟨hk, p2⟩
      · rw [p2, ha] at b2
        cases b2
        exact absurd rfl (oth hj p1 b1)
      · exact s.inj j k w w' b p1 p2 b1 b2
  · have z : b ≠ a := by
      rintro rfl
      rcases e4 with e4 | e4
      · exact q2 e4
      · rw [e4] at q1
        cases q1
    rw [upd_ne z]
    exact s.fr b w q1 q2
  · by_cases z : b = a
    · subst z
      rw [upd_same]
      intro y
      cases y
    · rw [upd_ne z]
      exact s.dom b q
/-- a list comes to rest -/
theorem SimH.rest {i : Nat} {a : Addr} {o : HO} {v : Ob} (s : SimH K Z G B S H) (hi : S[i]? = some (some v)) (ha : B[i]? = some a) (ho : H a = some o) : SimH K Z (upd G a o) B (S.set i none) H ∧ Ext G B (upd G a o) B := by
  obtain ⟨a', e1, e2, e3, e4⟩ := s.ob i v hi
  rw [ha] at e1
  cases e1
  have lt : i < S.length := (List.getElem?_eq_some_iff.mp hi).1
  have x : Ext G B (upd G a o) B := ⟨Sub.new e2, [], by simp⟩
  have look : ∀ (j : Nat) (w : Ob), (S.set i none)[j]? = some (some w) → j ≠ i ∧ S[j]? = some (some w) := fun j w q => by
    by_cases z : j = i
    · subst z
      rw [List.getElem?_set_self lt] at q
      cases q
    · rw [List.getElem?_set_ne (Ne.symm z)] at q
      exact ⟨z, q⟩
  refine ⟨⟨fun b w q => ?_, by rw [List.length_set]; exact s.len, fun j w q => ?_, fun j k w w' b q1 q2 b1 b2 => ?_, s.fr, fun b q1 q2 => ?_, s.mono.trans x.sub, s.dom, s.pre⟩, x⟩
  · by_cases z : b = a
    · subst z
      rw [upd_same] at q
      cases q
      exact ho
    · rw [upd_ne z] at q
      exact s.gh b w q
  · obtain ⟨hj, q⟩ := look j w q
    obtain ⟨b, d1, d2, d3, d4⟩ := s.ob j w q
    have z : b ≠ a := by
      rintro rfl
      exact hj (s.inj j i w v _ q hi d1 ha)
    exact ⟨b, d1, by rw [upd_ne z]; exact d2, d3.keep x fun o q' => q', d4⟩
  · exact s.inj j k w w' b (look j w q1).2 (look k w' q2).2 b1 b2
  · have z : b ≠ a := by
      rintro rfl
      rcases e4 with e4 | e4
      · exact q2 e4
      · exact q1 e4
    rw [upd_ne z]
    exact s.fg b q1 q2
end

/-! ### lists that are read -/
section
variable {K : KW} {Z : Ent} {G H : Hp} {B : List Addr} {S : Sto} {w : W} {v : V} {l : List D}
theorem lv_ok (s : SimH K Z G B S H) (r : RepW K G B w v) (h : lv S w = some l) : ∃ a vs, v = .ref a ∧ H a = some (.lst vs) ∧ vs.length ≤ sizeLine ∧ RepL K G l vs := by
  cases w with
  | d x =>
    cases x with
    | lst m =>
      simp only [lv, Option.some.injEq] at h
      subst h
      simp only [RepW, Rep] at r
      obtain ⟨a, vs, e, h1, h2, h3⟩ := r
      exact ⟨a, vs, e, s.gh _ _ h1, h2, h3⟩
    | _ => simp [lv] at h
  | m i =>
    obtain ⟨a, h1, h2⟩ := r
    simp only [lv] at h
    split at h
    · rename_i m hm
      cases h
      obtain ⟨a', e1, _, e3, _⟩ := s.ob i _ hm
      rw [h1] at e1
      cases e1
      obtain ⟨vs, q1, q2, q3⟩ := e3
      exact ⟨a, vs, h2, q1, q2, q3⟩
    · cases h
theorem sub_rdH {a : Addr} {u : HO} (s : SimH K Z G B S H) (h : Rd G a u) : Rd H a u := sub_rd s.gh h
theorem sv_ok (s : SimH K Z G B S H) (r : RepW K G B w v) (h : sv S w = some l) : ∃ a vs, v = .ref a ∧ (SqL K.K H a vs ∨ SqT K.K H a vs) ∧ vs.length ≤ sizeLine ∧ RepL K G l vs := by
  cases w with
  | d x =>
    cases x with
    | lst m =>
      simp only [sv, Option.some.injEq] at h
      subst h
      simp only [RepW, Rep] at r
      obtain ⟨a, vs, e, h1, h2, h3⟩ := r
      exact ⟨a, vs, e, .inl (SqL.of (s.gh _ _ h1)), h2, h3⟩
    | tup m =>
      simp only [sv, Option.some.injEq] at h
      subst h
      simp only [RepW, Rep] at r
      obtain ⟨a, vs, e, h1, h2, h3⟩ := r
      exact ⟨a, vs, e, .inr (sub_t s.gh h1), h2, h3⟩
    | ro m =>
      simp only [sv, Option.some.injEq] at h
      subst h
      simp only [RepW, Rep] at r
      obtain ⟨a, vs, e, h1, h2, h3⟩ := r
      exact ⟨a, vs, e, .inl (sub_l s.gh h1), h2, h3⟩
    | _ => simp [sv] at h
  | m i =>
    obtain ⟨a, h1, h2⟩ := r
    simp only [sv] at h
    split at h
    · rename_i m hm
      cases h
      obtain ⟨a', e1, _, e3, _⟩ := s.ob i _ hm
      rw [h1] at e1
      cases e1
      obtain ⟨vs, q1, q2, q3⟩ := e3
      exact ⟨a, vs, h2, .inl (SqL.of q1), q2, q3⟩
    · cases h
variable {e : Env'} {σ : L2.St} {Wx : WX} {Q : VK}
theorem QG.d1 {x : D} {v : V} (h : QG K Z (rV K) e σ Wx G B Q (ok1 x S)) (s : SimH K Z G B S H) (r : Rep K G x v) : Q v H := QG.here h s r
theorem QG.mkL {z : Bool} {vs : List V} (h : QG K Z (rV K) e σ Wx G B Q (mkL z l S)) (s : SimH K Z G B S H) (r : RepL K G l vs) (hz : vs.length ≤ sizeLine) : ∀ p, H p = none → Q (.ref p) (upd H p (.lst vs)) := fun p hp => by
  unfold En.mkL at h
  cases z with
  | true =>
    obtain ⟨s1, x⟩ := s.newG (o := .lst vs) hp
    refine h _ _ _ _ s1 x ?_
    show Rep K _ (.lst l) _
    simp only [Rep]
    exact ⟨p, vs, rfl, upd_same, hz, RepL.mono x.sub _ _ r⟩
  | false =>
    obtain ⟨s1, x⟩ := s.newM (o := .lst vs) (u := .lst l) hp fun B' x => ⟨vs, upd_same, hz, RepL.mono x.sub _ _ r⟩
    refine h _ _ _ _ s1 x ⟨p, ?_, rfl⟩
    rw [← s.len, List.getElem?_append_right (Nat.le_refl _)]
    simp
theorem QG.newT {vs : List V} (h : QG K Z (rV K) e σ Wx G B Q (ok1 (.tup l) S)) (s : SimH K Z G B S H) (r : RepL K G l vs) (hz : vs.length ≤ sizeLine) : ∀ p, H p = none → Q (.ref p) (upd H p (.tup vs)) := fun p hp => by
  obtain ⟨s1, x⟩ := s.newG (o := .tup vs) hp
  refine h _ _ _ _ s1 x ?_
  show Rep K _ (.tup l) _
  simp only [Rep]
  exact ⟨p, vs, rfl, SqT.of upd_same, hz, RepL.mono x.sub _ _ r⟩
end
end En

namespace En
open PySem PySem.Spec PyProof.Rows L2

/-! ### operators -/
def Bop.op : Bop → Operator
  | .add => .Add | .sub => .Sub | .mul => .Mult | .mod => .Mod | .fdiv => .FloorDiv | .pow => .Pow
def rAddT : R2 := fun x y H Q => ∃ i j, x = .str i ∧ y = .str j ∧ i.length + j.length ≤ sizeLine ∧ Q (.str (i ++ j)) H
def repS (s : Str) (n : Int) : Str := ⟨(List.replicate n.toNat s.cps.toList).flatten.toArray⟩
def rMulT : R2 := fun x y H Q => ∃ (s : Str) (n : Int), x = .str s ∧ y = .int n ∧ s.length = 1 ∧ n ≤ 1000 ∧ -1000 ≤ n ∧ Q (.str (repS s n)) H
theorem rep_foldl (c : Array Nat) : ∀ (n : Nat) (a : Array Nat), ((List.replicate n c).foldl (· ++ ·) a).toList = a.toList ++ (List.replicate n c.toList).flatten
  | 0, a => by simp
  | n + 1, a => by
    rw [List.replicate_succ, List.foldl_cons, rep_foldl c n, List.replicate_succ, List.flatten_cons, Array.toList_append, List.append_assoc]
theorem op_mulT {X : Cx} : OpR X (binaryOp .Mult) rMulT := by
  intro pins s σ H x y v u Q I rx ry h
  obtain ⟨z, n, rfl, rfl, hz, h1, h2, q⟩ := h
  obtain ⟨t, rfl⟩ := rx
  obtain ⟨t', rfl⟩ := ry
  have fin : ∀ (v : Str) (tk : Nat), v = repS z n → EP X pins σ Q (.str v tk) { s with toks := s.toks + 1 } := fun v tk e => by
    subst e
    exact ⟨.str (repS z n), H, I.tok _, ⟨_, rfl⟩, q⟩
  have len : (repS z n).length = n.toNat := by
    show ((List.replicate n.toNat z.cps.toList).flatten.toArray).size = n.toNat
    rw [List.size_toArray, List.length_flatten, List.map_replicate, List.sum_replicate_nat]
    have : z.cps.toList.length = 1 := hz
    rw [this, Nat.mul_one]
  refine PySem.P.mul_str (by
    rw [decide_eq_false (by omega), decide_eq_false (by omega)]
    rfl) (fun _ _ => ?_) (fun _ _ => ?_) ?_
  · rw [hz]
    have : (1 : Int) ≤ (2 ^ 63 - 1) / n := by
      rename_i hn _
      have hp : 0 < n := by omega
      rw [Int.le_ediv_iff_mul_le hp]
      omega
    omega
  · rw [hz, Nat.one_mul]
    unfold Builtin.Str.tooLong
    rw [sizeLine_eq]
    exact decide_eq_false (by omega)
  · by_cases hn : n < 1
    · rw [if_pos hn]
      refine ⟨by decide, ?_⟩
      refine fin _ _ ?_
      unfold repS
      rw [show n.toNat = 0 by omega]
      rfl
    · rw [if_neg hn]
      by_cases h3 : (n == 1 || z.length == 0) = true
      · rw [if_pos h3]
        have hn1 : n = 1 := by
          rw [hz] at h3
          simpa using h3
        show EP X pins σ Q (.str z t) s
        refine ⟨.str (repS z n), H, I, ⟨t, ?_⟩, q⟩
        congr 1
        unfold repS
        rw [hn1]
        simp
      · rw [if_neg h3]
        have e : (⟨(List.replicate n.toNat z.cps).foldl (· ++ ·) #[]⟩ : Str) = repS z n := by
          unfold repS
          congr 1
          apply Array.ext'
          rw [rep_foldl]
          simp
        refine ⟨?_, fin _ _ e⟩
        rw [e, len, sizeLine_eq]
        omega
def rdBin (K : PySem.W.Frag) : Bop → R2
  | .add => fun x y H Q => (rI0 fun i j => .int (i + j)) x y H Q ∨ (rAddT x y H Q ∨ (rCatT K x y H Q ∨ rCat x y H Q))
  | .sub => rI0 fun i j => .int (i - j)
  | .mul => fun x y H Q => (rI CMul fun i j => .int (i * j)) x y H Q ∨ rMulT x y H Q
  | .mod => rI (fun _ j => 0 < j) fun i j => .int (i % j)
  | .fdiv => rI CDiv fun i j => .int (i / j)
  | .pow => rI CPow fun i j => .int (i ^ j.toNat)
theorem opr_bin {X : Cx} : ∀ o : Bop, OpR X (binaryOp o.op) (rdBin X.K o)
  | .add => op_add.or (OpR.or op_add_str (op_catT.or op_cat))
  | .sub => op_sub
  | .mul => op_mul.or op_mulT
  | .mod => op_mod
  | .fdiv => op_fdiv
  | .pow => op_pow
theorem mulOk_ok {i j : Int} (h : mulOk i j = true) : CMul i j := by
  have h := of_decide_eq_true h
  rcases h with h | h
  · exact .inl ⟨by omega, by omega⟩
  · exact .inr ⟨by omega, by omega⟩
section
variable {K : KW} {Z : Ent} {G H : Hp} {B : List Addr} {S : Sto} {a b : W} {x y : V} {e : Env'} {σ : L2.St} {Wx : WX} {Q : VK}
theorem bin_sound {z : Bool} {o : Bop} (s : SimH K Z G B S H) (ra : RepW K G B a x) (rb : RepW K G B b y) (h : QG K Z (rV K) e σ Wx G B Q (bin z o a b S)) : rdBin K.K o x y H Q := by
  unfold bin at h
  split at h
  · simp only [RepW, Rep] at ra rb
    exact .inl ⟨_, _, ra, rb, h.d1 s (by simp only [Rep])⟩
  · simp only [RepW, Rep] at ra rb
    split at h
    · rename_i hz
      exact .inr (.inl ⟨_, _, ra, rb, hz, h.d1 s (by simp only [Rep])⟩)
    · exact h.elim
  · simp only [RepW, Rep] at ra rb
    split at h
    · exact h.elim
    · rename_i hne
      split at h
      · rename_i hz
        obtain ⟨p, vs, e1, h1, h2, h3⟩ := ra
        obtain ⟨p', vs', e1', h1', h2', h3'⟩ := rb
        have l1 := h3.length
        have l2 := h3'.length
        simp only [Bool.or_eq_true, List.isEmpty_iff, not_or] at hne
        have n1 : vs ≠ [] := by
          rintro rfl
          exact hne.1 (List.length_eq_zero_iff.mp l1)
        have n2 : vs' ≠ [] := by
          rintro rfl
          exact hne.2 (List.length_eq_zero_iff.mp l2)
        refine .inr (.inr (.inl ⟨p, p', vs, vs', e1, e1', sub_t s.gh h1, sub_t s.gh h1', n1, by omega, fun q => absurd q n2, fun _ q hq => ?_⟩))
        exact h.newT s (h3.append h3') (by rw [List.length_append]; omega) q hq
      · exact h.elim
  · split at h
    · rename_i l m hl hm
      split at h
      · rename_i hz
        obtain ⟨p, vs, e1, h1, h2, h3⟩ := lv_ok s ra hl
        obtain ⟨p', vs', e1', h1', h2', h3'⟩ := lv_ok s rb hm
        have l1 := h3.length
        have l2 := h3'.length
        exact .inr (.inr (.inr ⟨p, p', vs, vs', e1, e1', h1, h1', by omega, h.mkL s (h3.append h3') (by rw [List.length_append]; omega)⟩))
      · exact h.elim
    · exact h.elim
  · simp only [RepW, Rep] at ra rb
    exact ⟨_, _, ra, rb, h.d1 s (by simp only [Rep])⟩
  · simp only [RepW, Rep] at ra rb
    split at h
    · rename_i hz
      exact .inl ⟨_, _, ra, rb, mulOk_ok hz, h.d1 s (by simp only [Rep])⟩
    · exact h.elim
  · simp only [RepW, Rep] at ra rb
    split at h
    · rename_i hz
      exact .inr ⟨_, _, ra, rb, hz.1, hz.2.1, hz.2.2, h.d1 s (by simp only [Rep]; rfl)⟩
    · exact h.elim
  · simp only [RepW, Rep] at ra rb
    split at h
    · rename_i hz
      exact ⟨_, _, ra, rb, hz, h.d1 s (by simp only [Rep])⟩
    · exact h.elim
  · simp only [RepW, Rep] at ra rb
    split at h
    · rename_i hz
      exact ⟨_, _, ra, rb, hz, h.d1 s (by simp only [Rep])⟩
    · exact h.elim
  · simp only [RepW, Rep] at ra rb
    split at h
    · rename_i hz
      exact ⟨_, _, ra, rb, hz, h.d1 s (by simp only [Rep])⟩
    · exact h.elim
  · exact h.elim
end
end En

namespace En
open PySem PySem.Spec PyProof.Rows L2

/-! ### data that == reads -/
mutual
theorem Rep.dp {K : KW} {G H : Hp} (s : Sub G H) : ∀ (d : D) (v : V) (p : PyData), Rep K G d v → toPy d = some p → Dp K.K H v p
  | .non, v, p, h, e => by
    simp only [Rep] at h
    simp only [toPy, Option.some.injEq] at e
    subst h e
    exact .non
  | .bl b, v, p, h, e => by
    simp only [Rep] at h
    simp only [toPy, Option.some.injEq] at e
    subst h e
    exact .bl b
  | .int b, v, p, h, e => by
    simp only [Rep] at h
    simp only [toPy, Option.some.injEq] at e
    subst h e
    exact .int b
  | .str b, v, p, h, e => by
    simp only [Rep] at h
    simp only [toPy, Option.some.injEq] at e
    subst h e
    exact .str b
  | .tup l, v, p, h, e => by
    simp only [Rep] at h
    obtain ⟨a, vs, e1, h1, h2, h3⟩ := h
    simp only [toPy] at e
    cases q : toPys l with
    | none =>
      rw [q] at e
      cases e
    | some ps =>
      rw [q] at e
      cases e
      subst e1
      exact .tup (sub_t s h1) (RepL.dp s l vs ps h3 q)
  | .lst l, v, p, h, e => by
    simp only [Rep] at h
    obtain ⟨a, vs, e1, h1, h2, h3⟩ := h
    simp only [toPy] at e
    cases q : toPys l with
    | none =>
      rw [q] at e
      cases e
    | some ps =>
      rw [q] at e
      cases e
      subst e1
      exact .lst (SqL.of (s _ _ h1)) (RepL.dp s l vs ps h3 q)
  | .ro l, v, p, h, e => by simp [toPy] at e
  | .ins c ns l, v, p, h, e => by simp [toPy] at e
  | .dk ks l, v, p, h, e => by simp [toPy] at e
  | .kd x ks l, v, p, h, e => by simp [toPy] at e
theorem RepL.dp {K : KW} {G H : Hp} (s : Sub G H) : ∀ (l : List D) (vs : List V) (ps : List PyData), RepL K G l vs → toPys l = some ps → DpAll K.K H vs ps
  | [], vs, ps, h, e => by
    simp only [RepL] at h
    simp only [toPys, Option.some.injEq] at e
    subst h e
    exact .nil
  | d :: ds, vs, ps, h, e => by
    simp only [RepL] at h
    obtain ⟨v, r, e1, h1, h2⟩ := h
    simp only [toPys] at e
    cases q : toPy d with
    | none =>
      rw [q] at e
      simp at e
    | some p =>
      cases q2 : toPys ds with
      | none =>
        rw [q, q2] at e
        simp at e
      | some qs =>
        rw [q, q2] at e
        simp only [Option.some.injEq] at e
        subst e e1
        exact .cons (Rep.dp s d v p h1 q) (RepL.dp s ds r qs h2 q2)
end
section
variable {K : KW} {Z : Ent} {G H : Hp} {B : List Addr} {S : Sto} {a b : W} {x y : V} {e : Env'} {σ : L2.St} {Wx : WX}
theorem pk_dp (s : SimH K Z G B S H) (r : RepW K G B a x) {d : D} {p : PyData} (h : pk S a = some d) (e : toPy d = some p) : Dp K.K H x p := by
  cases a with
  | d y =>
    simp only [pk, Option.some.injEq] at h
    subst h
    exact Rep.dp s.gh _ _ _ r e
  | m i =>
    have hl : ∃ l, lv S (.m i) = some l ∧ d = .lst l := by
      simp only [pk] at h
      split at h
      · rename_i l hl
        cases h
        exact ⟨l, by simp only [lv, hl], rfl⟩
      · cases h
    obtain ⟨l, hl, rfl⟩ := hl
    obtain ⟨q, vs, e1, h1, h2, h3⟩ := lv_ok s r hl
    simp only [toPy] at e
    cases q2 : toPys l with
    | none =>
      rw [q2] at e
      cases e
    | some ps =>
      rw [q2] at e
      cases e
      subst e1
      exact .lst (SqL.of h1) (RepL.dp s.gh l vs ps h3 q2)
/-- a scalar stands for itself -/
theorem pk_sc (r : RepW K G B a x) : ∀ {d : D}, pk S a = some d → flatD d = true → Rep K G d x := fun {d} h f => by
  cases a with
  | d y =>
    simp only [pk, Option.some.injEq] at h
    subst h
    exact r
  | m i =>
    simp only [pk] at h
    split at h
    · cases h
      cases f
    · cases h
end
theorem sceq_ok {K : KW} {G : Hp} {a b : D} {x y : V} {r : Bool} (ra : Rep K G a x) (rb : Rep K G b y) (h : sceq a b = some r) : scal x y = true ∧ decide (x = y) = r := by
  cases a <;> cases b <;> first
    | (simp [sceq] at h; done)
    | (simp only [Rep] at ra rb
       simp only [sceq, Option.some.injEq] at h
       subst ra rb h
       refine ⟨rfl, ?_⟩
       simp)
theorem sceq_flat {a b : D} {r : Bool} (h : sceq a b = some r) : flatD a = true ∧ flatD b = true := by
  cases a <;> cases b <;> first
    | (simp [sceq] at h; done)
    | exact ⟨rfl, rfl⟩

/-! ### comparisons -/
def Cop.op : Cop → CmpOp
  | .eq => .Eq | .ne => .NotEq | .lt => .Lt | .le => .LtE | .gt => .Gt | .ge => .GtE | .isN => .Is | .notN => .IsNot | .inn => .In | .notIn => .NotIn
def rInKd (K : KW) (neg : Bool) : R2 := fun x y H Q => ∃ (z c : Str) (ks : List Str) (l : List Int), x = .str z ∧ y = .ref (He.ga K.K c) ∧ KTab K c ks l ∧ Q (.bl (if neg then !((ks.zip l).lookup z).isSome else ((ks.zip l).lookup z).isSome)) H
def rSign (neg : Bool) : R2 := fun x y H Q => ∃ (c : Nat) (z : Str), x = .str ⟨#[c]⟩ ∧ y = .str z ∧ Q (.bl (if neg then !decide (c ∈ z.cps.toList) else decide (c ∈ z.cps.toList))) H
def rdCmp (K : KW) : Cop → R2
  | .eq => fun x y H Q => rEq x y H Q ∨ rEqD K.K x y H Q
  | .ne => fun x y H Q => rNe x y H Q ∨ rNeD K.K x y H Q
  | .lt => rI0 fun i j => .bl (decide (i < j))
  | .le => rI0 fun i j => .bl (decide (i ≤ j))
  | .gt => rI0 fun i j => .bl (decide (j < i))
  | .ge => rI0 fun i j => .bl (decide (j ≤ i))
  | .isN => fun x y H Q => y = .non ∧ Q (.bl (decide (x = .non))) H
  | .notN => fun x y H Q => y = .non ∧ Q (.bl (!decide (x = .non))) H
  | .inn => fun x y H Q => rSign false x y H Q ∨ (rInKd K false x y H Q ∨ rIn K.K false x y H Q)
  | .notIn => fun x y H Q => rSign true x y H Q ∨ (rInKd K true x y H Q ∨ rIn K.K true x y H Q)
abbrev kw (X : Cx) : KW := ⟨X.K, X.w⟩
theorem lookup_some {ks : List Str} {l : List Int} {z : Str} {r : Option Value} (h : match (ks.zip l).lookup z with
  | some i => ∃ t, r = some (.int i t)
  | none => r = none) : r.isSome = ((ks.zip l).lookup z).isSome := by
  cases e : (ks.zip l).lookup z with
  | none =>
    rw [e] at h
    rw [h]
    rfl
  | some i =>
    rw [e] at h
    obtain ⟨t, h⟩ := h
    rw [h]
    rfl
theorem op_inKd {X : Cx} : OpR X (compareOp .In) (rInKd (kw X) false) := by
  intro pins s σ H x y v u Q I rx ry h
  obtain ⟨z, c, ks, l, rfl, rfl, ⟨⟨es, n, D⟩, T⟩, q⟩ := h
  obtain ⟨r, e, m⟩ := T z
  refine op_in_kd D pins s σ H _ _ v u Q I rx ry ⟨z, r, rfl, rfl, e, ?_⟩
  rw [lookup_some m]
  exact q
theorem op_notInKd {X : Cx} : OpR X (compareOp .NotIn) (rInKd (kw X) true) := by
  intro pins s σ H x y v u Q I rx ry h
  obtain ⟨z, c, ks, l, rfl, rfl, ⟨⟨es, n, D⟩, T⟩, q⟩ := h
  obtain ⟨r, e, m⟩ := T z
  refine op_notIn_kd D pins s σ H _ _ v u Q I rx ry ⟨z, r, rfl, rfl, e, ?_⟩
  rw [lookup_some m]
  exact q
theorem opr_cmp {X : Cx} (hu : X.A.units + 64 < cLine) : ∀ o : Cop, OpR X (compareOp o.op) (rdCmp (kw X) o)
  | .eq => op_eq.or (op_eqD hu)
  | .ne => op_ne.or (op_neD hu)
  | .lt => op_lt
  | .le => op_le
  | .gt => op_gt
  | .ge => op_ge
  | .isN => op_isN
  | .notN => op_notN
  | .inn => OpR.or (op_in_sign (X := X)) (OpR.or op_inKd op_in_seq)
  | .notIn => OpR.or (op_notIn_sign (X := X)) (OpR.or op_notInKd op_notIn_seq)
theorem feq_ok {K : KW} {G : Hp} {a b : D} {x y : V} (ra : Rep K G a x) (rb : Rep K G b y) (fa : flatD a = true) (fb : flatD b = true) : flatV x = true ∧ flatV y = true ∧ eqV x y = feq a b := by
  cases a <;> first
    | (cases fa; done)
    | (cases b <;> first
        | (cases fb; done)
        | (simp only [Rep] at ra rb
           subst ra rb
           refine ⟨rfl, rfl, ?_⟩
           first
             | rfl
             | (simp only [eqV, feq]
                rw [Bool.eq_iff_iff]
                simp)))
theorem inOf_ok {K : KW} {G : Hp} {a : D} {x : V} (ra : Rep K G a x) (fa : flatD a = true) : ∀ {l : List D} {vs : List V}, RepL K G l vs → l.all flatD = true → vs.all flatV = true ∧ inV x vs = inOf a l
  | [], vs, h, _ => by
    simp only [RepL] at h
    subst h
    exact ⟨rfl, rfl⟩
  | d :: ds, vs, h, f => by
    simp only [RepL] at h
    obtain ⟨v, r, e1, h1, h2⟩ := h
    subst e1
    rw [List.all_cons, Bool.and_eq_true] at f
    obtain ⟨q1, q2, q3⟩ := feq_ok h1 ra f.1 fa
    obtain ⟨q4, q5⟩ := inOf_ok ra fa h2 f.2
    refine ⟨by rw [List.all_cons, q1, q4]; rfl, ?_⟩
    unfold inV inOf at *
    rw [List.any_cons, List.any_cons, q3, q5]
theorem one_sign {c : Str} (h : c.length = 1) : c = ⟨#[c.cps[0]!]⟩ := by
  obtain ⟨⟨l⟩⟩ := c
  have h : l.length = 1 := h
  match l, h with
  | [a], _ => rfl
section
variable {K : KW} {Z : Ent} {G H : Hp} {B : List Addr} {S : Sto} {a b : W} {x y : V}
theorem deq_sound (s : SimH K Z G B S H) (ra : RepW K G B a x) (rb : RepW K G B b y) {d d' : D} {r : Bool} (ha : pk S a = some d) (hb : pk S b = some d') (h : deq d d' = some r) :
    (scal x y = true ∧ decide (x = y) = r) ∨ ∃ p q, Dp K.K H x p ∧ Dp K.K H y q ∧ SeqAt.shaped p = true ∧ SeqAt.shaped q = true ∧ PyData.eqv p q = r := by
  unfold deq at h
  cases e : sceq d d' with
  | some r' =>
    rw [e] at h
    cases h
    obtain ⟨f1, f2⟩ := sceq_flat e
    exact .inl (sceq_ok (pk_sc ra ha f1) (pk_sc rb hb f2) e)
  | none =>
    rw [e] at h
    simp only at h
    split at h
    · rename_i p q e1 e2
      split at h
      · rename_i hs
        cases h
        rw [Bool.and_eq_true] at hs
        exact .inr ⟨p, q, pk_dp s ra ha e1, pk_dp s rb hb e2, hs.1, hs.2, rfl⟩
      · cases h
    · cases h
theorem cmp_sound {o : Cop} {r : Bool} {Q : VK} (s : SimH K Z G B S H) (ra : RepW K G B a x) (rb : RepW K G B b y) (h : cmpW o a b S = some r) (q : Q (.bl r) H) : rdCmp K o x y H Q := by
  cases o
  case eq =>
    simp only [cmpW] at h
    split at h
    · rename_i d d' ha hb
      rcases deq_sound s ra rb ha hb h with ⟨h1, h2⟩ | ⟨p, p', h1, h2, h3, h4, h5⟩
      · exact .inl ⟨h1, by rw [h2]; exact q⟩
      · exact .inr ⟨p, p', h1, h2, h3, h4, by rw [h5]; exact q⟩
    · cases h
  case ne =>
    simp only [cmpW] at h
    split at h
    · rename_i d d' ha hb
      cases e : deq d d' with
      | none =>
        rw [e] at h
        cases h
      | some r' =>
        rw [e] at h
        cases h
        rcases deq_sound s ra rb ha hb e with ⟨h1, h2⟩ | ⟨p, p', h1, h2, h3, h4, h5⟩
        · exact .inl ⟨h1, by rw [h2]; exact q⟩
        · exact .inr ⟨p, p', h1, h2, h3, h4, by rw [h5]; exact q⟩
    · cases h
  case isN =>
    simp only [cmpW] at h
    split at h
    · cases h
      simp only [RepW, Rep] at ra rb
      subst ra rb
      exact ⟨rfl, q⟩
    · rename_i c hne
      cases h
      simp only [RepW, Rep] at rb
      refine ⟨rb, ?_⟩
      have n : x ≠ .non := by
        cases a with
        | d z =>
          cases z <;> simp only [RepW, Rep] at ra <;> first
            | exact absurd rfl (hne)
            | (rw [ra]; intro z; cases z)
            | (obtain ⟨_, _, e, _⟩ := ra; rw [e]; intro z; cases z)
            | (obtain ⟨_, _, _, e, _⟩ := ra; rw [e]; intro z; cases z)
            | (obtain ⟨e, _⟩ := ra; rw [e]; intro z; cases z)
        | m i =>
          obtain ⟨_, _, e⟩ := ra
          rw [e]
          intro z
          cases z
      rw [decide_eq_false n]
      exact q
    · cases h
  case notN =>
    simp only [cmpW] at h
    split at h
    · cases h
      simp only [RepW, Rep] at ra rb
      subst ra rb
      exact ⟨rfl, q⟩
    · rename_i c hne
      cases h
      simp only [RepW, Rep] at rb
      refine ⟨rb, ?_⟩
      have n : x ≠ .non := by
        cases a with
        | d z =>
          cases z <;> simp only [RepW, Rep] at ra <;> first
            | exact absurd rfl (hne)
            | (rw [ra]; intro z; cases z)
            | (obtain ⟨_, _, e, _⟩ := ra; rw [e]; intro z; cases z)
            | (obtain ⟨_, _, _, e, _⟩ := ra; rw [e]; intro z; cases z)
            | (obtain ⟨e, _⟩ := ra; rw [e]; intro z; cases z)
        | m i =>
          obtain ⟨_, _, e⟩ := ra
          rw [e]
          intro z
          cases z
      rw [decide_eq_false n]
      exact q
    · cases h
  case inn =>
    simp only [cmpW] at h
    split at h
    · split at h
      · rename_i hz
        cases h
        simp only [RepW, Rep] at ra rb
        subst ra rb
        exact .inl ⟨_, _, congrArg V.str (one_sign hz), rfl, q⟩
      · cases h
    · cases h
      simp only [RepW, Rep] at ra rb
      exact .inr (.inl ⟨_, _, _, _, ra, rb.1, rb.2, q⟩)
    · split at h
      · rename_i l hl
        split at h
        · rename_i f
          cases h
          rw [Bool.and_eq_true] at f
          obtain ⟨p, vs, e1, h1, h2, h3⟩ := sv_ok s rb hl
          obtain ⟨q4, q5⟩ := inOf_ok ra f.1 h3 f.2
          have fx : flatV x = true := by
            rename_i z _ _ _ _
            exact (feq_ok ra ra f.1 f.1).1
          exact .inr (.inr ⟨p, vs, e1, h1, fx, q4, by rw [q5]; exact q⟩)
        · cases h
      · cases h
    · cases h
  case notIn =>
    simp only [cmpW] at h
    split at h
    · split at h
      · rename_i hz
        cases h
        simp only [RepW, Rep] at ra rb
        subst ra rb
        exact .inl ⟨_, _, congrArg V.str (one_sign hz), rfl, q⟩
      · cases h
    · cases h
      simp only [RepW, Rep] at ra rb
      exact .inr (.inl ⟨_, _, _, _, ra, rb.1, rb.2, q⟩)
    · split at h
      · rename_i l hl
        split at h
        · rename_i f
          cases h
          rw [Bool.and_eq_true] at f
          obtain ⟨p, vs, e1, h1, h2, h3⟩ := sv_ok s rb hl
          obtain ⟨q4, q5⟩ := inOf_ok ra f.1 h3 f.2
          have fx : flatV x = true := (feq_ok ra ra f.1 f.1).1
          exact .inr (.inr ⟨p, vs, e1, h1, fx, q4, by rw [q5]; exact q⟩)
        · cases h
      · cases h
    · cases h
  all_goals
    simp only [cmpW, cmpI] at h
    split at h
    · cases h
      simp only [RepW, Rep] at ra rb
      exact ⟨_, _, ra, rb, q⟩
    · cases h
end
end En

namespace En
open PySem PySem.Spec PyProof.Rows L2

section
variable {K : KW} {Z : Ent} {G H : Hp} {B : List Addr} {S : Sto} {a b : W} {x y : V} {e : Env'} {σ : L2.St} {Wx : WX} {Q : VK}
theorem QG.opt {o : Option D} (h : QG K Z (rV K) e σ Wx G B Q (optR o S)) : ∃ d, o = some d ∧ QG K Z (rV K) e σ Wx G B Q (ok1 d S) := by
  cases o with
  | none => exact h.elim
  | some d => exact ⟨d, rfl, h⟩

/-! ### items -/
def rIxKd (K : KW) : R2 := fun x y H Q => ∃ (c z : Str) (ks : List Str) (l : List Int) (i : Int), x = .ref (He.ga K.K c) ∧ y = .str z ∧ KTab K c ks l ∧ (ks.zip l).lookup z = some i ∧ Q (.int i) H
theorem ix_kd {X : Cx} : IxR X (rIxKd (kw X)) := by
  intro value slice pins s σ H x y v u Q I rx ry h hs
  obtain ⟨c, z, ks, l, i, rfl, rfl, ⟨⟨es, n, D⟩, T⟩, hi, q⟩ := h
  obtain ⟨r, e1, m⟩ := T z
  rw [hi] at m
  obtain ⟨t, rfl⟩ := m
  exact ix_kdict value slice pins s σ H _ _ v u Q I rx ry ⟨_, z, .int i, rfl, rfl, ⟨es, n, .int i t, D.at_, D.lit, e1, ⟨t, rfl⟩⟩, q⟩ hs
def rdIx (K : KW) : R2 := fun x y H Q => rIxKd K x y H Q ∨ rIx K.K x y H Q
theorem opr_ix {X : Cx} : IxR X (rdIx (kw X)) := ix_kd.or ix_seq
theorem atI_rep {l : List D} {vs : List V} {i : Int} {d : D} (r : RepL K G l vs) (h : atI l i = some d) : ∃ v, atI vs i = some v ∧ Rep K G d v := by
  unfold atI at h ⊢
  rw [← r.length]
  cases e : ixN l.length i with
  | none =>
    rw [e] at h
    cases h
  | some j =>
    rw [e] at h
    obtain ⟨v, h1, h2⟩ := r.get (show l[j]? = some d from h)
    exact ⟨v, h1, h2⟩
theorem ix_sound (s : SimH K Z G B S H) (ra : RepW K G B a x) (rb : RepW K G B b y) (h : QG K Z (rV K) e σ Wx G B Q (ixW a b S)) : rdIx K x y H Q := by
  unfold ixW at h
  split at h
  · split at h
    · rename_i hz
      split at h
      · rename_i c hc
        simp only [RepW, Rep] at ra rb
        exact .inr (.inr (.inr ⟨_, _, c, ra, rb, hz, hc, h.d1 s (by simp only [Rep])⟩))
      · exact h.elim
    · exact h.elim
  · obtain ⟨d, e1, h⟩ := h.opt
    simp only [RepW, Rep] at ra rb
    simp only [Option.map_eq_some_iff] at e1
    obtain ⟨i, e1, rfl⟩ := e1
    exact .inl ⟨_, _, _, _, i, ra.1, rb, ra.2, e1, h.d1 s (by simp only [Rep])⟩
  · split at h
    · rename_i l hl
      split at h
      · rename_i d hd
        obtain ⟨p, vs, e1, h1, h2, h3⟩ := sv_ok s ra hl
        obtain ⟨v, e2, h4⟩ := atI_rep h3 hd
        simp only [RepW, Rep] at rb
        rcases h1 with h1 | h1
        · exact .inr (.inl ⟨p, vs, _, v, e1, rb, h1, e2, h.d1 s h4⟩)
        · exact .inr (.inr (.inl ⟨p, vs, _, v, e1, rb, h1, e2, h.d1 s h4⟩))
      · exact h.elim
    · exact h.elim
  · exact h.elim

/-! ### slices -/
def rdSl (K : PySem.W.Frag) : V → Option Int → Option Int → Hp → VK → Prop := fun x lo hi H Q => rSlS x lo hi H Q ∨ rSlL K x lo hi H Q
theorem opr_sl {X : Cx} : SlR X (rdSl X.K) := SlR.or (sl_str (X := X)) sl_list
theorem cut_rep {l : List D} {vs : List V} {lo hi : Option Int} (r : RepL K G l vs) : RepL K G (cutD l lo hi) (cutV vs lo hi) := by
  unfold cutD cutV
  rw [r.length]
  exact RepL.take _ (RepL.drop _ r)
theorem sl_sound {z : Bool} {lo hi : Option Int} (s : SimH K Z G B S H) (ra : RepW K G B a x) (h : QG K Z (rV K) e σ Wx G B Q (slW z a lo hi S)) : rdSl K.K x lo hi H Q := by
  unfold slW at h
  split at h
  · split at h
    · rename_i hz
      simp only [RepW, Rep] at ra
      exact .inl ⟨_, ra, hz, h.d1 s (by simp only [Rep])⟩
    · exact h.elim
  · simp only [RepW, Rep] at ra
    obtain ⟨p, vs, e1, h1, h2, h3⟩ := ra
    exact .inr ⟨p, vs, e1, sub_l s.gh h1, h.mkL s (cut_rep h3) (Nat.le_trans (cutV_length _ _ _) h2)⟩
  · split at h
    · rename_i l hl
      obtain ⟨p, vs, e1, h1, h2, h3⟩ := lv_ok s ra hl
      exact .inr ⟨p, vs, e1, SqL.of h1, h.mkL s (cut_rep h3) (Nat.le_trans (cutV_length _ _ _) h2)⟩
    · exact h.elim

/-! ### built-in functions -/
def Bf.val : Bf → Value
  | .len => .builtin "len" | .abs => .builtin "abs" | .max => .builtin "max" | .min => .builtin "min" | .sum => .builtin "sum" | .all => .builtin "all" | .any => .builtin "any"
  | .isInst => .builtin "isinstance" | .sorted => .builtin "sorted" | .divmod => .builtin "divmod"
  | .str => .type "str" | .int => .type "int" | .list => .type "list" | .tuple => .type "tuple"
def Bf.name : Bf → Str
  | .len => "len" | .abs => "abs" | .max => "max" | .min => "min" | .sum => "sum" | .all => "all" | .any => "any"
  | .isInst => "isinstance" | .sorted => "sorted" | .divmod => "divmod"
  | .str => "str" | .int => "int" | .list => "list" | .tuple => "tuple"
theorem Bf.boot : ∀ f : Bf, bootBuiltins f.name = some f.val := by
  intro f
  cases f <;> decide +kernel
def rNo : List V → Hp → VK → Prop := fun _ _ _ => False
theorem rNo_ok {X : Cx} {v : Value} : CallR X v rNo := fun _ _ _ _ _ _ _ _ _ h => h.elim
theorem CallR.or {X : Cx} {f : Value} {r r' : List V → Hp → VK → Prop} (h : CallR X f r) (h' : CallR X f r') : CallR X f (fun xs H Q => r xs H Q ∨ r' xs H Q) := by
  intro pins s σ H xs us Q I rx q
  rcases q with q | q
  · exact h pins s σ H xs us Q I rx q
  · exact h' pins s σ H xs us Q I rx q
def rMax2 : List V → Hp → VK → Prop := fun xs H Q => ∃ i j, xs = [.int i, .int j] ∧ Q (.int (if j > i then j else i)) H
def rMin2 : List V → Hp → VK → Prop := fun xs H Q => ∃ i j, xs = [.int i, .int j] ∧ Q (.int (if j < i then j else i)) H
def rLenQ (K : PySem.W.Frag) : List V → Hp → VK → Prop := fun xs H Q => ∃ p ys, xs = [.ref p] ∧ (SqL K H p ys ∨ SqT K H p ys) ∧ Q (.int ys.length) H
def rLenT : List V → Hp → VK → Prop := fun xs H Q => ∃ z, xs = [.str z] ∧ z.length ≤ sizeLine ∧ Q (.int z.length) H
def rAbs : List V → Hp → VK → Prop := fun xs H Q => ∃ i, xs = [.int i] ∧ Q (.int (if i < 0 then -i else i)) H
def rStrI : List V → Hp → VK → Prop := fun xs H Q => ∃ i, xs = [.int i] ∧ i.natAbs.log2 < 1920 ∧ Q (.str (toString i)) H
def rInt1 : List V → Hp → VK → Prop := fun xs H Q => (∃ i, xs = [.int i] ∧ Q (.int i) H) ∨ ∃ k, xs = [.bl k] ∧ Q (.int (if k then 1 else 0)) H
def rIntT : List V → Hp → VK → Prop := fun xs H Q => ∃ a n, xs = [.str a] ∧ PySem.intText? a = some n ∧ a.length ≤ 640 ∧ Q (.int n) H
def rListQ (K : PySem.W.Frag) : List V → Hp → VK → Prop := fun xs H Q => ∃ p ys, xs = [.ref p] ∧ (SqL K H p ys ∨ SqT K H p ys) ∧ ∀ l, H l = none → Q (.ref l) (upd H l (.lst ys))
def rdBi (K : PySem.W.Frag) : Bf → List V → Hp → VK → Prop
  | .len => fun xs H Q => rLenT xs H Q ∨ rLenQ K xs H Q
  | .abs => rAbs
  | .max => rMax2
  | .min => rMin2
  | .all => rAll K
  | .any => rAny K
  | .sum => rSum K
  | .str => rStrI
  | .int => fun xs H Q => rInt1 xs H Q ∨ rIntT xs H Q
  | .list => rListQ K
  | _ => rNo
theorem opr_bi {X : Cx} (hc : X.calm = true) : ∀ f : Bf, CallR X f.val (rdBi X.K f)
  | .len => CallR.or call_len_str call_len_seq
  | .abs => call_abs
  | .max => call_max2 hc
  | .min => call_min2 hc
  | .all => cr_all hc
  | .any => cr_any hc
  | .sum => cr_sum hc
  | .str => call_str_int
  | .int => CallR.or call_int1 call_int_str
  | .list => call_list_of
  | .isInst => rNo_ok
  | .sorted => rNo_ok
  | .divmod => rNo_ok
  | .tuple => rNo_ok
theorem allInt_rep : ∀ {l : List D} {vs : List V} {ns : List Int}, RepL K G l vs → allInt l = some ns → vs = ns.map V.int
  | [], vs, ns, h, q => by
    simp only [RepL] at h
    cases q
    rw [h]
    rfl
  | d :: ds, vs, ns, h, q => by
    simp only [RepL] at h
    obtain ⟨v, r, e1, h1, h2⟩ := h
    cases d <;> simp only [allInt, Option.map_eq_some_iff, reduceCtorEq] at q
    obtain ⟨ns', q, rfl⟩ := q
    simp only [Rep] at h1
    rw [e1, h1, allInt_rep h2 q]
    rfl
theorem allBl_rep : ∀ {l : List D} {vs : List V} {ns : List Bool}, RepL K G l vs → allBl l = some ns → vs = ns.map V.bl
  | [], vs, ns, h, q => by
    simp only [RepL] at h
    cases q
    rw [h]
    rfl
  | d :: ds, vs, ns, h, q => by
    simp only [RepL] at h
    obtain ⟨v, r, e1, h1, h2⟩ := h
    cases d <;> simp only [allBl, Option.map_eq_some_iff, reduceCtorEq] at q
    obtain ⟨ns', q, rfl⟩ := q
    simp only [Rep] at h1
    rw [e1, h1, allBl_rep h2 q]
    rfl
theorem allStr_rep : ∀ {l : List D} {vs : List V} {ns : List Str}, RepL K G l vs → allStr l = some ns → vs = ns.map V.str
  | [], vs, ns, h, q => by
    simp only [RepL] at h
    cases q
    rw [h]
    rfl
  | d :: ds, vs, ns, h, q => by
    simp only [RepL] at h
    obtain ⟨v, r, e1, h1, h2⟩ := h
    cases d <;> simp only [allStr, Option.map_eq_some_iff, reduceCtorEq] at q
    obtain ⟨ns', q, rfl⟩ := q
    simp only [Rep] at h1
    rw [e1, h1, allStr_rep h2 q]
    rfl
theorem RepWs.one {vs : List V} (r : RepWs K G B [a] vs) : ∃ v, vs = [v] ∧ RepW K G B a v := by
  obtain ⟨v, r', e1, h1, h2⟩ := r
  have h2 : r' = [] := h2
  exact ⟨v, by rw [e1, h2], h1⟩
theorem RepWs.two {vs : List V} (r : RepWs K G B [a, b] vs) : ∃ v u, vs = [v, u] ∧ RepW K G B a v ∧ RepW K G B b u := by
  obtain ⟨v, r', e1, h1, h2⟩ := r
  obtain ⟨u, e2, h3⟩ := RepWs.one h2
  exact ⟨v, u, by rw [e1, e2], h1, h3⟩
/-- what is read as a list alone (all, any, sum): no tuple -/
theorem qv_ok {l : List D} (h : qv S a = some l) (s : SimH K Z G B S H) (r : RepW K G B a x) : ∃ p vs, x = .ref p ∧ SqL K.K H p vs ∧ RepL K G l vs := by
  cases a with
  | d z =>
    cases z with
    | lst m =>
      obtain ⟨p, vs, e1, h1, h2, h3⟩ := lv_ok s r (show lv S (.d (.lst m)) = some l from h)
      exact ⟨p, vs, e1, SqL.of h1, h3⟩
    | ro m =>
      simp only [qv, Option.some.injEq] at h
      subst h
      simp only [RepW, Rep] at r
      obtain ⟨p, vs, e1, h1, h2, h3⟩ := r
      exact ⟨p, vs, e1, sub_l s.gh h1, h3⟩
    | _ => simp [qv] at h
  | m i =>
    obtain ⟨p, vs, e1, h1, h2, h3⟩ := lv_ok s r (show lv S (.m i) = some l from h)
    exact ⟨p, vs, e1, SqL.of h1, h3⟩
theorem bi_sound {z : Bool} {f : Bf} {ws : List W} {vs : List V} (s : SimH K Z G B S H) (r : RepWs K G B ws vs) (h : QG K Z (rV K) e σ Wx G B Q (biW z f ws S)) : rdBi K.K f vs H Q := by
  unfold biW at h
  split at h
  · split at h
    · rename_i hz
      obtain ⟨v, e1, r1⟩ := r.one
      simp only [RepW, Rep] at r1
      exact .inl ⟨_, by rw [e1, r1], hz, h.d1 s (by simp only [Rep])⟩
    · exact h.elim
  · obtain ⟨v, e1, r1⟩ := r.one
    obtain ⟨d, e2, h⟩ := h.opt
    simp only [Option.map_eq_some_iff] at e2
    obtain ⟨l, e2, rfl⟩ := e2
    obtain ⟨p, us, e3, h1, h2, h3⟩ := sv_ok s r1 e2
    exact .inr ⟨p, us, by rw [e1, e3], h1, h.d1 s (by simp only [Rep]; rw [h3.length])⟩
  · obtain ⟨v, e1, r1⟩ := r.one
    simp only [RepW, Rep] at r1
    exact ⟨_, by rw [e1, r1], h.d1 s (by simp only [Rep])⟩
  · obtain ⟨v, u, e1, r1, r2⟩ := r.two
    simp only [RepW, Rep] at r1 r2
    exact ⟨_, _, by rw [e1, r1, r2], h.d1 s (by simp only [Rep])⟩
  · obtain ⟨v, u, e1, r1, r2⟩ := r.two
    simp only [RepW, Rep] at r1 r2
    exact ⟨_, _, by rw [e1, r1, r2], h.d1 s (by simp only [Rep])⟩
  · obtain ⟨v, e1, r1⟩ := r.one
    obtain ⟨d, e2, h⟩ := h.opt
    simp only [Option.map_eq_some_iff, Option.bind_eq_some_iff] at e2
    obtain ⟨bs, ⟨l, e2, e3⟩, rfl⟩ := e2
    obtain ⟨p, us, e4, h1, h2⟩ := qv_ok e2 s r1
    have e5 := allBl_rep h2 e3
    exact ⟨p, bs, by rw [e1, e4], by rw [← e5]; exact h1, h.d1 s (by simp only [Rep])⟩
  · obtain ⟨v, e1, r1⟩ := r.one
    obtain ⟨d, e2, h⟩ := h.opt
    simp only [Option.map_eq_some_iff, Option.bind_eq_some_iff] at e2
    obtain ⟨bs, ⟨l, e2, e3⟩, rfl⟩ := e2
    obtain ⟨p, us, e4, h1, h2⟩ := qv_ok e2 s r1
    have e5 := allBl_rep h2 e3
    exact ⟨p, bs, by rw [e1, e4], by rw [← e5]; exact h1, h.d1 s (by simp only [Rep])⟩
  · obtain ⟨v, e1, r1⟩ := r.one
    obtain ⟨d, e2, h⟩ := h.opt
    simp only [Option.map_eq_some_iff, Option.bind_eq_some_iff] at e2
    obtain ⟨bs, ⟨l, e2, e3⟩, rfl⟩ := e2
    obtain ⟨p, us, e4, h1, h2⟩ := qv_ok e2 s r1
    have e5 := allInt_rep h2 e3
    exact ⟨p, bs, by rw [e1, e4], by rw [← e5]; exact h1, h.d1 s (by simp only [Rep])⟩
  · split at h
    · rename_i hz
      obtain ⟨v, e1, r1⟩ := r.one
      simp only [RepW, Rep] at r1
      exact ⟨_, by rw [e1, r1], hz, h.d1 s (by simp only [Rep])⟩
    · exact h.elim
  · obtain ⟨v, e1, r1⟩ := r.one
    simp only [RepW, Rep] at r1
    exact .inl (.inl ⟨_, by rw [e1, r1], h.d1 s (by simp only [Rep])⟩)
  · split at h
    · rename_i hz
      obtain ⟨v, e1, r1⟩ := r.one
      obtain ⟨d, e2, h⟩ := h.opt
      simp only [Option.map_eq_some_iff] at e2
      obtain ⟨n, e2, rfl⟩ := e2
      simp only [RepW, Rep] at r1
      exact .inr ⟨_, n, by rw [e1, r1], e2, hz, h.d1 s (by simp only [Rep])⟩
    · exact h.elim
  · split at h
    · rename_i l hl
      obtain ⟨v, e1, r1⟩ := r.one
      obtain ⟨p, us, e3, h1, h2, h3⟩ := sv_ok s r1 hl
      exact ⟨p, us, by rw [e1, e3], h1, h.mkL s h3 h2⟩
    · exact h.elim
  · exact h.elim

/-! ### isinstance -/
theorem kit_tys : (PySem.W.kitOne [] (.type "bool") (.type "bool") = some true ∧ True) := by
  constructor
  · decide +kernel
  · trivial
theorem kitOne_ty {K : PySem.W.Frag} {t c : String} : PySem.W.kitOne K (.type t) (.type c) = PySem.W.kitOne [] (.type t) (.type c) := by rfl
theorem isi_sound {ty : String} {r : Bool} (s : SimH K Z G B S H) (ra : RepW K G B a x) (h : isiW ty a S = some r) (q : Q (.bl r) H) : rIsi K.K [x, .ty ty] H Q := by
  unfold isiW at h
  split at h
  · simp only [RepW, Rep] at ra
    subst ra
    split at h
    · rename_i e
      subst e
      cases h
      exact ⟨_, _, _, _, _, rfl, .ty _, .base (.bl _), by rw [kitOne_ty]; decide +kernel, q⟩
    · split at h
      · rename_i e
        subst e
        cases h
        exact ⟨_, _, _, _, _, rfl, .ty _, .base (.bl _), by rw [kitOne_ty]; decide +kernel, q⟩
      · split at h
        · rename_i e
          subst e
          cases h
          exact ⟨_, _, _, _, _, rfl, .ty _, .base (.bl _), by rw [kitOne_ty]; decide +kernel, q⟩
        · cases h
  · simp only [RepW, Rep] at ra
    subst ra
    split at h
    · rename_i e
      subst e
      cases h
      exact ⟨_, _, _, _, _, rfl, .ty _, .base (.int _), by rw [kitOne_ty]; decide +kernel, q⟩
    · split at h
      · rename_i e
        subst e
        cases h
        exact ⟨_, _, _, _, _, rfl, .ty _, .base (.int _), by rw [kitOne_ty]; decide +kernel, q⟩
      · split at h
        · rename_i e
          subst e
          cases h
          exact ⟨_, _, _, _, _, rfl, .ty _, .base (.int _), by rw [kitOne_ty]; decide +kernel, q⟩
        · cases h
  · simp only [RepW, Rep] at ra
    obtain ⟨p, vs, e1, h1, _⟩ := ra
    subst e1
    split at h
    · rename_i e
      subst e
      cases h
      exact ⟨_, _, _, _, _, rfl, .ty _, .base (.lst (s.gh _ _ h1)), by rw [kitOne_ty]; decide +kernel, q⟩
    · split at h
      · rename_i e
        subst e
        cases h
        exact ⟨_, _, _, _, _, rfl, .ty _, .base (.lst (s.gh _ _ h1)), by rw [kitOne_ty]; decide +kernel, q⟩
      · cases h
  · split at h
    · rename_i i _ l hl
      obtain ⟨p, vs, e1, h1, h2, h3⟩ := lv_ok (l := l) s ra (by simp only [lv, hl])
      subst e1
      split at h
      · rename_i e
        subst e
        cases h
        exact ⟨_, _, _, _, _, rfl, .ty _, .base (.lst h1), by rw [kitOne_ty]; decide +kernel, q⟩
      · split at h
        · rename_i e
          subst e
          cases h
          exact ⟨_, _, _, _, _, rfl, .ty _, .base (.lst h1), by rw [kitOne_ty]; decide +kernel, q⟩
        · cases h
    · cases h
  · cases h
end
end En

namespace En
open PySem PySem.Spec PyProof.Rows L2
/-! ### methods of built-in types -/
def Mf.T : Mf → String
  | .append => "list" | .pop => "list" | .index => "list" | .join => "str" | .split => "str"
def Mf.name : Mf → Str
  | .append => "append" | .pop => "pop" | .index => "index" | .join => "join" | .split => "split"
def Mf.id : Mf → String
  | .append => "list.append" | .pop => "list.pop" | .index => "list.index" | .join => "str.join" | .split => "str.split"
theorem Mf.pa : ∀ m : Mf, PlainAttrs m.T
  | .append => PySem.F.plainAttrs_list
  | .pop => PySem.F.plainAttrs_list
  | .index => PySem.F.plainAttrs_list
  | .join => PySem.F.plainAttrs_str
  | .split => PySem.F.plainAttrs_str
theorem Mf.slot : ∀ m : Mf, Slot m.T m.name m.id
  | .append => PySem.F.slot_list_append
  | .pop => PySem.F.slot_list_pop
  | .index => PySem.F.slot_list_index
  | .join => PySem.F.slot_str_join
  | .split => PySem.F.slot_str_split
theorem Mf.md : ∀ m : Mf, typeOf (.builtin m.id) = pure (.type "method_descriptor")
  | .append => PySem.F.type_list_append
  | .pop => PySem.F.type_list_pop
  | .index => PySem.F.type_list_index
  | .join => PySem.F.type_str_join
  | .split => PySem.F.type_str_split
def rJoinQ (K : PySem.W.Frag) : V → List V → Hp → VK → Prop := fun x xs H Q => ∃ a p, ∃ ys : List Str, x = .str a ∧ xs = [.ref p] ∧ (SqL K H p (ys.map V.str) ∨ SqT K H p (ys.map V.str)) ∧
  (ys.map (·.length)).sum + ys.length * a.length ≤ 16777216 ∧ Q (.str (Txt.join a ys)) H
def rSplitQ : V → List V → Hp → VK → Prop := fun x xs H Q => ∃ a b, x = .str a ∧ xs = [.str b] ∧ (b.length == 0) = false ∧ a.length + 2 ≤ sizeLine ∧ rNewStrs (Txt.split a b) H Q
def rdMe (K : PySem.W.Frag) : Mf → V → List V → Hp → VK → Prop
  | .append => rAppend
  | .join => rJoinQ K
  | .split => rSplitQ
  | _ => fun _ _ _ _ => False
theorem opr_me {X : Cx} : ∀ m : Mf, MtR X m.id (rdMe X.K m)
  | .append => mt_append
  | .join => mt_join
  | .split => mt_split
  | .pop => fun _ _ _ _ _ _ _ _ _ _ _ _ h => h.elim
  | .index => fun _ _ _ _ _ _ _ _ _ _ _ _ h => h.elim
section
variable {K : KW} {Z : Ent} {G H : Hp} {B : List Addr} {S : Sto} {a b : W} {x y : V} {e : Env'} {σ : L2.St} {Wx : WX} {Q : VK}
theorem meTy_ok {m : Mf} (s : SimH K Z G B S H) (ra : RepW K G B a x) (h : meTy S m a = true) : tyV K.K m.T x H := by
  have lst : (lv S a).isSome = true → tyV K.K "list" x H := fun q => by
    cases e : lv S a with
    | none =>
      rw [e] at q
      cases q
    | some l =>
      obtain ⟨p, vs, e1, h1, h2, h3⟩ := lv_ok s ra e
      subst e1
      exact .inl ⟨rfl, vs, SqL.of h1⟩
  have txt : ∀ z, a = .d (.str z) → tyV K.K "str" x H := fun z q => by
    subst q
    simp only [RepW, Rep] at ra
    subst ra
    exact rfl
  unfold meTy at h
  split at h
  · exact lst h
  · exact lst h
  · exact lst h
  · exact txt _ rfl
  · exact txt _ rfl
  · cases h
theorem strs_rep : ∀ {ys : List Str}, RepL K G (ys.map .str) (ys.map V.str)
  | [] => by simp [RepL]
  | y :: ys => ⟨.str y, ys.map V.str, rfl, by simp only [Rep], strs_rep⟩
theorem splits_len (a b : Str) (h : a.length + 2 ≤ sizeLine) : ((Txt.split a b).map V.str).length ≤ sizeLine := by
  rw [List.length_map]
  exact Nat.le_trans (PyProof.Rows.split_le a b) h
theorem me_sound {z : Bool} {m : Mf} {ws : List W} {vs : List V} (s : SimH K Z G B S H) (ra : RepW K G B a x) (r : RepWs K G B ws vs) (h : QG K Z (rV K) e σ Wx G B Q (meW z m a ws S)) : rdMe K.K m x vs H Q := by
  unfold meW at h
  split at h
  · split at h
    · rename_i i d _ l hl
      split at h
      · rename_i hz
        obtain ⟨p, hp, e1⟩ := ra
        obtain ⟨v, e2, r1⟩ := r.one
        obtain ⟨p', f1, f2, f3, f4⟩ := s.ob i _ hl
        rw [hp] at f1
        cases f1
        obtain ⟨us, g1, g2, g3⟩ := f3
        have e3 := g3.length
        refine ⟨p, us, v, e1, e2, g1, by omega, ?_⟩
        refine h .non _ _ _ (s.set hl hp ⟨us ++ [v], upd_same, ?_, ?_⟩) (Ext.refl G B) (by simp only [rV, RepW, Rep])
        · rw [List.length_append, List.length_singleton]
          omega
        · exact g3.append ⟨v, [], rfl, r1, by simp only [RepL]⟩
      · exact h.elim
    · exact h.elim
  · split at h
    · rename_i ys hys
      split at h
      · rename_i hz
        simp only [RepW, Rep] at ra
        obtain ⟨v, e2, r1⟩ := r.one
        simp only [Option.bind_eq_some_iff] at hys
        obtain ⟨l, hl, hys⟩ := hys
        obtain ⟨p, us, e3, h1, h2, h3⟩ := sv_ok s r1 hl
        have e4 := allStr_rep h3 hys
        exact ⟨_, p, ys, ra, by rw [e2, e3], by rw [← e4]; exact h1, hz, h.d1 s (by simp only [Rep])⟩
      · exact h.elim
    · exact h.elim
  · split at h
    · rename_i hz
      simp only [RepW, Rep] at ra
      obtain ⟨v, e2, r1⟩ := r.one
      simp only [RepW, Rep] at r1
      exact ⟨_, _, ra, by rw [e2, r1], by simpa using hz.1, hz.2, h.mkL s strs_rep (splits_len _ _ hz.2)⟩
    · exact h.elim
  · exact h.elim
end

/-! ### calls -/
section
variable {K : KW} {Z : Ent} {G H : Hp} {B : List Addr} {S : Sto} {e : Env'} {σ : L2.St} {Wx : WX} {Q : VK}
/-- what a def promises: its meaning F over the things at B -/
def spF (K : KW) (F : Fn) : Sp := fun vs H Q E => ∃ (G : Hp) (B : List Addr) (ws : List W) (S : Sto) (L : Addr → Prop), RepWs K G B ws vs ∧ SimH K ⟨H, G, L, B⟩ G B S H ∧ (∀ a, L a ↔ ∃ (i : Nat) (o : Ob), S[i]? = some (some o) ∧ B[i]? = some a) ∧
  match F ws S with
  | .ok w S' => ∀ v H' G' B', SimH K ⟨H, G, L, B⟩ G' B' S' H' → Ext G B G' B' → RepW K G' B' w v → Q v H'
  | .ex c ns l S' => ∀ cls d H' G' B', SimH K ⟨H, G, L, B⟩ G' B' S' H' → Ext G B G' B' → RepX K G' cls d c ns l → E cls d H'
  | .st => False
end
end En

namespace En
open PySem PySem.Spec PyProof.Rows L2
/-! ### written back -/
theorem wbS_len : ∀ {js : List Nat} {S r : Sto}, js.length ≤ r.length → (wbS S js r).length = S.length + (r.length - js.length)
  | [], S, r, _ => by simp [wbS]
  | j :: js, S, [], h => by simp at h
  | j :: js, S, o :: r, h => by
    unfold wbS
    rw [wbS_len (by simpa using h)]
    simp
theorem wbS_old : ∀ {js : List Nat} {S r : Sto} {i : Nat}, js.length ≤ r.length → i < S.length → i ∉ js → (wbS S js r)[i]? = S[i]?
  | [], S, r, i, _, hi, _ => by
    unfold wbS
    rw [List.getElem?_append_left hi]
  | j :: js, S, [], i, h, _, _ => by simp at h
  | j :: js, S, o :: r, i, h, hi, hn => by
    unfold wbS
    rw [wbS_old (by simpa using h) (by simpa using hi) (fun z => hn (List.mem_cons_of_mem _ z))]
    exact List.getElem?_set_ne fun z => hn (by rw [← z]; exact List.mem_cons_self)
theorem wbS_js : ∀ {js : List Nat} {S r : Sto} {k j : Nat}, js.length ≤ r.length → js.Nodup → (∀ i ∈ js, i < S.length) → js[k]? = some j → (wbS S js r)[j]? = r[k]?
  | [], S, r, k, j, _, _, _, e => by simp at e
  | i :: js, S, [], k, j, h, _, _, _ => by simp at h
  | i :: js, S, o :: r, 0, j, h, nd, lt, e => by
    simp at e
    subst e
    unfold wbS
    rw [wbS_old (by simpa using h) (by simpa using lt i List.mem_cons_self) (List.nodup_cons.mp nd).1]
    rw [List.getElem?_set_self (lt i List.mem_cons_self)]
    rfl
  | i :: js, S, o :: r, k + 1, j, h, nd, lt, e => by
    unfold wbS
    rw [wbS_js (k := k) (by simpa using h) (List.nodup_cons.mp nd).2 (fun x hx => by simpa using lt x (List.mem_cons_of_mem _ hx)) (by simpa using e)]
    rfl
theorem wbS_new : ∀ {js : List Nat} {S r : Sto} {t : Nat}, js.length ≤ r.length → (wbS S js r)[S.length + t]? = r[js.length + t]?
  | [], S, r, t, _ => by
    unfold wbS
    rw [List.getElem?_append_right (Nat.le_add_right _ _)]
    simp
  | j :: js, S, [], t, h => by simp at h
  | j :: js, S, o :: r, t, h => by
    unfold wbS
    have q := wbS_new (js := js) (S := S.set j o) (r := r) (t := t) (by simpa using h)
    rw [List.length_set] at q
    rw [q, List.length_cons, show js.length + 1 + t = (js.length + t) + 1 by omega]
    rfl
/-- the addresses of these places -/
def subB (B : List Addr) : List Nat → List Addr
  | [] => []
  | j :: js => B.getD j 0 :: subB B js
theorem subB_len {B : List Addr} : ∀ {js : List Nat}, (subB B js).length = js.length
  | [] => rfl
  | j :: js => by simp [subB, subB_len]
theorem subB_get {B : List Addr} : ∀ {js : List Nat} {k j : Nat} {a : Addr}, js[k]? = some j → B[j]? = some a → (subB B js)[k]? = some a
  | [], k, j, a, e, _ => by simp at e
  | i :: js, 0, j, a, e, h => by
    simp at e
    subst e
    simp [subB, h]
  | i :: js, k + 1, j, a, e, h => by
    have q := subB_get (k := k) (js := js) (by simpa using e) h
    simpa [subB] using q
theorem subB_inv {B : List Addr} : ∀ {js : List Nat} {k : Nat} {a : Addr}, (subB B js)[k]? = some a → ∃ j, js[k]? = some j ∧ B.getD j 0 = a
  | [], k, a, e => by simp [subB] at e
  | i :: js, 0, a, e => by
    simp [subB] at e
    exact ⟨i, rfl, by simpa using e⟩
  | i :: js, k + 1, a, e => by
    obtain ⟨j, h1, h2⟩ := subB_inv (js := js) (k := k) (by simpa [subB] using e)
    exact ⟨j, by simpa using h1, h2⟩
theorem subS_get : ∀ {js : List Nat} {S Sc : Sto}, subS S js = some Sc → Sc.length = js.length ∧ ∀ k j : Nat, js[k]? = some j → ∃ l, S[j]? = some (some (Ob.lst l)) ∧ Sc[k]? = some (some (Ob.lst l))
  | [], S, Sc, h => by
    simp only [subS, Option.some.injEq] at h
    subst h
    exact ⟨rfl, fun k j e => by simp at e⟩
  | i :: js, S, Sc, h => by
    simp only [subS] at h
    split at h
    · rename_i o ho
      split at h
      · rename_i u l hu hl
        cases h
        cases o <;> simp only [renO, Option.some.injEq, reduceCtorEq] at hu
        rename_i m
        subst hu
        obtain ⟨h1, h2⟩ := subS_get hl
        refine ⟨by simp [h1], fun k j e => ?_⟩
        cases k with
        | zero =>
          simp at e
          subst e
          exact ⟨m, ho, rfl⟩
        | succ k =>
          obtain ⟨l', q1, q2⟩ := h2 k j (by simpa using e)
          exact ⟨l', q1, by simpa using q2⟩
      · cases h
    · cases h
theorem idxOf_get : ∀ {js : List Nat} {i k : Nat}, js.idxOf? i = some k → js[k]? = some i := by
  intro js
  induction js with
  | nil => intro i k h; simp [List.idxOf?] at h
  | cons j js ih =>
    intro i k h
    unfold List.idxOf? at h
    rw [List.findIdx?_cons] at h
    by_cases e : (j == i) = true
    · rw [if_pos e] at h
      cases h
      rw [eq_of_beq e]
      rfl
    · rw [if_neg e] at h
      simp only [Option.map_eq_some_iff] at h
      obtain ⟨k', h, rfl⟩ := h
      simpa using ih (i := i) (k := k') h
theorem nodup_at : ∀ {js : List Nat} {i j : Nat}, js.Nodup → (hi : i < js.length) → (hj : j < js.length) → js[i] = js[j] → i = j
  | [], i, j, _, hi, _, _ => by simp at hi
  | x :: js, 0, 0, _, _, _, _ => rfl
  | x :: js, 0, j + 1, nd, _, hj, e => by
    exfalso
    exact (List.nodup_cons.mp nd).1 (by
      have e : x = js[j]'(by simpa using hj) := e
      rw [e]
      exact List.getElem_mem _)
  | x :: js, i + 1, 0, nd, hi, _, e => by
    exfalso
    exact (List.nodup_cons.mp nd).1 (by
      have e : js[i]'(by simpa using hi) = x := e
      rw [← e]
      exact List.getElem_mem _)
  | x :: js, i + 1, j + 1, nd, hi, hj, e => by rw [nodup_at (List.nodup_cons.mp nd).2 (by simpa using hi) (by simpa using hj) e]
section
variable {K : KW} {G : Hp} {B : List Addr}
theorem renWs_rep {js : List Nat} : ∀ {ws us : List W} {vs : List V}, RepWs K G B ws vs → renWs js ws = some us → RepWs K G (subB B js) us vs
  | [], us, vs, h, e => by
    simp only [renWs, Option.some.injEq] at e
    subst e
    exact h
  | w :: ws, us, vs, h, e => by
    obtain ⟨v, r, e1, h1, h2⟩ := h
    simp only [renWs] at e
    split at e
    · rename_i x l hx hl
      cases e
      refine ⟨v, r, e1, ?_, renWs_rep h2 hl⟩
      cases w with
      | d y =>
        simp only [renW, Option.some.injEq] at hx
        subst hx
        exact h1
      | m i =>
        simp only [renW, Option.map_eq_some_iff] at hx
        obtain ⟨k, hk, rfl⟩ := hx
        obtain ⟨a, g1, g2⟩ := h1
        exact ⟨a, subB_get (idxOf_get hk) g1, g2⟩
    · cases e
/-- a flat object leans on no place -/
theorem ObR.flat {B' : List Addr} {H : Hp} {a : Addr} : ∀ {o : Ob}, flatS [some o] = true → ObR K G B H a o → ObR K G B' H a o
  | .lst l, _, h => h
  | .dk ks l, _, h => h
  | .mat l, f, _ => by simp [flatS] at f
  | .ins c ns l, f, _ => by simp [flatS] at f
theorem flat_at {S : Sto} {i : Nat} {o : Ob} (f : flatS S = true) (h : S[i]? = some (some o)) : flatS [some o] = true := by
  unfold flatS at f ⊢
  have q := List.all_eq_true.mp f _ (List.mem_of_getElem? h)
  simpa using q
/-- the state behind a call -/
theorem SimH.back {Z : Ent} {S S' Sc : Sto} {H H' G' : Hp} {B' : List Addr} {js : List Nat} {L : Addr → Prop} (s : SimH K Z G B S H) (nd : js.Nodup) (hs : subS S js = some Sc) (hL : ∀ a, L a ↔ ∃ (i : Nat) (o : Ob), Sc[i]? = some (some o) ∧ (subB B js)[i]? = some a)
    (c : SimH K ⟨H, G, L, subB B js⟩ G' B' S' H') (x : Ext G (subB B js) G' B') (f : flatS S' = true) (hl : js.length ≤ S'.length) :
    SimH K Z G' (B ++ B'.drop js.length) (wbS S js S') H' ∧ Ext G B G' (B ++ B'.drop js.length) ∧ ∀ (w : W) (v : V), RepW K G' B' w v → RepW K G' (B ++ B'.drop js.length) (wbW S.length js w) v := by
  obtain ⟨l1, l2⟩ := subS_get hs
  have lt : ∀ i ∈ js, i < S.length := fun i hi => by
    obtain ⟨k, hk⟩ := List.mem_iff_getElem?.mp hi
    obtain ⟨l, q, _⟩ := l2 k i hk
    exact (List.getElem?_eq_some_iff.mp q).1
  -- what L says
  have Lat : ∀ a, L a → ∃ j l, j ∈ js ∧ S[j]? = some (some (.lst l)) ∧ B[j]? = some a := fun a h => by
    obtain ⟨i, o, q1, q2⟩ := (hL a).mp h
    obtain ⟨j, e1, e2⟩ := subB_inv q2
    obtain ⟨l, e3, _⟩ := l2 i j e1
    obtain ⟨a', e4, _⟩ := s.ob j _ e3
    refine ⟨j, l, List.mem_of_getElem? e1, e3, ?_⟩
    rw [e4]
    rw [List.getD_eq_getElem?_getD, e4] at e2
    exact congrArg some e2
  have LZ : ∀ a, L a → Z.L a ∨ Z.H a = none := fun a h => by
    obtain ⟨j, l, _, e3, e4⟩ := Lat a h
    obtain ⟨a', e5, _, _, e6⟩ := s.ob j _ e3
    rw [e4] at e5
    cases e5
    exact e6
  obtain ⟨t, eB⟩ := x.pre
  have Bk : ∀ k j : Nat, ∀ a, js[k]? = some j → B[j]? = some a → B'[k]? = some a := fun k j a h1 h2 => by
    rw [eB]
    exact pre_get (subB_get h1 h2)
  have Bn : ∀ k a, (B ++ B'.drop js.length)[S.length + k]? = some a ↔ B'[js.length + k]? = some a := fun k a => by
    rw [← s.len, List.getElem?_append_right (Nat.le_add_right _ _)]
    simp [List.getElem?_drop]
  have lB' : B'.length = S'.length := c.len
  have x2 : Ext G B G' (B ++ B'.drop js.length) := ⟨x.sub, _, rfl⟩
  -- the three kinds of places
  have kinds : ∀ (i : Nat) (o : Ob), (wbS S js S')[i]? = some (some o) → (i < S.length ∧ i ∉ js ∧ S[i]? = some (some o)) ∨ (∃ k : Nat, js[k]? = some i ∧ S'[k]? = some (some o)) ∨ ∃ k, i = S.length + k ∧ S'[js.length + k]? = some (some o) := fun i o h => by
    by_cases hi : i < S.length
    · by_cases hm : i ∈ js
      · obtain ⟨k, hk⟩ := List.mem_iff_getElem?.mp hm
        rw [wbS_js hl nd lt hk] at h
        exact .inr (.inl ⟨k, hk, h⟩)
      · rw [wbS_old hl hi hm] at h
        exact .inl ⟨hi, hm, h⟩
    · obtain ⟨k, rfl⟩ : ∃ k, i = S.length + k := ⟨i - S.length, by omega⟩
      rw [wbS_new hl] at h
      exact .inr (.inr ⟨k, rfl, h⟩)
  have oldA : ∀ (i : Nat) (o : Ob), i ∉ js → S[i]? = some (some o) → ∃ a, B[i]? = some a ∧ G a = none ∧ ObR K G B H a o ∧ (Z.L a ∨ Z.H a = none) ∧ ¬ L a := fun i o hn h => by
    obtain ⟨a, e1, e2, e3, e4⟩ := s.ob i o h
    refine ⟨a, e1, e2, e3, e4, fun q => ?_⟩
    obtain ⟨j, l, hj, e5, e6⟩ := Lat a q
    exact hn (s.inj i j o _ a h e5 e1 e6 ▸ hj)
  have Bl : ∀ (i : Nat) (a : Addr), B[i]? = some a → (B ++ B'.drop js.length)[i]? = some a := fun i a h => pre_get h
  refine ⟨⟨c.gh, ?_, fun i o h => ?_, fun i j o u a h1 h2 b1 b2 => ?_, fun a o q1 q2 => ?_, fun a q1 q2 => ?_, s.mono.trans x.sub, fun a q => c.dom a (s.dom a q), s.pre_app _⟩, x2, fun w v r => ?_⟩
  · rw [wbS_len hl, List.length_append, List.length_drop, s.len, lB']
  · rcases kinds i o h with ⟨hi, hn, p⟩ | ⟨k, hk, p⟩ | ⟨k, ek, p⟩
    · obtain ⟨a, e1, e2, e3, e4, e5⟩ := oldA i o hn p
      obtain ⟨ho, hho⟩ := e3.there
      have g' : G' a = none := by
        rw [c.fg a (by show H a ≠ none; rw [hho]; intro z; cases z) e5]
        exact e2
      exact ⟨a, Bl i a e1, g', e3.keep x2 fun o' q => c.fr a o' q e5, e4⟩
    · obtain ⟨l, e3, _⟩ := l2 k i hk
      obtain ⟨a, e4, _, _, e6⟩ := s.ob i _ e3
      obtain ⟨a', f1, f2, f3, f4⟩ := c.ob k o p
      rw [Bk k i a hk e4] at f1
      cases f1
      exact ⟨a, Bl i a e4, f2, f3.flat (flat_at f p), e6⟩
    · obtain ⟨a, f1, f2, f3, f4⟩ := c.ob _ o p
      refine ⟨a, by rw [ek]; exact (Bn k a).mpr f1, f2, f3.flat (flat_at f p), ?_⟩
      rcases f4 with f4 | f4
      · exact LZ a f4
      · refine .inr ?_
        cases q : Z.H a with
        | none => rfl
        | some u => exact absurd (show H a = none from f4) (s.dom a (by rw [q]; intro z; cases z))
  · have newNo : ∀ (i k : Nat) (o u : Ob), i ∉ js → S[i]? = some (some o) → B[i]? = some a → S'[js.length + k]? = some (some u) → B'[js.length + k]? = some a → False := fun i k o u hn h e1 h' f1 => by
      obtain ⟨a', g1, g2, g3, g4, g5⟩ := oldA i o hn h
      rw [e1] at g1
      cases g1
      obtain ⟨a', f1', f2, f3, f4⟩ := c.ob _ u h'
      rw [f1] at f1'
      cases f1'
      rcases f4 with f4 | f4
      · exact g5 f4
      · obtain ⟨ho, hho⟩ := g3.there
        rw [show H a = none from f4] at hho
        cases hho
    have Bo : ∀ i : Nat, i < S.length → (B ++ B'.drop js.length)[i]? = some a → B[i]? = some a := fun i hi q => by
      rw [List.getElem?_append_left (by rw [s.len]; exact hi)] at q
      exact q
    rcases kinds i o h1 with ⟨hi, hn, p1⟩ | ⟨k, hk, p1⟩ | ⟨k, e1, p1⟩
    · rcases kinds j u h2 with ⟨hj, hm, p2⟩ | ⟨k', hk', p2⟩ | ⟨k', e2, p2⟩
      · exact s.inj i j o u a p1 p2 (Bo i hi b1) (Bo j hj b2)
      · obtain ⟨l, e3, _⟩ := l2 k' j hk'
        exact s.inj i j o _ a p1 e3 (Bo i hi b1) (Bo j (lt j (List.mem_of_getElem? hk')) b2)
      · rw [e2] at b2
        exact (newNo i k' o u hn p1 (Bo i hi b1) p2 ((Bn k' a).mp b2)).elim
    · have bi := Bo i (lt i (List.mem_of_getElem? hk)) b1
      rcases kinds j u h2 with ⟨hj, hm, p2⟩ | ⟨k', hk', p2⟩ | ⟨k', e2, p2⟩
      · obtain ⟨l, e3, _⟩ := l2 k i hk
        exact s.inj i j _ u a e3 p2 bi (Bo j hj b2)
      · have bj := Bo j (lt j (List.mem_of_getElem? hk')) b2
        have := c.inj k k' o u a p1 p2 (Bk k i a hk bi) (Bk k' j a hk' bj)
        subst this
        rw [hk] at hk'
        exact Option.some.inj hk'
      · rw [e2] at b2
        have := c.inj k _ o u a p1 p2 (Bk k i a hk bi) ((Bn k' a).mp b2)
        have : k < js.length := (List.getElem?_eq_some_iff.mp hk).1
        omega
    · rw [e1] at b1
      have bi := (Bn k a).mp b1
      rcases kinds j u h2 with ⟨hj, hm, p2⟩ | ⟨k', hk', p2⟩ | ⟨k', e2, p2⟩
      · exact (newNo j k u o hm p2 (Bo j hj b2) p1 bi).elim
      · have bj := Bo j (lt j (List.mem_of_getElem? hk')) b2
        have := c.inj _ k' o u a p1 p2 bi (Bk k' j a hk' bj)
        have : k' < js.length := (List.getElem?_eq_some_iff.mp hk').1
        omega
      · rw [e2] at b2
        have := c.inj _ _ o u a p1 p2 bi ((Bn k' a).mp b2)
        omega
  · refine c.fr a o (s.fr a o q1 q2) fun q => ?_
    rcases LZ a q with z | z
    · exact q2 z
    · rw [z] at q1
      cases q1
  · rw [c.fg a (s.dom a q1) fun q => ?_]
    · exact s.fg a q1 q2
    · rcases LZ a q with z | z
      · exact q2 z
      · exact q1 z
  · cases w with
    | d y => exact r
    | m i =>
      obtain ⟨a, r1, r2⟩ := r
      cases e : js[i]? with
      | some j =>
        have ew : wbW S.length js (.m i) = .m j := by simp only [wbW, e]
        rw [ew]
        have hi : i < js.length := (List.getElem?_eq_some_iff.mp e).1
        refine ⟨a, ?_, r2⟩
        obtain ⟨l, e3, _⟩ := l2 i j e
        obtain ⟨a', e4, _⟩ := s.ob j _ e3
        have := Bk i j a' e e4
        rw [r1] at this
        cases this
        exact Bl j a e4
      | none =>
        have ew : wbW S.length js (.m i) = .m (S.length + (i - js.length)) := by simp only [wbW, e]
        rw [ew]
        have hi : js.length ≤ i := List.getElem?_eq_none_iff.mp e
        refine ⟨a, (Bn (i - js.length) a).mpr ?_, r2⟩
        rw [show js.length + (i - js.length) = i by omega]
        exact r1
variable {Z : Ent} {S : Sto} {H : Hp} {e : Env'} {σ : L2.St} {Wx : WX} {Q : VK}
/-- THE CALL -/
theorem call_sound {F : Fn} {ws : List W} {vs : List V} {ps : List Pl} (s : SimH K Z G B S H) (r : RepWs K G B ws vs) (h : QG K Z (rV K) e σ Wx G B Q (callF F ws e ps S)) : spF K F vs H Q (fun cls d H' => Wx cls d σ H') := by
  unfold callF at h
  split at h
  · exact h.elim
  · rename_i js hjs
    split at h
    · rename_i nd
      split at h
      · rename_i us Sc hu hS
        obtain ⟨l1, l2⟩ := subS_get hS
        refine ⟨G, subB B js, us, Sc, (fun a => ∃ (i : Nat) (o : Ob), Sc[i]? = some (some o) ∧ (subB B js)[i]? = some a), renWs_rep r hu, ?_, fun a => Iff.rfl, ?_⟩
        · refine ⟨s.gh, by rw [subB_len, l1], fun i o q => ?_, fun i j o u a q1 q2 b1 b2 => ?_, fun a o q _ => q, fun a _ _ => rfl, Sub.refl G, fun a q => q, [], by simp⟩
          · have hi : i < js.length := by rw [← l1]; exact (List.getElem?_eq_some_iff.mp q).1
            obtain ⟨l, e1, e2⟩ := l2 i js[i] (List.getElem?_eq_getElem hi)
            rw [q] at e2
            cases e2
            obtain ⟨a, f1, f2, f3, f4⟩ := s.ob _ _ e1
            have g := subB_get (List.getElem?_eq_getElem hi) f1
            exact ⟨a, g, f2, f3, .inl ⟨i, _, q, g⟩⟩
          · have hi : i < js.length := by rw [← l1]; exact (List.getElem?_eq_some_iff.mp q1).1
            have hj : j < js.length := by rw [← l1]; exact (List.getElem?_eq_some_iff.mp q2).1
            obtain ⟨l, e1, _⟩ := l2 i js[i] (List.getElem?_eq_getElem hi)
            obtain ⟨m, e2, _⟩ := l2 j js[j] (List.getElem?_eq_getElem hj)
            obtain ⟨a1, f1, _⟩ := s.ob _ _ e1
            obtain ⟨a2, f2, _⟩ := s.ob _ _ e2
            rw [subB_get (List.getElem?_eq_getElem hi) f1] at b1
            rw [subB_get (List.getElem?_eq_getElem hj) f2] at b2
            cases b1
            cases b2
            have := s.inj _ _ _ _ a e1 e2 f1 f2
            exact nodup_at nd hi hj this
        · cases hF : F us Sc with
          | ok w S' =>
            rw [hF] at h
            simp only at h
            split at h
            · rename_i fl
              rw [Bool.and_eq_true, decide_eq_true_eq] at fl
              intro v H' G' B' c x rw'
              obtain ⟨c1, c2, c3⟩ := s.back nd hS (fun a => Iff.rfl) c x fl.1 fl.2
              exact h v H' G' _ c1 c2 (c3 w v rw')
            · exact h.elim
          | ex c' ns l S' =>
            rw [hF] at h
            simp only at h
            split at h
            · rename_i fl
              rw [Bool.and_eq_true, decide_eq_true_eq] at fl
              intro cls d H' G' B' c x rx
              obtain ⟨c1, c2, _⟩ := s.back nd hS (fun a => Iff.rfl) c x fl.1 fl.2
              exact h cls d H' G' _ c1 c2 rx
            · exact h.elim
          | st =>
            rw [hF] at h
            exact h.elim
      · exact h.elim
    · exact h.elim
end
end En

namespace En
open PySem PySem.Spec PyProof.Rows L2
theorem PI.imp {X : Cx} {tg it : Expr} {t t' : TI} (h : PI X tg it t) (k : ∀ σ H Q, t' σ H Q → t σ H Q) : PI X tg it t' := ⟨fun pins s σ H Q I q => h.run pins s σ H Q I (k σ H Q q)⟩
theorem PG.imp {X : Cx} {tg : Expr} {t t' : TG} (h : PG X tg t) (k : ∀ v σ H Q, t' v σ H Q → t v σ H Q) : PG X tg t' := ⟨fun pins s σ H v u Q I r q => h.run pins s σ H v u Q I r (k v σ H Q q)⟩
theorem PGs.imp {X : Cx} {tg : List Expr} {t t' : TGs} (h : PGs X tg t) (k : ∀ v σ H Q, t' v σ H Q → t v σ H Q) : PGs X tg t' := ⟨fun pins s σ H v u Q I r q => h.run pins s σ H v u Q I r (k v σ H Q q)⟩
theorem PTs.imp {X : Cx} {e : List Expr} {t t' : TT} (h : PTs X e t) (k : ∀ σ H Q, t' σ H Q → t σ H Q) : PTs X e t' := ⟨fun pins s σ H Q I q => h.run pins s σ H Q I (k σ H Q q)⟩

section
variable (K : KW) (Z : Ent) (Wx : WX)
/-- the walked thing yields these items -/
def ItOk (J : It) (G1 : Hp) (ws : List W) : Prop := ∀ (Z : Ent) (G H : Hp) (B : List Addr) (S : Sto), Sub G1 G → SimH K Z G B S H →
  J.stop ws.length H ∧ ∀ (i : Nat) (w : W), ws[i]? = some w → J.go i H ∧ ∀ x H', J.yld i H x H' → ∃ G', SimH K Z G' B S H' ∧ Ext G B G' B ∧ RepW K G' B w x
def rI : Hp → List Addr → List W → It → Prop := fun G _ ws J => ItOk K J G ws
/-- the slots beside ts stand -/
def Beside (ts : List Nat) (σ σ1 : L2.St) : Prop := σ1.length = σ.length ∧ ∀ i : Nat, i ∉ ts → σ1[i]? = σ[i]?
/-- a target's reading -/
def tgR (ts : List Nat) (f : W → Env' → Sto → Option Env') : TG := fun v σ H Q => ∃ G B e S w e1, Sim K Z G B e S σ H ∧ RepW K G B w v ∧ f w e S = some e1 ∧ ∀ σ1, Slots K G B e1 σ1 → Beside ts σ σ1 → Q σ1 H
def tgL (ts : List Nat) (f : List D → Env' → Sto → Option Env') : TGs := fun vs σ H Q => ∃ G B e S ds e1, Sim K Z G B e S σ H ∧ RepL K G ds vs ∧ f ds e S = some e1 ∧ ∀ σ1, Slots K G B e1 σ1 → Beside ts σ σ1 → Q σ1 H
/-- what is wanted of a statement's end -/
def QS (G0 : Hp) (D : Ends) : SR → Prop
  | .nx e S => ∀ σ H G B, Sim K Z G B e S σ H → Sub G0 G → D.nx σ H
  | .rt w S => ∀ v H G B, SimH K Z G B S H → Sub G0 G → RepW K G B w v → D.rt v H
  | .bk e S => ∀ σ H G B, Sim K Z G B e S σ H → Sub G0 G → D.bk σ H
  | .ct e S => ∀ σ H G B, Sim K Z G B e S σ H → Sub G0 G → D.ct σ H
  | .ex c ns l e S => ∀ cls d σ H G B, Sim K Z G B e S σ H → Sub G0 G → RepX K G cls d c ns l → Wx cls d σ H
  | .st => False
def tS (f : Env' → Sto → SR) : TS := fun D σ H => ∃ G B e S, Sim K Z G B e S σ H ∧ QS K Z Wx G D (f e S)
end
section
variable {K : KW} {Z : Ent} {Wx : WX} {G G0 : Hp} {B : List Addr} {D : Ends} {e : Env'} {σ : L2.St} {H : Hp} {S : Sto}
theorem QS.sub {G1 : Hp} (x : Sub G0 G1) : ∀ {r : SR}, QS K Z Wx G0 D r → QS K Z Wx G1 D r
  | .nx e S, h => fun σ H G B s y => h σ H G B s (x.trans y)
  | .rt w S, h => fun v H G B s y => h v H G B s (x.trans y)
  | .bk e S, h => fun σ H G B s y => h σ H G B s (x.trans y)
  | .ct e S, h => fun σ H G B s y => h σ H G B s (x.trans y)
  | .ex c ns l e S, h => fun cls d σ H G B s y => h cls d σ H G B s (x.trans y)
  | .st, h => h
/-- an expression, then the rest of its statement -/
theorem QG.sr {α γ : Type} {rep : Hp → List Addr → α → γ → Prop} {Q : γ → Hp → Prop} {g : α → Sto → SR} (sl : Slots K G B e σ) : ∀ {r : R α}, QS K Z Wx G D (r.sr e g) →
    (∀ x H1 G1 B1 w S1, SimH K Z G1 B1 S1 H1 → Ext G B G1 B1 → rep G1 B1 w x → QS K Z Wx G1 D (g w S1) → Q x H1) → QG K Z rep e σ Wx G B Q r
  | .ok w S', h, k => fun v H' G' B' s x r => k v H' G' B' w S' s x r (QS.sub x.sub h)
  | .ex c ns l S', h, k => fun cls d H' G' B' s x rx => h cls d σ H' G' B' ⟨s, sl.mono x⟩ x.sub rx
  | .st, h, k => h
theorem Sim.at {G' : Hp} {B' : List Addr} {S' : Sto} {H' : Hp} (s : Sim K Z G B e S σ H) (h : SimH K Z G' B' S' H') (x : Ext G B G' B') : Sim K Z G' B' e S' σ H' := ⟨h, s.s.mono x⟩
theorem QG.noX {α γ : Type} {rep : Hp → List Addr → α → γ → Prop} {Q : γ → Hp → Prop} : ∀ {r : R α}, QG K Z rep e σ (fun _ _ _ _ => False) G B Q r → QG K Z rep e σ Wx G B Q r
  | .ok w S', h => h
  | .ex c ns l S', h => fun cls d H' G' B' s x r => (h cls d H' G' B' s x r).elim
  | .st, h => h
end

/-! ### statements -/
section
variable {X : Cx} {Z : Ent} {Wx : WX} {t : Tb}
abbrev KX (X : Cx) : KW := ⟨X.K, X.w⟩
abbrev RE (X : Cx) (Z : Ent) (Wx : WX) (f : Env' → Sto → R W) : TE := tG (KX X) Z (rV (KX X)) Wx f
abbrev RA (X : Cx) (Z : Ent) (Wx : WX) (f : Env' → Sto → R (List W)) : TA := tG (KX X) Z (rVs (KX X)) Wx f
abbrev RT (X : Cx) (Z : Ent) (Wx : WX) (f : Env' → Sto → R Bool) : TT := tG (KX X) Z rB Wx f
abbrev RO (X : Cx) (Z : Ent) (Wx : WX) (f : Env' → Sto → R (Option Int)) : TO := tG (KX X) Z rO Wx f
abbrev RI (X : Cx) (Z : Ent) (Wx : WX) (f : Env' → Sto → R (List W)) : TI := tG (KX X) Z (rI (KX X)) Wx f
abbrev RS (X : Cx) (Z : Ent) (Wx : WX) (f : Env' → Sto → SR) : TS := tS (KX X) Z Wx f

/-- the names' slots forgotten -/
theorem Slots.wipe {K : KW} {G : Hp} {B : List Addr} {e : Env'} {σ : L2.St} (h : Slots K G B e σ) : ∀ vs : List Nat, Slots K G B (kill e vs) (L2.wipe σ vs)
  | [] => h
  | v :: vs => by
    have q := Slots.wipe (e := e.set v Option.none) (σ := σ.set v Option.none) (Slots.none h) vs
    have c : ∀ (vs : List Nat) (σ : L2.St), L2.wipe (σ.set v Option.none) vs = (L2.wipe σ vs).set v Option.none := by
      intro vs
      induction vs with
      | nil => intro σ; rfl
      | cons u us ih =>
        intro σ
        show (L2.wipe (σ.set v Option.none) us).set u Option.none = ((L2.wipe σ us).set u Option.none).set v Option.none
        rw [ih]
        by_cases z : u = v
        · rw [z]
        · exact List.set_comm _ _ (Ne.symm z)
    rw [c] at q
    exact q
theorem Slots.kill {K : KW} {G : Hp} {B : List Addr} : ∀ {ks : List Nat} {e : Env'} {σ : L2.St}, Slots K G B e σ → Slots K G B (kill e ks) σ
  | [], e, σ, h => h
  | k :: ks, e, σ, h => Slots.kill (ks := ks) h.drop
theorem ats_take {B : List Addr} {n : Nat} (bt : ∀ (i : Nat) (a : Addr), i < n → B[i]? = some a → (B.take n)[i]? = some a) : ∀ (l : List Nat) (vs : List V), (l.all fun i => decide (i < n)) = true → Ats B l vs → Ats (B.take n) l vs
  | [], vs, _, h => h
  | j :: r, vs, f, h => by
    rw [List.all_cons, Bool.and_eq_true] at f
    obtain ⟨b, u, k1, k2, k3⟩ := h
    exact ⟨b, u, k1, bt j b (of_decide_eq_true f.1) k2, ats_take bt r u f.2 k3⟩
theorem pre_take {B B0 : List Addr} {n : Nat} (hn : B0.length ≤ n) (h : ∃ t, B = B0 ++ t) : ∃ t, B.take n = B0 ++ t := by
  obtain ⟨t, e⟩ := h
  refine ⟨t.take (n - B0.length), ?_⟩
  rw [e, List.take_append, List.take_of_length_le hn]
theorem SimH.le {K : KW} {Z : Ent} {G : Hp} {B : List Addr} {S : Sto} {H : Hp} (s : SimH K Z G B S H) : Z.B.length ≤ S.length := by
  obtain ⟨t, e⟩ := s.pre
  rw [← s.len, e, List.length_append]
  omega
/-- objects forgotten -/
theorem trim_ok {K : KW} {Z : Ent} {G : Hp} {B : List Addr} {e : Env'} {S : Sto} {σ : L2.St} {H : Hp} {n : Nat} (hn : Z.B.length ≤ n) (s : Sim K Z G B e S σ H) : ∃ B', Sim K Z G B' e (trim n e S) σ H := by
  unfold trim
  by_cases h1 : S.length ≤ n
  · rw [if_pos h1]
    exact ⟨B, s⟩
  · rw [if_neg h1]
    by_cases h2 : trimOk n e S = true
    · rw [if_pos h2]
      unfold trimOk at h2
      rw [Bool.and_eq_true] at h2
      obtain ⟨h2, h3⟩ := h2
      have bt : ∀ (i : Nat) (a : Addr), i < n → B[i]? = some a → (B.take n)[i]? = some a := fun i a hi q => by rw [List.getElem?_take_of_lt hi]; exact q
      have rw_ : ∀ (w : W) (v : V), refW n w = true → RepW K G B w v → RepW K G (B.take n) w v := fun w v f r => by
        cases w with
        | d x => exact r
        | m i =>
          obtain ⟨a, q1, q2⟩ := r
          exact ⟨a, bt i a (of_decide_eq_true f) q1, q2⟩
      have rws : ∀ (l : List W) (vs : List V), l.all (refW n) = true → RepWs K G B l vs → RepWs K G (B.take n) l vs := fun l => by
        induction l with
        | nil => exact fun vs _ h => h
        | cons w l ih =>
          intro vs f h
          rw [List.all_cons, Bool.and_eq_true] at f
          obtain ⟨v, r, e1, q1, q2⟩ := h
          exact ⟨v, r, e1, rw_ w v f.1 q1, ih r f.2 q2⟩
      have look : ∀ (i : Nat) (o : Ob), (S.take n)[i]? = some (some o) → i < n ∧ S[i]? = some (some o) := fun i o q => by
        have hi : i < n := by
          have := (List.getElem?_eq_some_iff.mp q).1
          rw [List.length_take] at this
          omega
        rw [List.getElem?_take_of_lt hi] at q
        exact ⟨hi, q⟩
      refine ⟨B.take n, ⟨s.h.gh, by rw [List.length_take, List.length_take, s.h.len], fun i o q => ?_, fun i j o u a q1 q2 b1 b2 => ?_, s.h.fr, s.h.fg, s.h.mono, s.h.dom, pre_take hn s.h.pre⟩, ?_⟩
      · obtain ⟨hi, q'⟩ := look i o q
        obtain ⟨a, e1, e2, e3, e4⟩ := s.h.ob i o q'
        refine ⟨a, bt i a hi e1, e2, ?_, e4⟩
        have f := List.all_eq_true.mp h3 _ (List.mem_of_getElem? q)
        cases o with
        | lst l => exact e3
        | dk ks l => exact e3
        | mat l =>
          obtain ⟨vs, g1, g2, g3⟩ := e3
          refine ⟨vs, g1, g2, ?_⟩
          exact ats_take bt l vs f g3
        | ins c ns l =>
          obtain ⟨dx, vs, g1, g2, g3⟩ := e3
          exact ⟨dx, vs, g1, g2, rws l vs f g3⟩
      · obtain ⟨hi, p1⟩ := look i o q1
        obtain ⟨hj, p2⟩ := look j u q2
        rw [List.getElem?_take_of_lt hi] at b1
        rw [List.getElem?_take_of_lt hj] at b2
        exact s.h.inj i j o u a p1 p2 b1 b2
      · have : ∀ (e : Env') (σ : L2.St), (e.all fun w => match w with
          | some w => refW n w
          | none => true) = true → Slots K G B e σ → Slots K G (B.take n) e σ := fun e => by
          induction e with
          | nil => exact fun σ _ h => h
          | cons w e ih =>
            intro σ f h
            rw [List.all_cons, Bool.and_eq_true] at f
            cases w with
            | none =>
              obtain ⟨x, r, e1, q⟩ := h
              exact ⟨x, r, e1, ih r f.2 q⟩
            | some w =>
              obtain ⟨v, r, e1, q1, q2⟩ := h
              exact ⟨v, r, e1, rw_ w v f.1 q1, ih r f.2 q2⟩
        exact this e σ h2 s.s
    · rw [if_neg h2]
      exact ⟨B, s⟩

/-- THE LOOP over what is walked -/
theorem for_sound {tg it : Expr} {body : List Stmt} {pos : Pos} {fi : Env' → Sto → R (List W)} {g : W → Env' → Sto → Option Env'} {fb : Env' → Sto → SR} {ks ts : List Nat} (po : PassesOwn (model X.prog X.w) X.A X.env X.xe) (hc : X.calm = true)
    (hi : PI X tg it (RI X Z Wx fi)) (hg : PG X tg (tgR (KX X) Z ts g)) (hb : PSs X body (RS X Z Wx fb)) (hs : ∀ x, foldedSetIterable it X.env x = pure x) :
    PS X (.For tg it body [] pos) (RS X Z Wx fun e S => (fi e S).sr e fun ws S => loopF g fb ks S.length ws e S) := by
  refine PS.imp (ps_for po hc hi hg hb hs) fun D σ H h => ?_
  obtain ⟨G, B, e, S, sim, h⟩ := h
  refine ⟨G, B, e, S, sim, QG.sr sim.s h fun J H1 G1 B1 ws S1 s1 x1 io h1 => ?_⟩
  refine ⟨fun i m σ' H' => m = ws.length - i ∧ i ≤ ws.length ∧ ∃ G' B' e' S', Sim (KX X) Z G' B' e' S' σ' H' ∧ Sub G1 G' ∧ QS (KX X) Z Wx G' D (loopF g fb ks S1.length (ws.drop i) e' S'), ⟨ws.length, by simp, Nat.zero_le _, G1, B1, e, S1, sim.at s1 x1, Sub.refl _, h1⟩, ?_⟩
  rintro i m σ' H' ⟨rfl, hi', G', B', e', S', s', x', h'⟩
  obtain ⟨st, go⟩ := io Z G' H' B' S' x' s'.h
  by_cases hl : i < ws.length
  · refine .inr ?_
    obtain ⟨go1, go2⟩ := go i ws[i] (List.getElem?_eq_getElem hl)
    rw [List.drop_eq_getElem_cons hl] at h'
    refine ⟨go1, fun σ2 H2 => ∃ G' B' e' S', Sim (KX X) Z G' B' e' S' σ2 H2 ∧ Sub G1 G' ∧ QS (KX X) Z Wx G' D (loopF g fb ks S1.length (ws.drop (i + 1)) e' S'), fun σ2 H2 q => ⟨ws.length - (i + 1), by omega, rfl, hl, q⟩, fun x H2 y => ?_⟩
    obtain ⟨G2, s2, x2, r2⟩ := go2 x H2 y
    unfold loopF at h'
    cases eg : g ws[i] e' S' with
    | none =>
      rw [eg] at h'
      exact h'.elim
    | some e1 =>
      rw [eg] at h'
      refine ⟨G2, B', e', S', ws[i], e1, s'.at s2 x2, r2, eg, fun σ3 sl _ => ⟨G2, B', e1, S', ⟨s2, sl⟩, ?_⟩⟩
      have h2 := QS.sub x2.sub h'
      simp only at h2
      have again : ∀ (e2 : Env') (S2 : Sto), QS (KX X) Z Wx G2 D (loopF g fb ks S1.length (ws.drop (i + 1)) (En.kill e2 ks) (trim S1.length (En.kill e2 ks) S2)) → ∀ σ H G B, Sim (KX X) Z G B e2 S2 σ H → Sub G2 G →
          ∃ G' B' e' S', Sim (KX X) Z G' B' e' S' σ H ∧ Sub G1 G' ∧ QS (KX X) Z Wx G' D (loopF g fb ks S1.length (ws.drop (i + 1)) e' S') := fun e2 S2 q σ H G B sm y => by
        obtain ⟨B3, s3⟩ := trim_ok (n := S1.length) s1.le (show Sim (KX X) Z G B (En.kill e2 ks) S2 σ H from ⟨sm.h, sm.s.kill⟩)
        exact ⟨G, B3, _, _, s3, (x'.trans x2.sub).trans y, QS.sub y q⟩
      cases eb : fb e1 S' with
      | nx e2 S2 =>
        rw [eb] at h2
        exact again e2 S2 h2
      | ct e2 S2 =>
        rw [eb] at h2
        exact again e2 S2 h2
      | bk e2 S2 =>
        rw [eb] at h2
        intro σ H G B sm y
        obtain ⟨B3, s3⟩ := trim_ok (n := S1.length) s1.le (show Sim (KX X) Z G B (En.kill e2 ks) S2 σ H from ⟨sm.h, sm.s.kill⟩)
        exact h2 σ H G B3 s3 y
      | rt w S2 =>
        rw [eb] at h2
        exact h2
      | ex c ns l e2 S2 =>
        rw [eb] at h2
        exact h2
      | st =>
        rw [eb] at h2
        exact h2.elim
  · have el : i = ws.length := by omega
    subst el
    rw [List.drop_length] at h'
    exact .inl ⟨st, h' σ' H' G' B' s' (Sub.refl _)⟩
/-- WHILE -/
theorem while_sound {c : Expr} {body : List Stmt} {pos : Pos} {ft : Env' → Sto → R Bool} {fb : Env' → Sto → SR} {ks : List Nat} {fuel : Nat} (po : PassesOwn (model X.prog X.w) X.A X.env X.xe)
    (ht : PT X c (RT X Z Wx ft)) (hb : PSs X body (RS X Z Wx fb)) :
    PS X (.While c body [] pos) (RS X Z Wx fun e S => loopW ft fb ks S.length fuel e S) := by
  refine PS.imp (ps_while po ht hb) fun D σ H h => ?_
  obtain ⟨G, B, e, S, sim, h⟩ := h
  refine ⟨fun m σ' H' => ∃ G' B' e' S', Sim (KX X) Z G' B' e' S' σ' H' ∧ QS (KX X) Z Wx G' D (loopW ft fb ks S.length m e' S'), ⟨fuel, G, B, e, S, sim, h⟩, ?_⟩
  rintro m σ' H' ⟨G', B', e', S', s', h'⟩
  cases m with
  | zero => exact h'.elim
  | succ m =>
    unfold loopW at h'
    refine ⟨G', B', e', S', s', QG.sr s'.s h' fun b H1 G1 B1 b' S1 s1 x1 rb h1 => ?_⟩
    have rb : b = b' := rb
    subst rb
    have sm1 := s'.at s1 x1
    cases b with
    | false =>
      rw [if_neg Bool.false_ne_true]
      exact h1 σ' H1 G1 B1 sm1 (Sub.refl _)
    | true =>
      rw [if_pos rfl]
      refine ⟨fun σ2 H2 => ∃ G' B' e' S', Sim (KX X) Z G' B' e' S' σ2 H2 ∧ QS (KX X) Z Wx G' D (loopW ft fb ks S.length m e' S'), fun σ2 H2 q => ⟨m, Nat.lt_succ_self m, q⟩, G1, B1, e', S1, sm1, ?_⟩
      simp only at h1
      have again : ∀ (e2 : Env') (S2 : Sto), QS (KX X) Z Wx G1 D (loopW ft fb ks S.length m (En.kill e2 ks) (trim S.length (En.kill e2 ks) S2)) → ∀ σ H G B, Sim (KX X) Z G B e2 S2 σ H → Sub G1 G →
          ∃ G' B' e' S', Sim (KX X) Z G' B' e' S' σ H ∧ QS (KX X) Z Wx G' D (loopW ft fb ks S.length m e' S') := fun e2 S2 q σ H G B sm y => by
        obtain ⟨B3, s3⟩ := trim_ok (n := S.length) sim.h.le (show Sim (KX X) Z G B (En.kill e2 ks) S2 σ H from ⟨sm.h, sm.s.kill⟩)
        exact ⟨G, B3, _, _, s3, QS.sub y q⟩
      cases eb : fb e' S1 with
      | nx e2 S2 =>
        rw [eb] at h1
        exact again e2 S2 h1
      | ct e2 S2 =>
        rw [eb] at h1
        exact again e2 S2 h1
      | bk e2 S2 =>
        rw [eb] at h1
        intro σ H G B sm y
        obtain ⟨B3, s3⟩ := trim_ok (n := S.length) sim.h.le (show Sim (KX X) Z G B (En.kill e2 ks) S2 σ H from ⟨sm.h, sm.s.kill⟩)
        exact h1 σ H G B3 s3 y
      | rt w S2 =>
        rw [eb] at h1
        exact h1
      | ex c ns l e2 S2 =>
        rw [eb] at h1
        exact h1
      | st =>
        rw [eb] at h1
        exact h1.elim
end
end En

namespace En
open PySem PySem.Spec PyProof.Rows L2
def Lv (B : List Addr) (S : Sto) (a : Addr) : Prop := ∃ (i : Nat) (o : Ob), S[i]? = some (some o) ∧ B[i]? = some a
/-- the entry at this moment -/
def now (H G : Hp) (B : List Addr) (S : Sto) : Ent := ⟨H, G, Lv B S, B⟩
section
variable {K : KW} {Z : Ent} {G H : Hp} {B : List Addr} {S : Sto}
theorem SimH.start (s : SimH K Z G B S H) : SimH K (now H G B S) G B S H := by
  refine ⟨s.gh, s.len, fun i o q => ?_, s.inj, fun a o q _ => q, fun a _ _ => rfl, Sub.refl G, fun a q => q, [], by show B = B ++ []; simp⟩
  obtain ⟨a, e1, e2, e3, e4⟩ := s.ob i o q
  exact ⟨a, e1, e2, e3, .inl ⟨i, o, q, e1⟩⟩
theorem SimH.lv {a : Addr} (s : SimH K Z G B S H) (h : Lv B S a) : (Z.L a ∨ Z.H a = none) ∧ (∃ o, H a = some o) ∧ G a = none := by
  obtain ⟨i, o, q1, q2⟩ := h
  obtain ⟨a', e1, e2, e3, e4⟩ := s.ob i o q1
  rw [q2] at e1
  cases e1
  exact ⟨e4, e3.there, e2⟩
theorem SimH.then {G' H' : Hp} {B' : List Addr} {S' : Sto} (s : SimH K Z G B S H) (c : SimH K (now H G B S) G' B' S' H') : SimH K Z G' B' S' H' := by
  refine ⟨c.gh, c.len, fun i o q => ?_, c.inj, fun a o q1 q2 => ?_, fun a q1 q2 => ?_, s.mono.trans c.mono, fun a q => c.dom a (s.dom a q), ?_⟩
  · obtain ⟨a, e1, e2, e3, e4⟩ := c.ob i o q
    refine ⟨a, e1, e2, e3, ?_⟩
    rcases e4 with e4 | e4
    · exact (s.lv e4).1
    · refine .inr ?_
      cases q : Z.H a with
      | none => rfl
      | some u => exact absurd (show H a = none from e4) (s.dom a (by rw [q]; intro z; cases z))
  · refine c.fr a o (s.fr a o q1 q2) fun q => ?_
    rcases (s.lv q).1 with z | z
    · exact q2 z
    · rw [z] at q1
      cases q1
  · have q : G' a = G a := c.fg a (s.dom a q1) fun q => by
      rcases (s.lv q).1 with z | z
      · exact q2 z
      · exact q1 z
    rw [q]
    exact s.fg a q1 q2
  · obtain ⟨t, e⟩ := c.pre
    have e : B' = B ++ t := e
    rw [e]
    exact s.pre_app t
/-- a thing outside stays as it is -/
theorem SimH.out {G' H' : Hp} {B' : List Addr} {S' : Sto} {a : Addr} {o : HO} (c : SimH K (now H G B S) G' B' S' H') (h : H a = some o) (n : ¬ Lv B S a) : H' a = some o ∧ G' a = G a ∧ ¬ Lv B' S' a := by
  refine ⟨c.fr a o h n, c.fg a (by show H a ≠ none; rw [h]; intro z; cases z) n, fun q => ?_⟩
  rcases (c.lv q).1 with z | z
  · exact n z
  · have z : H a = none := z
    rw [z] at h
    cases h
theorem SimH.updOut {p : Addr} {o : HO} (s : SimH K Z G B S H) (hg : G p = none) (n : ¬ Lv B S p) (hz : Z.H p = none) : SimH K Z G B S (upd H p o) := by
  refine ⟨fun a u q => ?_, s.len, fun i u q => ?_, s.inj, fun a u q1 q2 => ?_, s.fg, s.mono, fun a q => ?_, s.pre⟩
  · have z : a ≠ p := by
      rintro rfl
      rw [hg] at q
      cases q
    rw [upd_ne z]
    exact s.gh a u q
  · obtain ⟨a, e1, e2, e3, e4⟩ := s.ob i u q
    have z : a ≠ p := by
      rintro rfl
      exact n ⟨i, u, q, e1⟩
    exact ⟨a, e1, e2, e3.keep (Ext.refl G B) fun o q => by rw [upd_ne z]; exact q, e4⟩
  · have z : a ≠ p := by
      rintro rfl
      rw [hz] at q1
      cases q1
    rw [upd_ne z]
    exact s.fr a u q1 q2
  · by_cases z : a = p
    · subst z
      rw [upd_same]
      intro y
      cases y
    · rw [upd_ne z]
      exact s.dom a q
theorem SimH.adoptG {p : Addr} {o : HO} (s : SimH K Z G B S H) (h : H p = some o) (hz : Z.H p = none) (hg : G p = none) (n : ¬ Lv B S p) : SimH K Z (upd G p o) B S H ∧ Ext G B (upd G p o) B := by
  have x : Ext G B (upd G p o) B := ⟨Sub.new hg, [], by simp⟩
  refine ⟨⟨fun a u q => ?_, s.len, fun i u q => ?_, s.inj, s.fr, fun a q1 q2 => ?_, s.mono.trans x.sub, s.dom, s.pre⟩, x⟩
  · by_cases z : a = p
    · subst z
      rw [upd_same] at q
      cases q
      exact h
    · rw [upd_ne z] at q
      exact s.gh a u q
  · obtain ⟨a, e1, e2, e3, e4⟩ := s.ob i u q
    have z : a ≠ p := by
      rintro rfl
      exact n ⟨i, u, q, e1⟩
    exact ⟨a, e1, by rw [upd_ne z]; exact e2, e3.keep x fun o q => q, e4⟩
  · have z : a ≠ p := by
      rintro rfl
      exact q1 hz
    rw [upd_ne z]
    exact s.fg a q1 q2
theorem SimH.adoptM {p : Addr} {o : HO} {u : Ob} (s : SimH K Z G B S H) (h : H p = some o) (hz : Z.H p = none) (hg : G p = none) (n : ¬ Lv B S p) (r : ∀ B', Ext G B G B' → ObR K G B' H p u) : SimH K Z G (B ++ [p]) (S ++ [some u]) H ∧ Ext G B G (B ++ [p]) := by
  have x : Ext G B G (B ++ [p]) := ⟨Sub.refl G, [p], rfl⟩
  have split : ∀ (i : Nat) (v : Ob), (S ++ [some u])[i]? = some (some v) → (i < S.length ∧ S[i]? = some (some v)) ∨ (i = S.length ∧ v = u) := fun i v q => by
    by_cases hi : i < S.length
    · rw [List.getElem?_append_left hi] at q
      exact .inl ⟨hi, q⟩
    · rw [List.getElem?_append_right (Nat.le_of_not_lt hi)] at q
      cases k : i - S.length with
      | zero =>
        rw [k] at q
        simp at q
        exact .inr ⟨by omega, q.symm⟩
      | succ n =>
        rw [k] at q
        simp at q
  have bat : ∀ (i : Nat) (a : Addr), i < S.length → (B ++ [p])[i]? = some a → B[i]? = some a := fun i a hi q => by
    rw [List.getElem?_append_left (by rw [s.len]; exact hi)] at q
    exact q
  have bend : (B ++ [p])[S.length]? = some p := by
    rw [List.getElem?_append_right (by rw [s.len]; exact Nat.le_refl _), s.len]
    simp
  refine ⟨⟨s.gh, by simp [s.len], fun i v q => ?_, fun i j v v' a q1 q2 b1 b2 => ?_, s.fr, s.fg, s.mono, s.dom, s.pre_app [p]⟩, x⟩
  · rcases split i v q with ⟨hi, q⟩ | ⟨rfl, rfl⟩
    · obtain ⟨a, e1, e2, e3, e4⟩ := s.ob i v q
      exact ⟨a, pre_get e1, e2, e3.keep x fun o q => q, e4⟩
    · exact ⟨p, bend, hg, r _ x, .inr hz⟩
  · rcases split i v q1 with ⟨hi, p1⟩ | ⟨p1, _⟩
    · rcases split j v' q2 with ⟨hj, p2⟩ | ⟨p2, _⟩
      · exact s.inj i j v v' a p1 p2 (bat i a hi b1) (bat j a hj b2)
      · rw [p2, bend] at b2
        cases b2
        exact (n ⟨i, v, p1, bat i _ hi b1⟩).elim
    · rcases split j v' q2 with ⟨hj, p2⟩ | ⟨p2, _⟩
      · rw [p1, bend] at b1
        cases b1
        exact (n ⟨j, v', p2, bat j _ hj b2⟩).elim
      · rw [p1, p2]
end
theorem PE.ex {X : Cx} {e : Expr} {α : Type} {t : α → TE} (h : ∀ z, PE X e (t z)) : PE X e (fun σ H Q => ∃ z, t z σ H Q) := ⟨fun pins s σ H Q I ⟨z, q⟩ => (h z).run pins s σ H Q I q⟩
theorem PG.ex {X : Cx} {tg : Expr} {α : Type} {t : α → TG} (h : ∀ z, PG X tg (t z)) : PG X tg (fun v σ H Q => ∃ z, t z v σ H Q) := ⟨fun pins s σ H v u Q I r ⟨z, q⟩ => (h z).run pins s σ H v u Q I r q⟩
theorem PTs.ex {X : Cx} {e : List Expr} {α : Type} {t : α → TT} (h : ∀ z, PTs X e (t z)) : PTs X e (fun σ H Q => ∃ z, t z σ H Q) := ⟨fun pins s σ H Q I ⟨z, q⟩ => (h z).run pins s σ H Q I q⟩

section
variable {X : Cx} {Z : Ent} {Wx : WX}
abbrev W0 : WX := fun _ _ _ _ => False
theorem wipe_len (σ : L2.St) : ∀ vs : List Nat, (L2.wipe σ vs).length = σ.length := L2.wipe_length σ
theorem wipe_get (σ : L2.St) : ∀ (vs : List Nat) (i : Nat), (L2.wipe σ vs)[i]? = if i ∈ vs then (if i < σ.length then some none else none) else σ[i]?
  | [], i => by
    rw [if_neg (List.not_mem_nil)]
    rfl
  | v :: vs, i => by
    show ((L2.wipe σ vs).set v none)[i]? = _
    by_cases h : v = i
    · subst h
      rw [if_pos List.mem_cons_self]
      by_cases hl : v < σ.length
      · rw [if_pos hl, List.getElem?_set_self (by rw [wipe_len]; exact hl)]
      · rw [if_neg hl, List.getElem?_eq_none]
        rw [List.length_set, wipe_len]
        omega
    · rw [List.getElem?_set_ne h, wipe_get σ vs i]
      by_cases hm : i ∈ vs
      · rw [if_pos hm, if_pos (List.mem_cons_of_mem _ hm)]
      · rw [if_neg hm, if_neg (fun q => (List.mem_cons.mp q).elim (fun z => h z.symm) hm)]
theorem wipe_beside {ts vs : List Nat} {σ σ2 : L2.St} (h : Beside ts (L2.wipe σ vs) σ2) (hs : ∀ i ∈ ts, i ∈ vs) : L2.wipe σ2 vs = L2.wipe σ vs := by
  refine List.ext_getElem? fun i => ?_
  rw [wipe_get, wipe_get]
  have hl : σ2.length = σ.length := by rw [h.1, wipe_len]
  by_cases hm : i ∈ vs
  · rw [if_pos hm, if_pos hm, hl]
  · rw [if_neg hm, if_neg hm, h.2 i fun q => hm (hs i q), wipe_get, if_neg hm]
/-- the reading of a comprehension -/
theorem lc_read {fi : Env' → Sto → R (List W)} {g : W → Env' → Sto → Option Env'} {ft : Env' → Sto → R Bool} {fe : Env' → Sto → R W} {z : Bool} {vs ts : List Nat} (hts : ∀ i ∈ ts, i ∈ vs) (σ : L2.St) (H : Hp) (Q : VK)
    (h : RE X Z Wx (fun e S => (fi e S).bind fun ws S => (loopC g ft fe ws (kill e vs) [] S).noX.bind fun l S => mkL z l S) σ H Q) :
    tLc (RI X Z Wx fi) (fun v σ H Q => ∃ Z', tgR (KX X) Z' ts g v σ H Q) (fun σ H Q => ∃ Z', RT X Z' W0 ft σ H Q) (fun σ H Q => ∃ Z', RE X Z' W0 fe σ H Q) vs σ H Q := by
  obtain ⟨G, B, e, S, sim, h⟩ := h
  refine ⟨G, B, e, S, sim, h.bind fun J H1 G1 B1 ws S1 _ s1 x1 io h1 => fun Dl hD => ?_⟩
  have fr := s1.fresh hD
  have nl : ¬ Lv B1 S1 Dl := fun q => by
    obtain ⟨_, ⟨o, ho⟩, _⟩ := s1.lv q
    rw [hD] at ho
    cases ho
  have s1' : SimH (KX X) Z G1 B1 S1 (upd H1 Dl (.lst [])) := s1.updOut fr.1 nl fr.2
  refine ⟨fun i m H' => m = ws.length - i ∧ i ≤ ws.length ∧ ∃ G' B' S' acc av, SimH (KX X) Z G' B' S' H' ∧ Ext G1 B1 G' B' ∧ H' Dl = some (.lst av) ∧ av.length ≤ sizeLine ∧ RepL (KX X) G' acc av ∧ ¬ Lv B' S' Dl ∧ G' Dl = none ∧
    QG (KX X) Z (rV (KX X)) e σ Wx G' B' Q ((loopC g ft fe (ws.drop i) (kill e vs) acc S').noX.bind fun l S => mkL z l S), ⟨ws.length, by simp, Nat.zero_le _, G1, B1, S1, [], [], s1', Ext.refl _ _, upd_same, Nat.zero_le _, by simp [RepL], nl, fr.1, h1⟩, ?_⟩
  rintro i m H' ⟨rfl, hi', G', B', S', acc, av, s', x', hl', hz', ra, nl', g', h'⟩
  obtain ⟨st, _⟩ := io Z G' H' B' S' x'.sub s'
  by_cases hl : i < ws.length
  · refine .inr ?_
    obtain ⟨_, go⟩ := io (now H' G' B' S') G' H' B' S' x'.sub s'.start
    obtain ⟨go1, go2⟩ := go i ws[i] (List.getElem?_eq_getElem hl)
    have hZ : Z.H Dl = none := fr.2
    rw [List.drop_eq_getElem_cons hl] at h'
    refine ⟨go1, fun H2 => ∃ G' B' S' acc av, SimH (KX X) Z G' B' S' H2 ∧ Ext G1 B1 G' B' ∧ H2 Dl = some (.lst av) ∧ av.length ≤ sizeLine ∧ RepL (KX X) G' acc av ∧ ¬ Lv B' S' Dl ∧ G' Dl = none ∧
      QG (KX X) Z (rV (KX X)) e σ Wx G' B' Q ((loopC g ft fe (ws.drop (i + 1)) (kill e vs) acc S').noX.bind fun l S => mkL z l S), fun H2 q => ⟨ws.length - (i + 1), by omega, rfl, hl, q⟩, fun x H2 y => ?_⟩
    obtain ⟨G2, c2, x2, r2⟩ := go2 x H2 y
    obtain ⟨o1, o2, o3⟩ := c2.out hl' nl'
    have s2 := s'.then c2
    rw [g'] at o2
    unfold loopC at h'
    cases eg : g ws[i] (kill e vs) S' with
    | none =>
      rw [eg] at h'
      exact h'.elim
    | some e1 =>
      rw [eg] at h'
      have sl0 : Slots (KX X) G2 B' (kill e vs) (L2.wipe σ vs) := (sim.s.wipe vs).mono ((x1.trans x').trans x2)
      refine ⟨Z, G2, B', kill e vs, S', ws[i], e1, ⟨s2, sl0⟩, r2, eg, fun σ2 sl bs => ⟨wipe_beside bs hts, ?_⟩⟩
      refine ⟨now H2 G2 B' S', G2, B', e1, S', ⟨s2.start, sl⟩, ?_⟩
      have h2 := QG.ext x2 h'
      simp only at h2
      cases et : ft e1 S' with
      | st =>
        rw [et] at h2
        exact h2.elim
      | ex c ns l S3 =>
        rw [et] at h2
        exact h2.elim
      | ok b S3 =>
        rw [et] at h2
        intro v H3 G3 B3 c3 x3 rb
        have rb : v = b := rb
        subst rb
        obtain ⟨p1, p2, p3⟩ := c3.out o1 o3
        have s3 := s2.then c3
        rw [o2] at p2
        have h3 := QG.ext x3 h2
        simp only [R.bind] at h3
        cases v with
        | false =>
          rw [if_neg Bool.false_ne_true]
          exact ⟨G3, B3, S3, acc, av, s3, (x'.trans x2).trans x3, p1, hz', RepL.mono (x2.trans x3).sub _ _ ra, p3, p2, h3⟩
        | true =>
          rw [if_pos rfl]
          refine ⟨now H3 G3 B3 S3, G3, B3, e1, S3, ⟨s3.start, sl.mono x3⟩, ?_⟩
          simp only at h3
          cases ee : fe e1 S3 with
          | st =>
            rw [ee] at h3
            exact h3.elim
          | ex c ns l S4 =>
            rw [ee] at h3
            exact h3.elim
          | ok w S4 =>
            rw [ee] at h3
            intro v H4 G4 B4 c4 x4 rv
            obtain ⟨q1, q2, q3⟩ := c4.out p1 p3
            have s4 := s3.then c4
            rw [p2] at q2
            cases w with
            | m k => exact h3.elim
            | d d0 =>
              have h4 := QG.ext x4 h3
              simp only [R.bind] at h4
              by_cases hsz : acc.length < sizeLine
              · rw [if_pos hsz] at h4
                have ra4 := RepL.mono ((x2.trans x3).trans x4).sub _ _ ra
                have le := ra4.length
                refine ⟨av, q1, by omega, G4, B4, S4, acc ++ [d0], av ++ [v], s4.updOut q2 q3 hZ, ((x'.trans x2).trans x3).trans x4, upd_same, by rw [List.length_append, List.length_singleton]; omega, ?_, q3, q2, h4⟩
                exact ra4.append ⟨v, [], rfl, rv, by simp only [RepL]⟩
              · rw [if_neg hsz] at h4
                exact h4.elim
  · have el : i = ws.length := by omega
    subst el
    rw [List.drop_length] at h'
    refine .inl ⟨st, ?_⟩
    have h' : QG (KX X) Z (rV (KX X)) e σ Wx G' B' Q (mkL z acc S') := h'
    unfold mkL at h'
    have hZ : Z.H Dl = none := fr.2
    cases z with
    | true =>
      obtain ⟨s2, x2⟩ := s'.adoptG hl' hZ g' nl'
      refine h' _ _ _ _ s2 x2 ?_
      show Rep (KX X) _ (.lst acc) _
      simp only [Rep]
      exact ⟨Dl, av, rfl, upd_same, hz', RepL.mono x2.sub _ _ ra⟩
    | false =>
      obtain ⟨s2, x2⟩ := s'.adoptM (u := .lst acc) hl' hZ g' nl' fun B'' x => ⟨av, hl', hz', ra⟩
      refine h' _ _ _ _ s2 x2 ⟨Dl, ?_, rfl⟩
      rw [← s'.len, List.getElem?_append_right (Nat.le_refl _)]
      simp
end
end En

namespace En
open PySem PySem.Spec PyProof.Rows L2

/-! ### the text against the terms -/
structure CI where
  name : Str
  n : Nat
structure Gs where
  calls : List CI
  cons : List Str
def visB (sc : Scope) (x : Str) : Bool := match sc.names.lookup x with
  | some .local => true | some .cell => true | some .free => true | _ => false
def locB (sc : Scope) (x : Str) : Bool := match sc.names.lookup x with
  | some .local => true | some .cell => true | _ => false
def isLoc (sc : Scope) (x : Str) : Bool := match sc.names.lookup x with
  | some .local => true | _ => false
def gloB (sc : Scope) (x : Str) : Bool := match sc.names.lookup x with
  | some .globalImplicit => true | _ => false
def okN (x : Str) : Bool := !(x == ("__debug__" : Str)) && !(x == ("__classdict__" : Str)) && !(x == ("__name__" : Str))
def noStar : Expr → Bool
  | .Starred _ _ => false | _ => true
def noSuper : Expr → Bool
  | .Call (.Name _ _) [] [] _ => false | _ => true
def plainT : Expr → Bool
  | .UnaryOp .Not _ _ => false | .BoolOp _ _ _ => false | .IfExp _ _ _ _ => false | .Compare _ _ _ _ => false | _ => true
def noSlice : Expr → Bool
  | .Slice _ _ _ _ => false | _ => true
def noComp : Expr → Bool
  | .ListComp _ _ _ _ => false | .SetComp _ _ _ _ => false | .DictComp _ _ _ _ _ => false | _ => true
def lcOnly : Expr → Bool
  | .SetComp _ _ _ _ => false | .DictComp _ _ _ _ _ => false | _ => true
def noSet : Expr → Bool
  | .Set _ _ _ => false | _ => true
def noTup : Expr → Bool
  | .Tuple _ _ _ => false | _ => true
def nameAt (N : List Str) (sc : Scope) (i : Nat) (x : Str) : Bool := decide (N[i]? = some x) && (visB sc x && okN x)
def bltName (sc : Scope) (x y : Str) : Bool := decide (x = y) && gloB sc x
def isYes : T → Bool
  | .yes => true | _ => false
mutual
def G.ts : G → List Nat
  | .nm i => [i]
  | .tup l => l.ts
  | .two a b => [a, b]
def GL.ts : GL → List Nat
  | .nil => []
  | .cons g l => g.ts ++ l.ts
end
section
variable (g : Gs) (N : List Str)
mutual
def chkG (sc : Scope) : G → Expr → Bool
  | .nm i, .Name x _ => decide (N[i]? = some x) && locB sc x
  | .tup l, .Tuple es _ _ => chkGL sc l es
  | _, _ => false
def chkGL (sc : Scope) : GL → List Expr → Bool
  | .nil, [] => true
  | .cons g l, e :: es => noStar e && (chkG sc g e && chkGL sc l es)
  | _, _ => false
end
mutual
def chkE (sc : Scope) : E → Expr → Bool
  | .var i, .Name x _ => nameAt N sc i x
  | .frz i, .Name x _ => nameAt N sc i x
  | .int i, .Constant (.int j) _ _ => decide (i = j)
  | .str s, .Constant (.str z) _ _ => decide (s = z)
  | .bl b, .Constant (.bool c) _ _ => b == c
  | .non, .Constant .none _ _ => true
  | .glo n, .Name x _ => decide (g.cons[n]? = some x) && (gloB sc x && okN x)
  | .op _ o a b, .BinOp x p y _ => decide (o.op = p) && (chkE sc a x && chkE sc b y)
  | .neg a, .UnaryOp .USub x _ => chkE sc a x
  | .cmp o a b, .Compare x [p] [y] _ => decide (o.op = p) && (noSet y && (chkE sc a x && chkE sc b y))
  | .chn o o' a b c, .Compare x [p, p'] [y, z] _ => (decide (o.op = p) && decide (o'.op = p')) && (noSet z && (chkE sc a x && (chkE sc b y && chkE sc c z)))
  | .and l, .BoolOp .And es _ => chkEL sc l es
  | .or l, .BoolOp .Or es _ => chkEL sc l es
  | .not a, .UnaryOp .Not x _ => chkE sc a x
  | .ite c a b, .IfExp x y z _ => chkT sc c x && (chkE sc a y && chkE sc b z)
  | .tup l, .Tuple es _ _ => chkA sc l es
  | .lst _ l, .List es _ => chkA sc l es
  | .ix a b, .Subscript x y _ => noSlice y && (chkE sc a x && chkE sc b y)
  | .sl _ a lo hi, .Subscript x (.Slice l h none _) _ => chkE sc a x && (chkO sc lo l && chkO sc hi h)
  | .call n l _, .Call (.Name x _) es [] _ => (match g.calls[n]? with
    | some c => decide (c.name = x) && decide (es.length = c.n)
    | none => false) && (gloB sc x && (okN x && chkA sc l es))
  | .bi _ f l, .Call (.Name x _) es [] _ => bltName sc x f.name && (!es.isEmpty && chkA sc l es)
  | .isi a ty, .Call (.Name x _) [y, .Name c _] [] _ => bltName sc x "isinstance" && ((["list", "bool", "int"].contains ty && bltName sc c (Str.ofString ty)) && (noStar y && chkE sc a y))
  | .me _ m o l, .Call (.Attribute x nm ap) es [] p => decide (m.name = nm) && ((noSuper x && (ap.endLine == p.line)) && ((!es.isEmpty && decide (es.length < 30)) && (chkE sc o x && chkA sc l es)))
  | .lc _ own tg s t e, .ListComp x [⟨y, z, ifs, as⟩] c _ => decide (as = 0) && ((blkC N sc c own && tg.ts.all fun i => (own.map (·.2)).contains i) && ((noSet z && chkSc sc s z y) && (chkG N c tg y && ((match ifs with
    | [] => isYes t
    | [x] => chkT (relS c sc) t x
    | _ => false) && chkE (relS c sc) e x))))
  | _, _ => false
def chkEL (sc : Scope) : EL → List Expr → Bool
  | .one a, [x] => chkE sc a x
  | .cons a l, x :: es => chkE sc a x && chkEL sc l es
  | _, _ => false
def chkA (sc : Scope) : A → List Expr → Bool
  | .nil, [] => true
  | .cons a l, x :: es => noStar x && (chkE sc a x && chkA sc l es)
  | _, _ => false
def chkO (sc : Scope) : O → Option Expr → Bool
  | .no, none => true
  | .so a, some x => chkE sc a x
  | _, _ => false
def chkT (sc : Scope) : T → Expr → Bool
  | .val a, x => plainT x && chkE sc a x
  | .tru a, x => plainT x && chkE sc a x
  | .cmp o a b, .Compare x [p] [y] _ => decide (o.op = p) && (noSet y && (chkE sc a x && chkE sc b y))
  | .chn o o' a b c, .Compare x [p, p'] [y, z] _ => (decide (o.op = p) && decide (o'.op = p')) && (noSet z && (chkE sc a x && (chkE sc b y && chkE sc c z)))
  | .and l, .BoolOp .And es _ => chkTL sc l es
  | .or l, .BoolOp .Or es _ => chkTL sc l es
  | .not t, .UnaryOp .Not x _ => chkT sc t x
  | _, _ => false
def chkTL (sc : Scope) : TL → List Expr → Bool
  | .one t, [x] => chkT sc t x
  | .cons t l, x :: es => chkT sc t x && chkTL sc l es
  | _, _ => false
def chkSc (sc : Scope) : Sc → Expr → Expr → Bool
  | .seq a, x, _ => chkE sc a x
  | .chars a, x, _ => chkE sc a x
  | .rng1 a, .Call (.Name f _) [x] [] _, _ => bltName sc f "range" && (noStar x && chkE sc a x)
  | .rng2 a b, .Call (.Name f _) [x, y] [] _, _ => bltName sc f "range" && ((noStar x && noStar y) && (chkE sc a x && chkE sc b y))
  | .enm a, .Call (.Name f _) [x] [] _, .Tuple _ _ _ => bltName sc f "enumerate" && (noStar x && chkE sc a x)
  | _, _, _ => false
end
def chkTs (sc : Scope) (t : T) (ifs : List Expr) : Bool := match ifs with
  | [] => isYes t
  | [x] => chkT g N sc t x
  | _ => false
/-- the list is made in the name's own turn -/
def swB (sc : Scope) (v : Expr) (x : Str) (p : Pos) : Bool := match v with
  | .ListComp _ _ c q => (isLoc sc x && (p.line == q.line)) && !(c.names.any fun (n, k) => n == x && (k == .local || k == .cell))
  | _ => false
mutual
def chkS (sc : Scope) : S → Stmt → Bool
  | .set i e, .Assign [.Name x _] v _ => decide (N[i]? = some x) && (locB sc x && (lcOnly v && chkE g N sc e v))
  | .asg tg e, .Assign [y] v _ => (!noTup y && noTup v) && (chkG N sc tg y && chkE g N sc e v)
  | .aug i o e, .AugAssign (.Name x _) p v _ => decide (N[i]? = some x) && (locB sc x && (decide (o.op = p) && chkE g N sc e v))
  | .setIx o j e, .Assign [.Subscript x y _] v _ => (noSlice y && noTup v) && (noComp v && (chkE g N sc o x && (chkE g N sc j y && chkE g N sc e v)))
  | .ex e, .Expr x _ => noComp x && chkE g N sc e x
  | .ret e, .Return (some x) _ => chkE g N sc e x
  | .retN, .Return none _ => true
  | .iff t a b, .If x y z _ => chkT g N sc t x && (chkB sc a y && chkB sc b z)
  | .fo tg s b _, .For y z body [] _ => (noSet z && chkSc g N sc s z y) && (chkG N sc tg y && chkB sc b body)
  | .wh t b _, .While x body [] _ => chkT g N sc t x && chkB sc b body
  | .brk, .Break _ => true
  | .cont, .Continue _ => true
  | .pass, .Pass _ => true
  | _, _ => false
def chkB (sc : Scope) : B → List Stmt → Bool
  | .nil, [] => true
  | .cons (.nop _) b, l => chkB sc b l
  | .cons s b, st :: l => chkS sc s st && chkB sc b l
  | _, _ => false
end
end

/-! ### what holds where the text stands -/
def fnames : List Str := ["len", "abs", "max", "min", "sum", "all", "any", "isinstance", "sorted", "divmod", "str", "int", "list", "tuple", "bool", "range", "enumerate"]
/-- a call of the def x by n values: its meaning -/
structure CallOk (P : Program) (w : World) (K : PySem.W.Frag) (mg : Str → Option Value) (base : Heap) (L : Nat) (c : CI) (F : Fn) (f : Addr) : Prop where
  gl : mg c.name = some (.ref f)
  kp : PySem.W.keepIn K (.ref f) = true
  run : ∀ (A : Around) (outer : List Env) (s : Shared) (H : Hp) (us : List Value) (vs : List V) (Q : VK) (Ex : XK), Room L A → Env0 P w K mg base A outer s H → Vals vs us → vs.length = c.n → spF ⟨K, w⟩ F vs H Q Ex →
    codeAny (model P w) A (.call (.ref f) ⟨us, []⟩) (CR (L2.CX P w) outer P w H s Q Ex) s
structure Cxt (g : Gs) (t : Tb) (L : Nat) (N : List Str) (sc so : Scope) (X : Cx) : Prop where
  hN : X.N = N
  nd : N.Nodup
  hsc : X.env.scope = sc
  fk : sc.kind = .function
  fn : ∀ x, so.names.lookup x = some .cell → X.fn x = true ∧ sc.names.lookup x = some .cell
  fl : ∀ x, so.names.lookup x = some .local → sc.names.lookup x = some .local
  calm : X.calm = true
  room : Room L X.A
  free : ∀ x ∈ fnames, X.mg x = none
  con : ∀ (n : Nat) (x : Str), g.cons[n]? = some x → ∃ d v u, t.cn[n]? = some d ∧ X.mg x = some u ∧ RelV v u ∧ ∀ G, Rep ⟨X.K, X.w⟩ G d v
  call : ∀ (n : Nat) (c : CI), g.calls[n]? = some c → ∃ F f, t.fn[n]? = some F ∧ CallOk X.prog X.w X.K X.mg X.base L c F f
section
variable {g : Gs} {t : Tb} {L : Nat} {N : List Str} {sc so : Scope} {X : Cx} {Z : Ent} {Wx : WX}
theorem ba {a b : Bool} (h : (a && b) = true) : a = true ∧ b = true := Bool.and_eq_true_iff.mp h
theorem Cxt.vis (c : Cxt g t L N sc so X) {x : Str} (h : visB sc x = true) : Vis X.env.scope x := by
  rw [c.hsc]
  unfold visB at h
  unfold Vis
  split at h
  · exact .inl (by assumption)
  · exact .inr (.inl (by assumption))
  · exact .inr (.inr (by assumption))
  · cases h
theorem locB_ok {x : Str} (h : locB sc x = true) : sc.names.lookup x = some .local ∨ sc.names.lookup x = some .cell := by
  unfold locB at h
  split at h
  · exact .inl (by assumption)
  · exact .inr (by assumption)
  · cases h
theorem Cxt.loc (c : Cxt g t L N sc so X) {x : Str} (h : locB so x = true) : Loc X.env.scope x ∧ (X.fn x = true ∨ X.env.scope.names.lookup x = some .local) := by
  rw [c.hsc]
  rcases locB_ok h with h | h
  · exact ⟨.inl (c.fl x h), .inr (c.fl x h)⟩
  · exact ⟨.inr (c.fn x h).2, .inl (c.fn x h).1⟩
theorem Cxt.gl (c : Cxt g t L N sc so X) {x : Str} (h : gloB sc x = true) : Gl X x := by
  show X.env.scope.names.lookup x = some .globalImplicit
  rw [c.hsc]
  unfold gloB at h
  split at h
  · assumption
  · cases h
theorem okN_ok {x : Str} (h : okN x = true) : (x == ("__debug__" : Str)) = false ∧ (x == ("__classdict__" : Str)) = false ∧ x ≠ "__name__" := by
  unfold okN at h
  obtain ⟨h, h3⟩ := ba h
  obtain ⟨h1, h2⟩ := ba h
  exact ⟨by simpa using h1, by simpa using h2, by simpa using h3⟩
theorem Cxt.at (c : Cxt g t L N sc so X) {i : Nat} {x : Str} (h : N[i]? = some x) : X.N[i]? = some x := by
  rw [c.hN]
  exact h
theorem noStar_ok {e : Expr} {es : List Expr} {env : Env} (h : noStar e = true) : starEach (e :: es) env = (false, eval e env) :: starEach es env := by
  cases e <;> first
    | (cases h; done)
    | rfl
theorem noSuper_ok {e : Expr} {f : Str} {env : Env} (h : noSuper e = true) : attributeBase e f env (eval e env) = eval e env := by
  unfold noSuper at h
  split at h
  · cases h
  · rename_i hne
    unfold attributeBase
    split
    · rename_i id p pos
      exact absurd rfl (hne _ _ _)
    · rfl
theorem plainT_ok {e : Expr} {env : Env} (h : plainT e = true) (whole : Sem Value) : isTrue e env whole = (do let v ← whole; standAt e.pos; holding [v] (truthy v)) := by
  cases e <;> first
    | (cases h; done)
    | rfl
    | (rename_i op _ _; cases op <;> first | (cases h; done) | rfl)
theorem noSlice_ok {e : Expr} (h : noSlice e = true) : PlainIx e := by
  intro o i
  cases e <;> first
    | (cases h; done)
    | rfl
theorem noSet_ok {e : Expr} {op : CmpOp} (h : noSet e = true) : behindInMarks op e = false := by
  cases e <;> first
    | (cases h; done)
    | rfl
theorem noSet_it {e : Expr} {env : Env} (h : noSet e = true) : ∀ x, foldedSetIterable e env x = pure x := by
  intro x
  cases e <;> first
    | (cases h; done)
    | rfl
theorem star_any {es : List Expr} {env : Env} {pos : Pos} (h : es.all noStar = true) : (backTo pos (starEach es env)).any (·.1) = false := by
  induction es with
  | nil => rfl
  | cons e es ih =>
    rw [List.all_cons] at h
    obtain ⟨h1, h2⟩ := ba h
    rw [noStar_ok h1]
    show (false || (backTo pos (starEach es env)).any (·.1)) = false
    rw [ih h2]
    rfl
theorem star_all {es : List Expr} {env : Env} {pos : Pos} (h : es.all noStar = true) : (backTo pos (starEach es env)).all (fun x => !x.1) = true := by
  induction es with
  | nil => rfl
  | cons e es ih =>
    rw [List.all_cons] at h
    obtain ⟨h1, h2⟩ := ba h
    rw [noStar_ok h1]
    show (!false && (backTo pos (starEach es env)).all (fun x => !x.1)) = true
    rw [ih h2]
    rfl
theorem Cxt.nofree (c : Cxt g t L N sc so X) {x y : Str} (h : bltName sc x y = true) (hy : y ∈ fnames) : x = y ∧ Gl X x ∧ X.mg x = none := by
  obtain ⟨h1, h2⟩ := ba h
  have e := of_decide_eq_true h1
  subst e
  exact ⟨rfl, c.gl h2, c.free _ hy⟩
theorem relS_look {c : Scope} {x : Str} {k : NameKind} (hk : k ≠ .free) : c.names.lookup x = some k → (relS c sc).names.lookup x = some k := by
  show c.names.lookup x = some k → (c.names.map fun (p : Str × NameKind) => if (p.2 == .free && sc.kind == .function && sc.names.lookup p.1 == some .cell) then (p.1, .cell) else (p.1, p.2)).lookup x = some k
  generalize c.names = l
  induction l with
  | nil => exact fun h => h
  | cons p r ih =>
    intro h
    rw [List.map_cons]
    cases e : x == p.1 with
    | true =>
      have h : some p.2 = some k := by
        rw [← h]
        show _ = (match x == p.1 with | true => some p.2 | false => _)
        rw [e]
      have h := Option.some.inj h
      have hq : (p.2 == NameKind.free) = false := by
        rw [h]
        cases k <;> first | rfl | exact absurd rfl hk
      rw [hq]
      simp only [Bool.false_and, Bool.false_eq_true, if_false]
      show (match x == p.1 with | true => some p.2 | false => _) = _
      rw [e, h]
    | false =>
      have h : r.lookup x = some k := by
        rw [← h]
        show _ = (match x == p.1 with | true => some p.2 | false => _)
        rw [e]
      have q := ih h
      split
      · show (match x == p.1 with | true => _ | false => _) = _
        rw [e]
        exact q
      · show (match x == p.1 with | true => _ | false => _) = _
        rw [e]
        exact q
/-- the same where a comprehension's own block stands -/
theorem Cxt.blk (c : Cxt g t L N sc so X) {scope : Scope} (hk : scope.kind = .function) (s : Shared) (H : Hp) (C : Addr) (cl : List (Str × Addr)) (fp : List Addr) : Cxt g t L N (relS scope sc) scope (X.blk s H scope (compEnvC scope cl C X.env) fp) := by
  refine ⟨c.hN, c.nd, ?_, hk, fun x h => ⟨?_, relS_look (by decide) h⟩, fun x h => relS_look (by decide) h, c.calm, c.room, c.free, c.con, c.call⟩
  · show relS scope X.env.scope = _
    rw [c.hsc]
  · show (scope.names.lookup x == some .cell) = true
    rw [h]
    rfl
end
end En

namespace En
open PySem PySem.Spec PyProof.Rows L2
section
variable {g : Gs} {t : Tb} {L : Nat} {N : List Str} {sc so : Scope} {X : Cx} {Z : Ent} {Wx : WX}
/-- a slot that is read -/
theorem var_ok {i : Nat} {x : Str} {pos : Pos} (c : Cxt g t L N sc so X) (h : nameAt N sc i x = true) : PE X (.Name x pos) (RE X Z Wx fun e S => getE e i S) := by
  obtain ⟨h1, h2⟩ := ba h
  obtain ⟨h2, h3⟩ := ba h2
  obtain ⟨n1, n2, _⟩ := okN_ok h3
  refine PE.imp (pe_var (i := i) (c.at (of_decide_eq_true h1)) (c.vis h2) n1 n2) fun σ H Q q => ?_
  obtain ⟨G, B, e, S, s, q⟩ := q
  dsimp only [getE] at q
  split at q
  · rename_i w hw
    obtain ⟨v, e1, r⟩ := s.s.get hw
    exact ⟨v, e1, q.here s.h r⟩
  · exact q.elim
/-- .. and comes to rest -/
theorem frz_ok {i : Nat} {x : Str} {pos : Pos} (c : Cxt g t L N sc so X) (h : nameAt N sc i x = true) : PE X (.Name x pos) (RE X Z Wx fun e S => frzI e i S) := by
  obtain ⟨h1, h2⟩ := ba h
  obtain ⟨h2, h3⟩ := ba h2
  obtain ⟨n1, n2, _⟩ := okN_ok h3
  refine PE.imp (pe_var (i := i) (c.at (of_decide_eq_true h1)) (c.vis h2) n1 n2) fun σ H Q q => ?_
  obtain ⟨G, B, e, S, s, q⟩ := q
  dsimp only [frzI] at q
  split at q
  · rename_i j hw
    obtain ⟨v, e1, r⟩ := s.s.get hw
    split at q
    · rename_i l hl
      obtain ⟨a, vs, ev, h4, h5, h6⟩ := lv_ok (l := l) s.h r (by simp only [lv, hl])
      obtain ⟨b, hb, eb⟩ := r
      have : a = b := by
        rw [ev] at eb
        cases eb
        rfl
      subst this
      obtain ⟨s2, x2⟩ := s.h.rest hl hb h4
      refine ⟨v, e1, q v H _ _ s2 x2 ?_⟩
      show Rep (KX X) _ (.lst l) v
      simp only [Rep]
      exact ⟨a, vs, ev, upd_same, h5, RepL.mono x2.sub _ _ h6⟩
    · exact q.elim
  · rename_i w _ hw
    obtain ⟨v, e1, r⟩ := s.s.get hw
    exact ⟨v, e1, q.here s.h r⟩
  · exact q.elim
theorem cst_ok {e : Expr} {v : V} {d : D} (h : PE X e (tC v)) (r : ∀ K G, Rep K G d v) : PE X e (RE X Z Wx fun _ S => ok1 d S) := PE.imp h fun σ H Q q => by
  obtain ⟨G, B, en, S, s, q⟩ := q
  exact q.here s.h (r _ _)
theorem glo_ok {n : Nat} {x : Str} {pos : Pos} (c : Cxt g t L N sc so X) (h1 : g.cons[n]? = some x) (h2 : gloB sc x = true) (h3 : okN x = true) : PE X (.Name x pos) (RE X Z Wx fun _ S => optR t.cn[n]? S) := by
  obtain ⟨d, v, u, e1, e2, r, rp⟩ := c.con n x h1
  refine PE.imp (pe_glob (c.gl h2) e2 r (okN_ok h3).1) fun σ H Q q => ?_
  obtain ⟨G, B, en, S, s, q⟩ := q
  rw [e1] at q
  exact q.here s.h (rp G)
theorem op_ok {z : Bool} {o : Bop} {x y : Expr} {pos : Pos} {fa fb : Env' → Sto → R W} (ha : PE X x (RE X Z Wx fa)) (hb : PE X y (RE X Z Wx fb)) :
    PE X (.BinOp x o.op y pos) (RE X Z Wx fun e S => (fa e S).bind fun p S => (fb e S).bind fun q S => bin z o p q S) := PE.imp (pe_op (opr_bin o) ha hb) fun σ H Q h => by
  obtain ⟨G, B, e, S, s, h⟩ := h
  refine ⟨G, B, e, S, s, h.bind fun x1 H1 G1 B1 w1 S1 _ s1 x1' r1 h1 => ⟨G1, B1, e, S1, s.at s1 x1', h1.bind fun x2 H2 G2 B2 w2 S2 _ s2 x2' r2 h2 => ?_⟩⟩
  exact bin_sound s2 (RepW.mono x2' r1) r2 h2
theorem neg_ok {x : Expr} {pos : Pos} {fa : Env' → Sto → R W} (ha : PE X x (RE X Z Wx fa)) :
    PE X (.UnaryOp .USub x pos) (RE X Z Wx fun e S => (fa e S).bind fun x S => (match x with
    | .d (.int i) => ok1 (.int (-i)) S
    | _ => .st)) := PE.imp (pe_un un_neg ha) fun σ H Q h => by
  obtain ⟨G, B, e, S, s, h⟩ := h
  refine ⟨G, B, e, S, s, h.bind fun x1 H1 G1 B1 w1 S1 _ s1 x1' r1 h1 => ?_⟩
  split at h1
  · simp only [rV, RepW, Rep] at r1
    exact ⟨_, r1, h1.d1 s1 (by simp only [Rep])⟩
  · exact h1.elim
theorem QG.optBW {K : KW} {e : Env'} {σ : L2.St} {G : Hp} {B : List Addr} {S : Sto} {Q : VK} {o : Option Bool} (h : QG K Z (rV K) e σ Wx G B Q (optBW o S)) : ∃ r, o = some r ∧ QG K Z (rV K) e σ Wx G B Q (ok1 (.bl r) S) := by
  cases o with
  | none => exact h.elim
  | some r => exact ⟨r, rfl, h⟩
theorem QG.optB {K : KW} {e : Env'} {σ : L2.St} {G : Hp} {B : List Addr} {S : Sto} {Q : Bool → Hp → Prop} {o : Option Bool} (h : QG K Z rB e σ Wx G B Q (optB o S)) : ∃ r, o = some r ∧ QG K Z rB e σ Wx G B Q (.ok r S) := by
  cases o with
  | none => exact h.elim
  | some r => exact ⟨r, rfl, h⟩
theorem cmp_ok {o : Cop} {x y : Expr} {pos : Pos} {fa fb : Env' → Sto → R W} (hu : X.A.units + 64 < cLine) (hm : noSet y = true) (ha : PE X x (RE X Z Wx fa)) (hb : PE X y (RE X Z Wx fb)) :
    PE X (.Compare x [o.op] [y] pos) (RE X Z Wx fun e S => (fa e S).bind fun p S => (fb e S).bind fun q S => optBW (cmpW o p q S) S) := PE.imp (pe_cmpR (opr_cmp hu o) ha hb (noSet_ok hm)) fun σ H Q h => by
  obtain ⟨G, B, e, S, s, h⟩ := h
  refine ⟨G, B, e, S, s, h.bind fun x1 H1 G1 B1 w1 S1 _ s1 x1' r1 h1 => ⟨G1, B1, e, S1, s.at s1 x1', h1.bind fun x2 H2 G2 B2 w2 S2 _ s2 x2' r2 h2 => ?_⟩⟩
  obtain ⟨r, e1, h2⟩ := h2.optBW
  exact cmp_sound s2 (RepW.mono x2' r1) r2 e1 (h2.d1 s2 (by simp only [Rep]))
theorem cmpT_ok {o : Cop} {x y : Expr} {pos : Pos} {fa fb : Env' → Sto → R W} (hu : X.A.units + 64 < cLine) (hm : noSet y = true) (ha : PE X x (RE X Z Wx fa)) (hb : PE X y (RE X Z Wx fb)) :
    PT X (.Compare x [o.op] [y] pos) (RT X Z Wx fun e S => (fa e S).bind fun p S => (fb e S).bind fun q S => optB (cmpW o p q S) S) := PT.imp (pt_cmpR (opr_cmp hu o) ha hb (noSet_ok hm)) fun σ H Q h => by
  obtain ⟨G, B, e, S, s, h⟩ := h
  refine ⟨G, B, e, S, s, h.bind fun x1 H1 G1 B1 w1 S1 _ s1 x1' r1 h1 => ⟨G1, B1, e, S1, s.at s1 x1', h1.bind fun x2 H2 G2 B2 w2 S2 _ s2 x2' r2 h2 => ?_⟩⟩
  obtain ⟨r, e1, h2⟩ := h2.optB
  exact cmp_sound s2 (RepW.mono x2' r1) r2 e1 ⟨r, rfl, h2.here s2 rfl⟩
theorem chn_last {y z : Expr} {o o' : CmpOp} (h : noSet z = true) : lastMarks [o, o'] [y, z] = false := by
  show behindInMarks o' z = false
  exact noSet_ok h
theorem chn_ok {o o' : Cop} {x y z : Expr} {pos : Pos} {fa fb fc : Env' → Sto → R W} (hu : X.A.units + 64 < cLine) (hm : noSet z = true) (ha : PE X x (RE X Z Wx fa)) (hb : PE X y (RE X Z Wx fb)) (hc : PE X z (RE X Z Wx fc)) :
    PE X (.Compare x [o.op, o'.op] [y, z] pos) (RE X Z Wx fun e S => (fa e S).bind fun p S => (fb e S).bind fun q S => (optB (cmpW o p q S) S).bind fun k S => match k with
    | true => (fc e S).bind fun w S => optBW (cmpW o' q w S) S
    | false => ok1 (.bl false) S) := PE.imp (pe_chain (opr_cmp hu o) (opr_cmp hu o') ha hb hc (chn_last hm)) fun σ H Q h => by
  obtain ⟨G, B, e, S, s, h⟩ := h
  refine ⟨G, B, e, S, s, h.bind fun x1 H1 G1 B1 w1 S1 _ s1 x1' r1 h1 => ⟨G1, B1, e, S1, s.at s1 x1', h1.bind fun x2 H2 G2 B2 w2 S2 _ s2 x2' r2 h2 => ?_⟩⟩
  cases hk : cmpW o w1 w2 S2 with
  | none =>
    rw [hk] at h2
    exact h2.elim
  | some k =>
    rw [hk] at h2
    refine cmp_sound s2 (RepW.mono x2' r1) r2 hk ⟨k, rfl, ?_⟩
    simp only [optB, R.bind] at h2
    cases k with
    | false =>
      rw [if_neg Bool.false_ne_true]
      exact h2.d1 s2 (by simp only [Rep])
    | true =>
      rw [if_pos rfl]
      refine ⟨G2, B2, e, S2, (s.at s1 x1').at s2 x2', h2.bind fun x3 H3 G3 B3 w3 S3 _ s3 x3' r3 h3 => ?_⟩
      obtain ⟨r, e1, h3⟩ := h3.optBW
      exact cmp_sound s3 (RepW.mono x3' r2) r3 e1 (h3.d1 s3 (by simp only [Rep]))
theorem chnT_ok {o o' : Cop} {x y z : Expr} {pos : Pos} {fa fb fc : Env' → Sto → R W} (hu : X.A.units + 64 < cLine) (hm : noSet z = true) (ha : PE X x (RE X Z Wx fa)) (hb : PE X y (RE X Z Wx fb)) (hc : PE X z (RE X Z Wx fc)) :
    PT X (.Compare x [o.op, o'.op] [y, z] pos) (RT X Z Wx fun e S => (fa e S).bind fun p S => (fb e S).bind fun q S => (optB (cmpW o p q S) S).bind fun k S => match k with
    | true => (fc e S).bind fun w S => optB (cmpW o' q w S) S
    | false => .ok false S) := PT.imp (pt_chain (opr_cmp hu o) (opr_cmp hu o') ha hb hc (chn_last hm)) fun σ H Q h => by
  obtain ⟨G, B, e, S, s, h⟩ := h
  refine ⟨G, B, e, S, s, h.bind fun x1 H1 G1 B1 w1 S1 _ s1 x1' r1 h1 => ⟨G1, B1, e, S1, s.at s1 x1', h1.bind fun x2 H2 G2 B2 w2 S2 _ s2 x2' r2 h2 => ?_⟩⟩
  cases hk : cmpW o w1 w2 S2 with
  | none =>
    rw [hk] at h2
    exact h2.elim
  | some k =>
    rw [hk] at h2
    refine cmp_sound s2 (RepW.mono x2' r1) r2 hk ⟨k, rfl, ?_⟩
    simp only [optB, R.bind] at h2
    cases k with
    | false =>
      rw [if_neg Bool.false_ne_true]
      exact ⟨false, rfl, h2.here s2 rfl⟩
    | true =>
      rw [if_pos rfl]
      refine ⟨G2, B2, e, S2, (s.at s1 x1').at s2 x2', h2.bind fun x3 H3 G3 B3 w3 S3 _ s3 x3' r3 h3 => ?_⟩
      obtain ⟨r, e1, h3⟩ := h3.optB
      exact cmp_sound s3 (RepW.mono x3' r2) r3 e1 ⟨r, rfl, h3.here s3 rfl⟩
theorem and_ok {x y : Expr} {es : List Expr} {pos : Pos} {fa fb : Env' → Sto → R W} (ha : PE X x (RE X Z Wx fa)) (hb : PE X (.BoolOp .And (y :: es) pos) (RE X Z Wx fb)) :
    PE X (.BoolOp .And (x :: y :: es) pos) (RE X Z Wx fun e S => (fa e S).bind fun p S => (match p with
    | .d (.bl true) => fb e S
    | .d (.bl false) => ok1 (.bl false) S
    | _ => .st)) := PE.imp (pe_and ha hb) fun σ H Q h => by
  obtain ⟨G, B, e, S, s, h⟩ := h
  refine ⟨G, B, e, S, s, h.bind fun x1 H1 G1 B1 w1 S1 _ s1 x1' r1 h1 => ?_⟩
  split at h1
  · simp only [rV, RepW, Rep] at r1
    refine ⟨true, r1, ?_⟩
    rw [if_pos rfl]
    exact ⟨G1, B1, e, S1, s.at s1 x1', h1⟩
  · simp only [rV, RepW, Rep] at r1
    refine ⟨false, r1, ?_⟩
    rw [if_neg Bool.false_ne_true]
    exact h1.d1 s1 (by simp only [Rep])
  · exact h1.elim
theorem or_ok {x y : Expr} {es : List Expr} {pos : Pos} {fa fb : Env' → Sto → R W} (ha : PE X x (RE X Z Wx fa)) (hb : PE X (.BoolOp .Or (y :: es) pos) (RE X Z Wx fb)) :
    PE X (.BoolOp .Or (x :: y :: es) pos) (RE X Z Wx fun e S => (fa e S).bind fun p S => (match p with
    | .d (.bl false) => fb e S
    | .d (.bl true) => ok1 (.bl true) S
    | _ => .st)) := PE.imp (pe_or ha hb) fun σ H Q h => by
  obtain ⟨G, B, e, S, s, h⟩ := h
  refine ⟨G, B, e, S, s, h.bind fun x1 H1 G1 B1 w1 S1 _ s1 x1' r1 h1 => ?_⟩
  split at h1
  · simp only [rV, RepW, Rep] at r1
    refine ⟨false, r1, ?_⟩
    rw [if_neg Bool.false_ne_true]
    exact ⟨G1, B1, e, S1, s.at s1 x1', h1⟩
  · simp only [rV, RepW, Rep] at r1
    refine ⟨true, r1, ?_⟩
    rw [if_pos rfl]
    exact h1.d1 s1 (by simp only [Rep])
  · exact h1.elim
theorem not_ok {x : Expr} {pos : Pos} {fa : Env' → Sto → R W} (ha : PE X x (RE X Z Wx fa)) :
    PE X (.UnaryOp .Not x pos) (RE X Z Wx fun e S => (fa e S).bind fun p S => (match p with
    | .d (.bl b) => ok1 (.bl !b) S
    | _ => .st)) := PE.imp (pe_not ha) fun σ H Q h => by
  obtain ⟨G, B, e, S, s, h⟩ := h
  refine ⟨G, B, e, S, s, h.bind fun x1 H1 G1 B1 w1 S1 _ s1 x1' r1 h1 => ?_⟩
  split at h1
  · simp only [rV, RepW, Rep] at r1
    exact ⟨_, r1, h1.d1 s1 (by simp only [Rep])⟩
  · exact h1.elim
theorem ite_ok {x y z : Expr} {pos : Pos} {ft : Env' → Sto → R Bool} {fa fb : Env' → Sto → R W} (hx : PT X x (RT X Z Wx ft)) (ha : PE X y (RE X Z Wx fa)) (hb : PE X z (RE X Z Wx fb)) :
    PE X (.IfExp x y z pos) (RE X Z Wx fun e S => (ft e S).bind fun k S => match k with
    | true => fa e S
    | false => fb e S) := PE.imp (pe_ifExp hx ha hb) fun σ H Q h => by
  obtain ⟨G, B, e, S, s, h⟩ := h
  refine ⟨G, B, e, S, s, h.bind fun x1 H1 G1 B1 w1 S1 _ s1 x1' r1 h1 => ?_⟩
  have r1 : x1 = w1 := r1
  subst r1
  cases x1 with
  | true =>
    rw [if_pos rfl]
    exact ⟨G1, B1, e, S1, s.at s1 x1', h1⟩
  | false =>
    rw [if_neg Bool.false_ne_true]
    exact ⟨G1, B1, e, S1, s.at s1 x1', h1⟩
theorem dats_ok {K : KW} {G : Hp} {B : List Addr} : ∀ {ws : List W} {vs : List V} {ds : List D}, RepWs K G B ws vs → dats ws = some ds → RepL K G ds vs
  | [], vs, ds, r, h => by
    simp only [dats, Option.some.injEq] at h
    subst h
    have r : vs = [] := r
    rw [r]
    simp [RepL]
  | .d x :: ws, vs, ds, r, h => by
    obtain ⟨v, u, e1, r1, r2⟩ := r
    simp only [dats, Option.map_eq_some_iff] at h
    obtain ⟨l, h, rfl⟩ := h
    exact ⟨v, u, e1, r1, dats_ok r2 h⟩
  | .m i :: ws, vs, ds, r, h => by simp [dats] at h
theorem tup_ok {es : List Expr} {k : Nat} {pos : Pos} {fa : Env' → Sto → R (List W)} (ha : PA X es (RA X Z Wx fa)) :
    PE X (.Tuple es k pos) (RE X Z Wx fun e S => (fa e S).bind fun ws S => (match dats ws with
    | some ds => if ds.length ≤ sizeLine then ok1 (.tup ds) S else .st
    | none => .st)) := PE.imp (pe_tup ha) fun σ H Q h => by
  obtain ⟨G, B, e, S, s, h⟩ := h
  refine ⟨G, B, e, S, s, h.bind fun x1 H1 G1 B1 w1 S1 _ s1 x1' r1 h1 => ?_⟩
  split at h1
  · rename_i ds hd
    have r := dats_ok r1 hd
    have hl := r.length
    split at h1
    · rename_i hz
      exact ⟨by omega, h1.newT s1 r (by omega)⟩
    · exact h1.elim
  · exact h1.elim
theorem lst_ok {z : Bool} {es : List Expr} {pos : Pos} {fa : Env' → Sto → R (List W)} (ha : PA X es (RA X Z Wx fa)) :
    PE X (.List es pos) (RE X Z Wx fun e S => (fa e S).bind fun ws S => (match dats ws with
    | some ds => if ds.length ≤ sizeLine then mkL z ds S else .st
    | none => .st)) := PE.imp (pe_lst ha) fun σ H Q h => by
  obtain ⟨G, B, e, S, s, h⟩ := h
  refine ⟨G, B, e, S, s, h.bind fun x1 H1 G1 B1 w1 S1 _ s1 x1' r1 h1 => ?_⟩
  split at h1
  · rename_i ds hd
    have r := dats_ok r1 hd
    have hl := r.length
    split at h1
    · rename_i hz
      exact ⟨by omega, h1.mkL s1 r (by omega)⟩
    · exact h1.elim
  · exact h1.elim
theorem ix_ok {x y : Expr} {pos : Pos} {fa fb : Env' → Sto → R W} (hs : noSlice y = true) (ha : PE X x (RE X Z Wx fa)) (hb : PE X y (RE X Z Wx fb)) :
    PE X (.Subscript x y pos) (RE X Z Wx fun e S => (fa e S).bind fun p S => (fb e S).bind fun q S => ixW p q S) := PE.imp (pe_ix opr_ix ha hb (noSlice_ok hs)) fun σ H Q h => by
  obtain ⟨G, B, e, S, s, h⟩ := h
  refine ⟨G, B, e, S, s, h.bind fun x1 H1 G1 B1 w1 S1 _ s1 x1' r1 h1 => ⟨G1, B1, e, S1, s.at s1 x1', h1.bind fun x2 H2 G2 B2 w2 S2 _ s2 x2' r2 h2 => ?_⟩⟩
  exact ix_sound s2 (RepW.mono x2' r1) r2 h2
theorem sl_ok {z : Bool} {x : Expr} {lo hi : Option Expr} {p2 pos : Pos} {fa : Env' → Sto → R W} {fl fh : Env' → Sto → R (Option Int)} (ha : PE X x (RE X Z Wx fa)) (hl : PO X lo (RO X Z Wx fl)) (hh : PO X hi (RO X Z Wx fh)) :
    PE X (.Subscript x (.Slice lo hi none p2) pos) (RE X Z Wx fun e S => (fa e S).bind fun x S => (fl e S).bind fun l S => (fh e S).bind fun h S => slW z x l h S) := PE.imp (pe_slice opr_sl ha hl hh) fun σ H Q h => by
  obtain ⟨G, B, e, S, s, h⟩ := h
  refine ⟨G, B, e, S, s, h.bind fun x1 H1 G1 B1 w1 S1 _ s1 x1' r1 h1 => ⟨G1, B1, e, S1, s.at s1 x1', h1.bind fun x2 H2 G2 B2 w2 S2 _ s2 x2' r2 h2 =>
    ⟨G2, B2, e, S2, (s.at s1 x1').at s2 x2', h2.bind fun x3 H3 G3 B3 w3 S3 _ s3 x3' r3 h3 => ?_⟩⟩⟩
  have r2 : x2 = w2 := r2
  have r3 : x3 = w3 := r3
  subst r2 r3
  exact sl_sound s3 (RepW.mono (x2'.trans x3') r1) h3
theorem part_ok {x : Expr} {fa : Env' → Sto → R W} (ha : PE X x (RE X Z Wx fa)) : PO X (some x) (RO X Z Wx fun e S => (fa e S).bind fun x S => intPart x S) := PO.imp (po_some ha) fun σ H Q h => by
  obtain ⟨G, B, e, S, s, h⟩ := h
  refine ⟨G, B, e, S, s, h.bind fun x1 H1 G1 B1 w1 S1 _ s1 x1' r1 h1 => ?_⟩
  unfold intPart at h1
  split at h1
  · simp only [rV, RepW, Rep] at r1
    exact ⟨_, r1, h1.here s1 rfl⟩
  · exact h1.elim
theorem nopart_ok : PO X none (RO X Z Wx fun _ S => .ok none S) := PO.imp po_none fun σ H Q h => by
  obtain ⟨G, B, e, S, s, h⟩ := h
  exact h.here s.h rfl
theorem anil_ok : PA X [] (RA X Z Wx fun _ S => .ok [] S) := PA.imp pa_nil fun σ H Q h => by
  obtain ⟨G, B, e, S, s, h⟩ := h
  exact h.here s.h (show RepWs _ _ _ [] [] from rfl)
theorem acons_ok {x : Expr} {es : List Expr} {fa : Env' → Sto → R W} {fl : Env' → Sto → R (List W)} (hs : noStar x = true) (ha : PE X x (RE X Z Wx fa)) (hl : PA X es (RA X Z Wx fl)) :
    PA X (x :: es) (RA X Z Wx fun e S => (fa e S).bind fun x S => (fl e S).bind fun xs S => .ok (x :: xs) S) := PA.imp (pa_cons ha hl (noStar_ok hs)) fun σ H Q h => by
  obtain ⟨G, B, e, S, s, h⟩ := h
  refine ⟨G, B, e, S, s, h.bind fun x1 H1 G1 B1 w1 S1 _ s1 x1' r1 h1 => ⟨G1, B1, e, S1, s.at s1 x1', h1.bind fun x2 H2 G2 B2 w2 S2 _ s2 x2' r2 h2 => ?_⟩⟩
  exact h2.here s2 ⟨x1, x2, rfl, RepW.mono x2' r1, r2⟩

/-! ### calls -/
theorem Bf.mem : ∀ f : Bf, f.name ∈ fnames := by
  intro f
  cases f <;> decide +kernel
theorem Bf.okN : ∀ f : Bf, f.name ≠ "__name__" ∧ (f.name == ("__debug__" : Str)) = false := by
  intro f
  cases f <;> decide +kernel
theorem bi_ok {z : Bool} {f : Bf} {x : Expr} {es : List Expr} {p pos : Pos} {n : Str} {fa : Env' → Sto → R (List W)} (c : Cxt g t L N sc so X) (hn : bltName sc n f.name = true) (hst : (x :: es).all noStar = true) (ha : PA X (x :: es) (RA X Z Wx fa)) :
    PE X (.Call (.Name n p) (x :: es) [] pos) (RE X Z Wx fun e S => (fa e S).bind fun ws S => biW z f ws S) := by
  obtain ⟨e1, gl, fr⟩ := c.nofree hn f.mem
  have st := hst
  rw [List.all_cons] at hst
  obtain ⟨s1, s2⟩ := ba hst
  have read : ∀ σ H Q, RE X Z Wx (fun e S => (fa e S).bind fun ws S => biW z f ws S) σ H Q → tCB (rdBi X.K f) (RA X Z Wx fa) σ H Q := fun σ H Q h => by
    obtain ⟨G, B, e, S, s, h⟩ := h
    exact ⟨G, B, e, S, s, h.bind fun x1 H1 G1 B1 w1 S1 _ s1 x1' r1 h1 => bi_sound s1 r1 h1⟩
  have o := opr_bi c.calm f
  have bo := f.boot
  have k := f.okN
  rw [← e1] at bo k
  cases hv : f.val with
  | builtin id =>
    rw [hv] at o bo
    exact PE.imp (pe_callB o gl fr bo ha k.1 k.2 (noStar_ok s1) (star_any s2)) read
  | type T =>
    rw [hv] at o bo
    exact PE.imp (pe_callTy o gl fr bo ha k.1 k.2 (noStar_ok s1) (star_any s2)) read
  | _ => cases f <;> cases hv
theorem ty_boot {ty : String} (h : ["list", "bool", "int"].contains ty = true) : bootBuiltins (Str.ofString ty) = some (.type ty) ∧ Str.ofString ty ∈ fnames ∧ Str.ofString ty ≠ "__name__" ∧ (Str.ofString ty == ("__debug__" : Str)) = false := by
  simp only [List.contains_cons, List.contains_nil, Bool.or_false, Bool.or_eq_true, beq_iff_eq] at h
  rcases h with rfl | rfl | rfl <;> decide +kernel
theorem isi_ok {ty : String} {x : Expr} {p p2 pos : Pos} {n m : Str} {fa : Env' → Sto → R W} (c : Cxt g t L N sc so X) (hn : bltName sc n "isinstance" = true) (ht : ["list", "bool", "int"].contains ty = true) (hm : bltName sc m (Str.ofString ty) = true) (hst : noStar x = true) (ha : PE X x (RE X Z Wx fa)) :
    PE X (.Call (.Name n p) [x, .Name m p2] [] pos) (RE X Z Wx fun e S => (fa e S).bind fun x S => optBW (isiW ty x S) S) := by
  obtain ⟨e1, gl, fr⟩ := c.nofree hn (by decide +kernel)
  obtain ⟨b1, b2, b3, b4⟩ := ty_boot ht
  obtain ⟨e2, gl2, fr2⟩ := c.nofree hm b2
  subst e1 e2
  refine PE.imp (pe_callB (id := "isinstance") call_isi gl fr (by decide +kernel) (pa_cons ha (pa_cons (pe_bltn gl2 fr2 b1 (v := .ty ty) rfl b3 b4) pa_nil) (noStar_ok hst)) (by decide +kernel) (by decide +kernel) (noStar_ok hst) (star_any (by rfl))) fun σ H Q h => ?_
  obtain ⟨G, B, e, S, s, h⟩ := h
  refine ⟨G, B, e, S, s, h.bind fun x1 H1 G1 B1 w1 S1 _ s1 x1' r1 h1 => ?_⟩
  obtain ⟨r, e1, h1⟩ := h1.optBW
  exact isi_sound s1 r1 e1 (h1.d1 s1 (by simp only [Rep]))
theorem me_ok {z : Bool} {m : Mf} {x y : Expr} {es : List Expr} {ap pos : Pos} {fo : Env' → Sto → R W} {fa : Env' → Sto → R (List W)} (hb : noSuper x = true) (hl : (ap.endLine == pos.line) = true) (hst : (y :: es).all noStar = true) (h30 : (y :: es).length < 30)
    (ho : PE X x (RE X Z Wx fo)) (ha : PA X (y :: es) (RA X Z Wx fa)) :
    PE X (.Call (.Attribute x m.name ap) (y :: es) [] pos) (RE X Z Wx fun e S => (fo e S).bind fun x S => if meTy S m x then (fa e S).bind fun ws S => meW z m x ws S else .st) := by
  have st := hst
  rw [List.all_cons] at hst
  obtain ⟨s1, s2⟩ := ba hst
  refine PE.imp (pe_bm m.pa m.slot m.md (opr_me m) ho ha (noSuper_ok hb) ?_ hl (noStar_ok s1) (star_any s2)) fun σ H Q h => ?_
  · rw [star_all st]
    show (true && true && decide _) = true
    have : (y :: es).length + ([] : List Keyword).length + (if ([] : List Keyword).isEmpty then 0 else 1) < 30 := h30
    rw [decide_eq_true this]
    rfl
  · obtain ⟨G, B, e, S, s, h⟩ := h
    refine ⟨G, B, e, S, s, h.bind fun x1 H1 G1 B1 w1 S1 _ s1 x1' r1 h1 => ?_⟩
    split at h1
    · rename_i ty
      exact ⟨meTy_ok s1 r1 ty, G1, B1, e, S1, s.at s1 x1', h1.bind fun x2 H2 G2 B2 w2 S2 _ s2 x2' r2 h2 => me_sound s2 (RepW.mono x2' r1) r2 h2⟩
    · exact h1.elim
theorem run_call {pins : List (Addr × Obj)} {σ : L2.St} {H : Hp} {s : Shared} {Q : VK} {us : List Value} {vs : List V} {cI : CI} {F : Fn} {f : Addr} (tk : Takes X Wx) (co : CallOk X.prog X.w X.K X.mg X.base L cI F f) (hr : Room L X.A) (I : Inv X pins σ H s) (r : Vals vs us) (hl : vs.length = cI.n)
    (h : spF (KX X) F vs H Q (fun cls d H' => Wx cls d σ H')) : wpAny (model X.prog X.w) X.A (call (.ref f) us) (EP X pins σ Q) X.xe s := by
  refine wpAny_call (codeAny_mono (co.run X.A X.stack s H us vs Q _ hr I.env0 r hl h) fun r s' hq => ?_)
  cases r with
  | error e => exact passAt tk σ pins H s e s' I hq
  | ok fl =>
    cases fl with
    | ret u => exact I.after hq
    | next => exact False.elim hq
    | brk => exact False.elim hq
    | cont => exact False.elim hq
theorem call_ok {n : Nat} {cI : CI} {x : Expr} {es : List Expr} {p pos : Pos} {ps : List Pl} {fa : Env' → Sto → R (List W)} (c : Cxt g t L N sc so X) (tk : Takes X Wx) (hc : g.calls[n]? = some cI) (hl : (x :: es).length = cI.n) (hg : gloB sc cI.name = true) (hk : okN cI.name = true) (hst : (x :: es).all noStar = true)
    (hal : ∀ e S ws S', fa e S = .ok ws S' → ws.length = (x :: es).length) (ha : PA X (x :: es) (RA X Z Wx fa)) :
    PE X (.Call (.Name cI.name p) (x :: es) [] pos) (RE X Z Wx fun e S => (fa e S).bind fun ws S => (match t.fn[n]? with
    | some F => callF F ws e ps S
    | none => .st)) := by
  obtain ⟨F, f, e1, co⟩ := c.call n cI hc
  refine ⟨fun pins s σ H Q I h => ?_⟩
  obtain ⟨G, B, e, S, sm, h⟩ := h
  have h' : RA X Z Wx fa σ H (fun vs H1 => vs.length = cI.n ∧ spF (KX X) F vs H1 Q (fun cls d H' => Wx cls d σ H')) := by
    refine ⟨G, B, e, S, sm, h.bind fun x1 H1 G1 B1 w1 S1 eq s1 x1' r1 h1 => ?_⟩
    rw [e1] at h1
    refine ⟨?_, call_sound s1 r1 h1⟩
    rw [← RepWs.length r1, hal e S w1 S1 eq, hl]
  refine wpAny_Call_Name_kw (ld_glob I (c.gl hg) co.gl ?_ (okN_ok hk).1)
  rw [List.all_cons] at hst
  obtain ⟨s1, s2⟩ := ba hst
  refine PySem.W.callWith_K (h₀ := X.base) I.ok.mod.kin co.kp (thn (ha.run pos pins s σ H _ I h') fun us s1 ⟨vs, H1, I1, r, ql, q⟩ => ⟨I1.kIn, ?_⟩) (noStar_ok s1) (star_any s2)
  exact run_call tk co c.room I1 r ql q
theorem call0_ok {n : Nat} {cI : CI} {p pos : Pos} {ps : List Pl} (c : Cxt g t L N sc so X) (tk : Takes X Wx) (hc : g.calls[n]? = some cI) (hl : cI.n = 0) (hg : gloB sc cI.name = true) (hk : okN cI.name = true) :
    PE X (.Call (.Name cI.name p) [] [] pos) (RE X Z Wx fun e S => (R.ok [] S).bind fun ws S => (match t.fn[n]? with
    | some F => callF F ws e ps S
    | none => .st)) := by
  obtain ⟨F, f, e1, co⟩ := c.call n cI hc
  refine ⟨fun pins s σ H Q I h => ?_⟩
  obtain ⟨G, B, e, S, sm, h⟩ := h
  dsimp only [R.bind] at h
  rw [e1] at h
  refine wpAny_Call_Name_kw (ld_glob I (c.gl hg) co.gl ?_ (okN_ok hk).1)
  refine PySem.W.callWith_K0 I.kIn co.kp ?_
  exact run_call tk co c.room I .nil hl.symm (call_sound sm.h (ws := []) (vs := []) rfl h)
end
end En

namespace En
open PySem PySem.Spec PyProof.Rows L2
section
variable {g : Gs} {t : Tb} {L : Nat} {N : List Str} {sc so : Scope} {X : Cx} {Z : Ent} {Wx : WX}
/-! ### tests -/
theorem val_ok {x : Expr} {fa : Env' → Sto → R W} (hp : plainT x = true) (ha : PE X x (RE X Z Wx fa)) :
    PT X x (RT X Z Wx fun e S => (fa e S).bind fun x S => (match x with
    | .d (.bl b) => .ok b S
    | _ => .st)) := PT.imp (pt_val ha (plainT_ok hp)) fun σ H Q h => by
  obtain ⟨G, B, e, S, s, h⟩ := h
  refine ⟨G, B, e, S, s, h.bind fun x1 H1 G1 B1 w1 S1 _ s1 x1' r1 h1 => ?_⟩
  split at h1
  · simp only [rV, RepW, Rep] at r1
    exact ⟨_, r1, h1.here s1 rfl⟩
  · exact h1.elim
theorem tru_sound {K : KW} {G H : Hp} {B : List Addr} {S : Sto} {w : W} {x : V} {k : Bool} (s : SimH K Z G B S H) (r : RepW K G B w x) (h : tru S w = some k) : TruV K.K x H k := by
  have seq : ∀ l, sv S w = some l → k = !l.isEmpty → TruV K.K x H k := fun l hl hk => by
    obtain ⟨a, vs, e1, h1, h2, h3⟩ := sv_ok s r hl
    have e2 : (!vs.isEmpty) = k := by
      rw [hk]
      have := h3.length
      cases l <;> cases vs <;> first | rfl | simp at this
    subst e1
    rcases h1 with h1 | h1
    · exact .inl ⟨vs, h1, e2.symm⟩
    · exact .inr (.inl ⟨vs, h1, e2.symm⟩)
  unfold tru at h
  split at h
  · simp only [RepW, Rep] at r
    subst r
    cases h
    exact rfl
  · simp only [RepW, Rep] at r
    subst r
    cases h
    exact rfl
  · simp only [RepW, Rep] at r
    subst r
    cases h
    exact rfl
  · split at h
    · rename_i hz
      simp only [RepW, Rep] at r
      subst r
      cases h
      refine ⟨hz, ?_⟩
      rename_i z
      cases e : z.length with
      | zero => rfl
      | succ n =>
        rw [Bool.eq_iff_iff]
        simp
        omega
    · cases h
  · simp only [Option.map_eq_some_iff] at h
    obtain ⟨l, h1, h2⟩ := h
    exact seq l h1 h2.symm
theorem tru_ok' {x : Expr} {fa : Env' → Sto → R W} (hp : plainT x = true) (ha : PE X x (RE X Z Wx fa)) :
    PT X x (RT X Z Wx fun e S => (fa e S).bind fun x S => optB (tru S x) S) := PT.imp (pt_truth ha (plainT_ok hp)) fun σ H Q h => by
  obtain ⟨G, B, e, S, s, h⟩ := h
  refine ⟨G, B, e, S, s, h.bind fun x1 H1 G1 B1 w1 S1 _ s1 x1' r1 h1 => ?_⟩
  obtain ⟨r, e1, h1⟩ := h1.optB
  exact ⟨r, tru_sound s1 r1 e1, h1.here s1 rfl⟩
theorem tnot_ok {x : Expr} {pos : Pos} {fa : Env' → Sto → R Bool} (ha : PT X x (RT X Z Wx fa)) :
    PT X (.UnaryOp .Not x pos) (RT X Z Wx fun e S => (fa e S).bind fun b S => .ok (!b) S) := PT.imp (pt_not ha) fun σ H Q h => by
  obtain ⟨G, B, e, S, s, h⟩ := h
  refine ⟨G, B, e, S, s, h.bind fun x1 H1 G1 B1 w1 S1 _ s1 x1' r1 h1 => ?_⟩
  have r1 : x1 = w1 := r1
  subst r1
  exact h1.here s1 rfl
theorem tand_ok {x y : Expr} {es : List Expr} {pos : Pos} {fa fb : Env' → Sto → R Bool} (ha : PT X x (RT X Z Wx fa)) (hb : PW X (.BoolOp .And (y :: es) pos) (RT X Z Wx fb)) :
    PW X (.BoolOp .And (x :: y :: es) pos) (RT X Z Wx fun e S => (fa e S).bind fun b S => match b with
    | true => fb e S
    | false => .ok false S) := PW.imp (pw_and ha hb) fun σ H Q h => by
  obtain ⟨G, B, e, S, s, h⟩ := h
  refine ⟨G, B, e, S, s, h.bind fun x1 H1 G1 B1 w1 S1 _ s1 x1' r1 h1 => ?_⟩
  have r1 : x1 = w1 := r1
  subst r1
  cases x1 with
  | true =>
    rw [if_pos rfl]
    exact ⟨G1, B1, e, S1, s.at s1 x1', h1⟩
  | false =>
    rw [if_neg Bool.false_ne_true]
    exact h1.here s1 rfl
theorem tor_ok {x y : Expr} {es : List Expr} {pos : Pos} {fa fb : Env' → Sto → R Bool} (ha : PT X x (RT X Z Wx fa)) (hb : PW X (.BoolOp .Or (y :: es) pos) (RT X Z Wx fb)) :
    PW X (.BoolOp .Or (x :: y :: es) pos) (RT X Z Wx fun e S => (fa e S).bind fun b S => match b with
    | true => .ok true S
    | false => fb e S) := PW.imp (pw_or ha hb) fun σ H Q h => by
  obtain ⟨G, B, e, S, s, h⟩ := h
  refine ⟨G, B, e, S, s, h.bind fun x1 H1 G1 B1 w1 S1 _ s1 x1' r1 h1 => ?_⟩
  have r1 : x1 = w1 := r1
  subst r1
  cases x1 with
  | true =>
    rw [if_pos rfl]
    exact h1.here s1 rfl
  | false =>
    rw [if_neg Bool.false_ne_true]
    exact ⟨G1, B1, e, S1, s.at s1 x1', h1⟩
theorem yes_ok : PTs X [] (RT X Z Wx fun _ S => .ok true S) := PTs.imp pts_nil fun σ H Q h => by
  obtain ⟨G, B, e, S, s, h⟩ := h
  exact h.here s.h rfl

/-! ### what is walked -/
theorem PI.or {tg it : Expr} {w w' : TI} (h : PI X tg it w) (h' : PI X tg it w') : PI X tg it (fun σ H R => w σ H R ∨ w' σ H R) := ⟨fun pins s σ H R I q => q.elim (h.run pins s σ H R I) (h'.run pins s σ H R I)⟩
theorem PI.nox {tg it : Expr} {w : TI} : PI X tg it (fun _ _ _ => False) := ⟨fun _ _ _ _ _ _ q => q.elim⟩
theorem map_get {l : List D} {i : Nat} {w : W} (h : (l.map W.d)[i]? = some w) : ∃ d, l[i]? = some d ∧ w = .d d := by
  rw [List.getElem?_map] at h
  cases e : l[i]? with
  | none =>
    rw [e] at h
    cases h
  | some d =>
    rw [e] at h
    exact ⟨d, rfl, (Option.some.inj h).symm⟩
theorem it_list {K : KW} {G1 : Hp} {a : Addr} {l : List D} {vs : List V} (h : SqL K.K G1 a vs) (r : RepL K G1 l vs) : ItOk K (Itl K.K a) G1 (l.map .d) := by
  intro Z G H B S sb s
  have q : SqL K.K H a vs := sub_l (sb.trans s.gh) h
  refine ⟨⟨vs, q, by rw [List.length_map, r.length]; exact Nat.le_refl _⟩, fun i w hw => ?_⟩
  obtain ⟨d, hd, rfl⟩ := map_get hw
  obtain ⟨v, hv, rv⟩ := r.get hd
  refine ⟨⟨vs, v, q, hv⟩, fun x H' y => ?_⟩
  obtain ⟨e, y⟩ := y
  subst e
  have := y vs q
  rw [hv] at this
  cases this
  exact ⟨G, s, Ext.refl G B, Rep.mono sb _ _ rv⟩
theorem it_tup {K : KW} {G1 : Hp} {a : Addr} {l : List D} {vs : List V} (h : SqT K.K G1 a vs) (r : RepL K G1 l vs) : ItOk K (Itt K.K a) G1 (l.map .d) := by
  intro Z G H B S sb s
  have q : SqT K.K H a vs := sub_t (sb.trans s.gh) h
  refine ⟨⟨vs, q, by rw [List.length_map, r.length]; exact Nat.le_refl _⟩, fun i w hw => ?_⟩
  obtain ⟨d, hd, rfl⟩ := map_get hw
  obtain ⟨v, hv, rv⟩ := r.get hd
  refine ⟨⟨vs, v, q, hv⟩, fun x H' y => ?_⟩
  obtain ⟨e, y⟩ := y
  subst e
  have := y vs q
  rw [hv] at this
  cases this
  exact ⟨G, s, Ext.refl G B, Rep.mono sb _ _ rv⟩
theorem it_rng {K : KW} {G1 : Hp} {lo : Int} {n : Nat} : ItOk K (Itr lo n) G1 (rngL lo n) := by
  intro Z G H B S sb s
  have hl : (rngL lo n).length = n := by
    unfold rngL
    rw [List.length_map, List.length_range]
  refine ⟨by show n ≤ (rngL lo n).length; omega, fun i w hw => ?_⟩
  have hi : i < n := by rw [← hl]; exact (List.getElem?_eq_some_iff.mp hw).1
  unfold rngL at hw
  rw [List.getElem?_map, List.getElem?_range hi] at hw
  cases hw
  refine ⟨hi, fun x H' y => ?_⟩
  obtain ⟨e, y⟩ := y
  subst e y
  exact ⟨G, s, Ext.refl G B, by simp only [RepW, Rep]⟩
theorem enmL_get : ∀ {l : List D} {k i : Nat} {w : W}, (enmL k l)[i]? = some w → ∃ d, l[i]? = some d ∧ w = .d (.tup [.int ((k + i : Nat) : Int), d])
  | [], k, i, w, h => by simp [enmL] at h
  | x :: l, k, 0, w, h => by
    simp [enmL] at h
    exact ⟨x, rfl, h.symm⟩
  | x :: l, k, i + 1, w, h => by
    have h : (enmL (k + 1) l)[i]? = some w := by simpa [enmL] using h
    obtain ⟨d, h1, h2⟩ := enmL_get h
    exact ⟨d, by simpa using h1, by rw [h2, show k + 1 + i = k + (i + 1) by omega]⟩
theorem enmL_len : ∀ {l : List D} {k : Nat}, (enmL k l).length = l.length
  | [], k => rfl
  | x :: l, k => by simp [enmL, enmL_len]
theorem it_enm {K : KW} {G1 : Hp} {a : Addr} {l : List D} {vs : List V} (h : SqL K.K G1 a vs) (r : RepL K G1 l vs) : ItOk K (Ite K.K a) G1 (enmL 0 l) := by
  intro Z G H B S sb s
  have q : SqL K.K H a vs := sub_l (sb.trans s.gh) h
  refine ⟨⟨vs, q, by rw [enmL_len, r.length]; exact Nat.le_refl _⟩, fun i w hw => ?_⟩
  obtain ⟨d, hd, rfl⟩ := enmL_get hw
  obtain ⟨v, hv, rv⟩ := r.get hd
  refine ⟨⟨vs, v, q, hv⟩, fun x H' y => ?_⟩
  obtain ⟨T, v', e1, e2, e3, y⟩ := y
  have := y vs q
  rw [hv] at this
  cases this
  subst e1 e3
  obtain ⟨s2, x2⟩ := s.newG (o := .tup [.int (i : Int), v]) e2
  refine ⟨_, s2, x2, ?_⟩
  simp only [RepW, Rep]
  refine ⟨T, [.int (i : Int), v], rfl, SqT.of upd_same, (by show 2 ≤ sizeLine; rw [sizeLine_eq]; omega), ?_⟩
  refine ⟨_, _, rfl, by simp only [Rep]; rw [Nat.zero_add], v, [], rfl, Rep.mono (sb.trans x2.sub) _ _ rv, by simp only [RepL]⟩
theorem it_chars {K : KW} {G1 : Hp} {z : Str} : ItOk K (Its z) G1 (z.cps.toList.map fun c => .d (.str ⟨#[c]⟩)) := by
  intro Z G H B S sb s
  have hl : (z.cps.toList.map fun c => W.d (.str ⟨#[c]⟩)).length = z.cps.size := by rw [List.length_map, Array.length_toList]
  refine ⟨by show z.cps.size ≤ _; omega, fun i w hw => ?_⟩
  rw [List.getElem?_map] at hw
  cases e : z.cps.toList[i]? with
  | none =>
    rw [e] at hw
    cases hw
  | some c =>
    rw [e] at hw
    cases hw
    refine ⟨by show i < z.cps.size; rw [← Array.length_toList]; exact (List.getElem?_eq_some_iff.mp e).1, fun x H' y => ?_⟩
    obtain ⟨e1, c', e2, e3⟩ := y
    subst e1 e3
    rw [Array.getElem?_toList] at e
    rw [e] at e2
    cases e2
    exact ⟨G, s, Ext.refl G B, by simp only [RepW, Rep]⟩
theorem seq_ok {tg x : Expr} {fa : Env' → Sto → R W} (ha : PE X x (RE X Z Wx fa)) :
    PI X tg x (RI X Z Wx fun e S => (fa e S).bind fun x S => (match x with
    | .d (.lst l) => .ok (l.map .d) S
    | .d (.tup l) => .ok (l.map .d) S
    | .d (.ro l) => .ok (l.map .d) S
    | _ => .st)) := PI.imp (PI.or (pi_list ha) (pi_tup ha)) fun σ H R h => by
  obtain ⟨G, B, e, S, s, h⟩ := h
  have main : ∀ l S1, fa e S = .ok (.d (.lst l)) S1 ∨ fa e S = .ok (.d (.ro l)) S1 → iList X.K (RE X Z Wx fa) σ H R := fun l S1 q => by
    refine ⟨G, B, e, S, s, h.bind fun x1 H1 G1 B1 w1 S2 eq s1 x1' r1 h1 => ?_⟩
    rcases q with q | q <;> rw [q] at eq <;> cases eq
    · simp only [rV, RepW, Rep] at r1
      obtain ⟨a, vs, e1, h2, h3, h4⟩ := r1
      exact ⟨a, e1, ⟨vs, SqL.of (s1.gh _ _ h2)⟩, h1.here s1 (it_list (SqL.of h2) h4)⟩
    · simp only [rV, RepW, Rep] at r1
      obtain ⟨a, vs, e1, h2, h3, h4⟩ := r1
      exact ⟨a, e1, ⟨vs, sub_l s1.gh h2⟩, h1.here s1 (it_list h2 h4)⟩
  dsimp only at h
  cases hf : fa e S with
  | st =>
    rw [hf] at h
    exact h.elim
  | ex c ns l S1 =>
    rw [hf] at h
    exact .inl ⟨G, B, e, S, s, by rw [hf]; exact h⟩
  | ok w S1 =>
    cases w with
    | m i =>
      rw [hf] at h
      exact h.elim
    | d y =>
      cases y with
      | lst l => exact .inl (main l S1 (.inl hf))
      | ro l => exact .inl (main l S1 (.inr hf))
      | tup l =>
        refine .inr ⟨G, B, e, S, s, h.bind fun x1 H1 G1 B1 w1 S2 eq s1 x1' r1 h1 => ?_⟩
        rw [hf] at eq
        cases eq
        simp only [rV, RepW, Rep] at r1
        obtain ⟨a, vs, e1, h2, h3, h4⟩ := r1
        exact ⟨a, e1, ⟨vs, sub_t s1.gh h2⟩, h1.here s1 (it_tup h2 h4)⟩
      | _ =>
        rw [hf] at h
        exact h.elim
theorem chars_ok {tg x : Expr} {fa : Env' → Sto → R W} (ha : PE X x (RE X Z Wx fa)) :
    PI X tg x (RI X Z Wx fun e S => (fa e S).bind fun x S => (match x with
    | .d (.str s) => .ok (s.cps.toList.map fun c => .d (.str ⟨#[c]⟩)) S
    | _ => .st)) := PI.imp (pi_str ha) fun σ H R h => by
  obtain ⟨G, B, e, S, s, h⟩ := h
  refine ⟨G, B, e, S, s, h.bind fun x1 H1 G1 B1 w1 S1 eq s1 x1' r1 h1 => ?_⟩
  split at h1
  · simp only [rV, RepW, Rep] at r1
    exact ⟨_, r1, h1.here s1 it_chars⟩
  · exact h1.elim
theorem rngOk_ok {i : Int} (h : rngOk i = true) : -(2 ^ 62) ≤ i ∧ i < 2 ^ 62 := by
  have h := of_decide_eq_true h
  omega
theorem one_ok {x : Expr} {fa : Env' → Sto → R W} (hs : noStar x = true) (ha : PE X x (RE X Z Wx fa)) : PA X [x] (RA X Z Wx fun e S => (fa e S).bind fun x S => .ok [x] S) := acons_ok hs ha anil_ok
theorem rng1_ok {tg x : Expr} {p pos : Pos} {n : Str} {fa : Env' → Sto → R W} (c : Cxt g t L N sc so X) (hn : bltName sc n "range" = true) (hs : noStar x = true) (ha : PE X x (RE X Z Wx fa)) :
    PI X tg (.Call (.Name n p) [x] [] pos) (RI X Z Wx fun e S => (fa e S).bind fun x S => (match x with
    | .d (.int i) => if rngOk i then .ok (rngL 0 i.toNat) S else .st
    | _ => .st)) := by
  obtain ⟨e1, gl, fr⟩ := c.nofree hn (by decide +kernel)
  subst e1
  refine PI.imp (pi_range1 gl fr (one_ok hs ha) (noStar_ok hs)) fun σ H R h => ?_
  obtain ⟨G, B, e, S, s, h⟩ := h
  refine ⟨G, B, e, S, s, QG.bind (rep' := rI (KX X)) (Q' := R) (g := fun ws S => match ws with
    | [.d (.int i)] => if rngOk i then .ok (rngL 0 i.toNat) S else .st
    | _ => .st) ?_ fun vs H1 G1 B1 ws S1 eq s1 x1' r1 h1 => ?_⟩
  · dsimp only at h ⊢
    cases hf : fa e S with
    | st =>
      rw [hf] at h
      exact h
    | ex c ns l S1 =>
      rw [hf] at h
      exact h
    | ok w S1 =>
      rw [hf] at h
      simp only [En.R.bind] at h ⊢
      split at h
      · exact h
      · exact h.elim
  · split at h1
    · split at h1
      · rename_i i _ hr
        obtain ⟨v, e2, r2⟩ := RepWs.one r1
        simp only [RepW, Rep] at r2
        obtain ⟨b1, b2⟩ := rngOk_ok hr
        exact ⟨_, by rw [e2, r2], b1, b2, h1.here s1 it_rng⟩
      · exact h1.elim
    · exact h1.elim
theorem rng2_ok {tg x y : Expr} {p pos : Pos} {n : Str} {fa fb : Env' → Sto → R W} (c : Cxt g t L N sc so X) (hn : bltName sc n "range" = true) (hs : noStar x = true) (hs' : noStar y = true) (ha : PE X x (RE X Z Wx fa)) (hb : PE X y (RE X Z Wx fb)) :
    PI X tg (.Call (.Name n p) [x, y] [] pos) (RI X Z Wx fun e S => (fa e S).bind fun x S => (fb e S).bind fun y S => (match x, y with
    | .d (.int i), .d (.int j) => if rngOk i && rngOk j then .ok (rngL i (j - i).toNat) S else .st
    | _, _ => .st)) := by
  obtain ⟨e1, gl, fr⟩ := c.nofree hn (by decide +kernel)
  subst e1
  refine PI.imp (pi_range2 gl fr (acons_ok hs ha (one_ok hs' hb)) (by rw [noStar_ok hs, noStar_ok hs']; rfl) (noStar_ok hs')) fun σ H R h => ?_
  obtain ⟨G, B, e, S, s, h⟩ := h
  refine ⟨G, B, e, S, s, QG.bind (rep' := rI (KX X)) (Q' := R) (g := fun ws S => match ws with
    | [.d (.int i), .d (.int j)] => if rngOk i && rngOk j then .ok (rngL i (j - i).toNat) S else .st
    | _ => .st) ?_ fun vs H1 G1 B1 ws S1 eq s1 x1' r1 h1 => ?_⟩
  · dsimp only at h ⊢
    cases hf : fa e S with
    | st =>
      rw [hf] at h
      exact h
    | ex c ns l S1 =>
      rw [hf] at h
      exact h
    | ok w S1 =>
      rw [hf] at h
      simp only [En.R.bind] at h ⊢
      cases hg : fb e S1 with
      | st =>
        rw [hg] at h
        exact h
      | ex c ns l S2 =>
        rw [hg] at h
        exact h
      | ok u S2 =>
        rw [hg] at h
        simp only [En.R.bind] at h ⊢
        split at h
        · exact h
        · exact h.elim
  · split at h1
    · split at h1
      · rename_i i j _ hr
        obtain ⟨hr1, hr2⟩ := ba hr
        obtain ⟨v, u, e2, r2, r3⟩ := RepWs.two r1
        simp only [RepW, Rep] at r2 r3
        obtain ⟨b1, b2⟩ := rngOk_ok hr1
        obtain ⟨b3, b4⟩ := rngOk_ok hr2
        exact ⟨_, _, by rw [e2, r2, r3], ⟨b1, b2, b3, b4⟩, h1.here s1 it_rng⟩
      · exact h1.elim
    · exact h1.elim
theorem enm_ok {x : Expr} {es : List Expr} {k : Nat} {p pos tp : Pos} {n : Str} {fa : Env' → Sto → R W} (c : Cxt g t L N sc so X) (hn : bltName sc n "enumerate" = true) (hs : noStar x = true) (ha : PE X x (RE X Z Wx fa)) :
    PI X (.Tuple es k tp) (.Call (.Name n p) [x] [] pos) (RI X Z Wx fun e S => (fa e S).bind fun x S => (match x with
    | .d (.lst l) => .ok (enmL 0 l) S
    | _ => .st)) := by
  obtain ⟨e1, gl, fr⟩ := c.nofree hn (by decide +kernel)
  subst e1
  refine PI.imp (pi_enum gl fr (one_ok hs ha) (noStar_ok hs)) fun σ H R h => ?_
  obtain ⟨G, B, e, S, s, h⟩ := h
  refine ⟨G, B, e, S, s, QG.bind (rep' := rI (KX X)) (Q' := R) (g := fun ws S => match ws with
    | [.d (.lst l)] => .ok (enmL 0 l) S
    | _ => .st) ?_ fun vs H1 G1 B1 ws S1 eq s1 x1' r1 h1 => ?_⟩
  · dsimp only at h ⊢
    cases hf : fa e S with
    | st =>
      rw [hf] at h
      exact h
    | ex c ns l S1 =>
      rw [hf] at h
      exact h
    | ok w S1 =>
      rw [hf] at h
      simp only [En.R.bind] at h ⊢
      split at h
      · exact h
      · exact h.elim
  · split at h1
    · obtain ⟨v, e2, r2⟩ := RepWs.one r1
      simp only [RepW, Rep] at r2
      obtain ⟨a, us, e3, h2, h3, h4⟩ := r2
      exact ⟨a, us, by rw [e2, e3], SqL.of (s1.gh _ _ h2), h1.here s1 (it_enm (SqL.of h2) h4)⟩
    · exact h1.elim

/-! ### targets -/
theorem Beside.refl (ts : List Nat) (σ : L2.St) : Beside ts σ σ := ⟨rfl, fun _ _ => rfl⟩
theorem nm_ok {i : Nat} {x : Str} {pos : Pos} (c : Cxt g t L N sc so X) (h1 : N[i]? = some x) (h2 : locB so x = true) : PG X (.Name x pos) (tgR (KX X) Z [i] (evG (.nm i))) := by
  obtain ⟨l1, l2⟩ := c.loc h2
  refine PG.imp (pg_name (i := i) (by rw [c.hN]; exact c.nd) (c.at h1) l1 l2) fun v σ H Q h => ?_
  obtain ⟨G, B, e, S, w, e1, s, r, hf, k⟩ := h
  simp only [evG] at hf
  split at hf
  · cases hf
    refine k _ (s.s.set r) ⟨by rw [List.length_set], fun j hj => ?_⟩
    exact List.getElem?_set_ne fun z => hj (by rw [z]; exact List.mem_singleton_self _)
  · cases hf
theorem gnil_ok : PGs X [] (tgL (KX X) Z [] (evGL .nil)) := PGs.imp pgs_nil fun vs σ H Q h => by
  obtain ⟨G, B, e, S, ds, e1, s, r, hf, k⟩ := h
  cases ds with
  | cons d ds => simp [evGL] at hf
  | nil =>
    simp only [evGL, Option.some.injEq] at hf
    subst hf
    simp only [RepL] at r
    exact ⟨r, k σ s.s (Beside.refl _ _)⟩
theorem assign_cons {e : Expr} {es : List Expr} {env : Env} (h : noStar e = true) : (assignEach (e :: es) env).map (·.2) = assign e env :: (assignEach es env).map (·.2) := by
  cases e <;> first
    | (cases h; done)
    | rfl
theorem assign_len {es : List Expr} {env : Env} : (assignEach es env).length = es.length := by
  induction es with
  | nil => rfl
  | cons e es ih =>
    cases e <;> (show (assignEach es env).length + 1 = es.length + 1; rw [ih])
theorem assign_star {es : List Expr} {env : Env} (h : es.all noStar = true) : (assignEach es env).findIdx? (·.1) = none := by
  induction es with
  | nil => rfl
  | cons e es ih =>
    rw [List.all_cons] at h
    obtain ⟨h1, h2⟩ := ba h
    have q : assignEach (e :: es) env = (false, assign e env) :: assignEach es env := by
      cases e <;> first
        | (cases h1; done)
        | rfl
    rw [q, List.findIdx?_cons]
    simp [ih h2]
theorem gcons_ok {x : Expr} {es : List Expr} {g1 : G} {l1 : GL} (hs : noStar x = true) (h1 : PG X x (tgR (KX X) Z g1.ts (evG g1))) (h2 : PGs X es (tgL (KX X) Z l1.ts (evGL l1))) :
    PGs X (x :: es) (tgL (KX X) Z (GL.cons g1 l1).ts (evGL (.cons g1 l1))) := PGs.imp (pgs_cons h1 h2 (assign_cons hs)) fun vs σ H Q h => by
  obtain ⟨G, B, e, S, ds, e1, s, r, hf, k⟩ := h
  cases ds with
  | nil => simp [evGL] at hf
  | cons d ds =>
    simp only [RepL] at r
    obtain ⟨v, u, ev, r1, r2⟩ := r
    simp only [evGL] at hf
    split at hf
    · rename_i e2 hg
      refine ⟨v, u, ev, G, B, e, S, .d d, e2, s, r1, hg, fun σ1 sl1 b1 => ⟨G, B, e2, S, ds, e1, ⟨s.h, sl1⟩, r2, hf, fun σ2 sl2 b2 => k σ2 sl2 ⟨b2.1.trans b1.1, fun i hi => ?_⟩⟩⟩
      rw [b2.2 i fun z => hi (List.mem_append_right _ z), b1.2 i fun z => hi (List.mem_append_left _ z)]
    · cases hf
theorem gtup_ok {es : List Expr} {k : Nat} {pos : Pos} {l1 : GL} (hc : X.calm = true) (hl : ∀ ds e S e1, evGL l1 ds e S = some e1 → ds.length = es.length) (hst : es.all noStar = true) (h : PGs X es (tgL (KX X) Z l1.ts (evGL l1))) :
    PG X (.Tuple es k pos) (tgR (KX X) Z (G.tup l1).ts (evG (.tup l1))) := PG.imp (pg_tup hc h rfl (assign_star hst)) fun v σ H Q h => by
  obtain ⟨G, B, e, S, w, e1, s, r, hf, k⟩ := h
  simp only [evG] at hf
  split at hf
  · simp only [RepW, Rep] at r
    obtain ⟨a, vs, e2, q1, q2, q3⟩ := r
    refine ⟨a, vs, e2, sub_t s.h.gh q1, ?_, G, B, e, S, _, e1, s, q3, hf, k⟩
    rw [assign_len, ← q3.length]
    exact hl _ _ _ _ hf
  · cases hf
end
end En

namespace En
open PySem PySem.Spec PyProof.Rows L2
section
variable {g : Gs} {t : Tb} {L : Nat} {N : List Str} {sc so : Scope} {X : Cx} {Z : Ent} {Wx : WX}
theorem lc_ok {x y z : Expr} {ifs : List Expr} {cs : Scope} {pos : Pos} {own : List (Str × Nat)} {tg : G} {b : Bool} {fi : Env' → Sto → R (List W)} {ft : Env' → Sto → R Bool} {fe : Env' → Sto → R W} (c : Cxt g t L N sc so X) (hb : blkC N sc cs own = true) (hts : (tg.ts.all fun i => (own.map (·.2)).contains i) = true) (hz : noSet z = true)
    (hi : PI X y z (RI X Z Wx fi)) (hg : ∀ X', Cxt g t L N (relS cs sc) cs X' → ∀ Z', PG X' y (tgR (KX X') Z' tg.ts (evG tg)))
    (ht : ∀ X', Cxt g t L N (relS cs sc) cs X' → ∀ Z', Takes X' W0 → PTs X' ifs (RT X' Z' W0 ft)) (he : ∀ X', Cxt g t L N (relS cs sc) cs X' → ∀ Z', Takes X' W0 → PE X' x (RE X' Z' W0 fe)) :
    PE X (.ListComp x [⟨y, z, ifs, 0⟩] cs pos) (RE X Z Wx fun e S => (fi e S).bind fun ws S => (loopC (evG tg) ft fe ws (kill e (own.map (·.2))) [] S).noX.bind fun l S => mkL b l S) := by
  have ok := blkOk_by hb
  have ok' : BlkOk X.N X.env.scope cs own := by
    rw [c.hN, c.hsc]
    exact ok
  refine PE.imp (pe_lc c.calm (by rw [c.hN]; exact c.nd) hi ok' (g := fun v σ H Q => ∃ Z', tgR (KX X) Z' tg.ts (evG tg) v σ H Q) (tt := fun σ H Q => ∃ Z', RT X Z' W0 ft σ H Q) (te := fun σ H Q => ∃ Z', RE X Z' W0 fe σ H Q)
    (fun s H C cl fp => PG.ex fun Z' => hg _ (c.blk ok.kind s H C cl fp) Z') (fun s H C cl fp => PTs.ex fun Z' => ht _ (c.blk ok.kind s H C cl fp) Z' takes0) (fun s H C cl fp => PE.ex fun Z' => he _ (c.blk ok.kind s H C cl fp) Z' takes0) (noSet_it hz)) fun σ H Q h => ?_
  refine lc_read (fun i hi => ?_) σ H Q h
  have q := List.all_eq_true.mp hts i hi
  simpa using q
theorem setLc_ok {x y z : Expr} {ifs : List Expr} {cs : Scope} {pos spos py : Pos} {own : List (Str × Nat)} {tg : G} {b : Bool} {i : Nat} {n : Str} {fi : Env' → Sto → R (List W)} {ft : Env' → Sto → R Bool} {fe : Env' → Sto → R W} (c : Cxt g t L N sc so X) (hb : blkC N sc cs own = true) (hts : (tg.ts.all fun i => (own.map (·.2)).contains i) = true) (hz : noSet z = true)
    (h1 : N[i]? = some n) (hloc : sc.names.lookup n = some .local) (hsw : swapsWith (.ListComp x [⟨y, z, ifs, 0⟩] cs pos) (some (.Name n py)) spos.line X.env = pure true)
    (hi : PI X y z (RI X Z Wx fi)) (hg : ∀ X', Cxt g t L N (relS cs sc) cs X' → ∀ Z', PG X' y (tgR (KX X') Z' tg.ts (evG tg)))
    (ht : ∀ X', Cxt g t L N (relS cs sc) cs X' → ∀ Z', Takes X' W0 → PTs X' ifs (RT X' Z' W0 ft)) (he : ∀ X', Cxt g t L N (relS cs sc) cs X' → ∀ Z', Takes X' W0 → PE X' x (RE X' Z' W0 fe)) :
    PS X (.Assign [.Name n py] (.ListComp x [⟨y, z, ifs, 0⟩] cs pos) spos) (fun D σ H => RE X Z Wx (fun e S => (fi e S).bind fun ws S => (loopC (evG tg) ft fe ws (kill e (own.map (·.2))) [] S).noX.bind fun l S => mkL b l S) σ H (fun v H1 => D.nx (σ.set i (some v)) H1)) := by
  have ok := blkOk_by hb
  have ok' : BlkOk X.N X.env.scope cs own := by
    rw [c.hN, c.hsc]
    exact ok
  refine PS.imp (ps_setLc (i := i) c.calm (by rw [c.hN]; exact c.nd) (c.at h1) (by rw [c.hsc]; exact hloc) hsw hi ok' (g := fun v σ H Q => ∃ Z', tgR (KX X) Z' tg.ts (evG tg) v σ H Q) (tt := fun σ H Q => ∃ Z', RT X Z' W0 ft σ H Q) (te := fun σ H Q => ∃ Z', RE X Z' W0 fe σ H Q)
    (fun s H C cl fp => PG.ex fun Z' => hg _ (c.blk ok.kind s H C cl fp) Z') (fun s H C cl fp => PTs.ex fun Z' => ht _ (c.blk ok.kind s H C cl fp) Z' takes0) (fun s H C cl fp => PE.ex fun Z' => he _ (c.blk ok.kind s H C cl fp) Z' takes0) (noSet_it hz)) fun D σ H h => ?_
  refine lc_read (fun i hi => ?_) σ H _ h
  have q := List.all_eq_true.mp hts i hi
  simpa using q
theorem chkA_star : ∀ {l : A} {es : List Expr}, chkA g N sc l es = true → es.all noStar = true
  | .nil, [], _ => rfl
  | .nil, _ :: _, h => by simp [chkA] at h
  | .cons a l, [], h => by simp [chkA] at h
  | .cons a l, x :: es, h => by
    simp only [chkA] at h
    obtain ⟨h1, h2⟩ := ba h
    obtain ⟨h2, h3⟩ := ba h2
    rw [List.all_cons, h1, chkA_star h3]
    rfl
theorem evA_len : ∀ {l : A} {es : List Expr}, chkA g N sc l es = true → ∀ e S ws S', evA t l e S = .ok ws S' → ws.length = es.length
  | .nil, [], _, e, S, ws, S', q => by
    simp only [evA, R.ok.injEq] at q
    rw [← q.1]
    rfl
  | .nil, _ :: _, h, _, _, _, _, _ => by simp [chkA] at h
  | .cons a l, [], h, _, _, _, _, _ => by simp [chkA] at h
  | .cons a l, x :: es, h, e, S, ws, S', q => by
    simp only [chkA] at h
    obtain ⟨h1, h2⟩ := ba h
    obtain ⟨h2, h3⟩ := ba h2
    simp only [evA] at q
    cases e1 : evE t a e S with
    | st =>
      rw [e1] at q
      cases q
    | ex c ns l S1 =>
      rw [e1] at q
      cases q
    | ok w S1 =>
      rw [e1] at q
      simp only [R.bind] at q
      cases e2 : evA t l e S1 with
      | st =>
        rw [e2] at q
        cases q
      | ex c ns l S1 =>
        rw [e2] at q
        cases q
      | ok us S2 =>
        rw [e2] at q
        simp only [R.bind, R.ok.injEq] at q
        rw [← q.1, List.length_cons, List.length_cons, evA_len h3 e S1 us S2 e2]
theorem chkGL_len : ∀ {l : GL} {es : List Expr}, chkGL N so l es = true → ∀ ds e S e1, evGL l ds e S = some e1 → ds.length = es.length
  | .nil, [], _, ds, e, S, e1, q => by
    cases ds with
    | nil => rfl
    | cons d ds => simp [evGL] at q
  | .nil, _ :: _, h, _, _, _, _, _ => by simp [chkGL] at h
  | .cons a l, [], h, _, _, _, _, _ => by simp [chkGL] at h
  | .cons a l, x :: es, h, ds, e, S, e1, q => by
    simp only [chkGL] at h
    obtain ⟨h1, h2⟩ := ba h
    obtain ⟨h2, h3⟩ := ba h2
    cases ds with
    | nil => simp [evGL] at q
    | cons d ds =>
      simp only [evGL] at q
      split at q
      · rw [List.length_cons, List.length_cons, chkGL_len h3 _ _ _ _ q]
      · cases q
theorem chkGL_star : ∀ {l : GL} {es : List Expr}, chkGL N so l es = true → es.all noStar = true
  | .nil, [], _ => rfl
  | .nil, _ :: _, h => by simp [chkGL] at h
  | .cons a l, [], h => by simp [chkGL] at h
  | .cons a l, x :: es, h => by
    simp only [chkGL] at h
    obtain ⟨h1, h2⟩ := ba h
    obtain ⟨h2, h3⟩ := ba h2
    rw [List.all_cons, h1, chkGL_star h3]
    rfl
end
section
variable {g : Gs} {t : Tb} {L : Nat} {N : List Str}
mutual
theorem sG : ∀ (u : G) (x : Expr) (sc so : Scope) (X : Cx) (Z : Ent), chkG N so u x = true → Cxt g t L N sc so X → PG X x (tgR (KX X) Z u.ts (evG u))
  | .nm i, x, sc, so, X, Z, h, c => by
    cases x <;> first
      | (simp [chkG] at h; done)
      | (simp only [chkG] at h
         obtain ⟨h1, h2⟩ := ba h
         exact nm_ok c (of_decide_eq_true h1) h2)
  | .tup l, x, sc, so, X, Z, h, c => by
    cases x <;> first
      | (simp [chkG] at h; done)
      | (simp only [chkG] at h
         exact gtup_ok c.calm (chkGL_len h) (chkGL_star h) (sGL l _ sc so X Z h c))
  | .two a b, x, sc, so, X, Z, h, c => by cases x <;> simp [chkG] at h
theorem sGL : ∀ (u : GL) (x : List Expr) (sc so : Scope) (X : Cx) (Z : Ent), chkGL N so u x = true → Cxt g t L N sc so X → PGs X x (tgL (KX X) Z u.ts (evGL u))
  | .nil, [], sc, so, X, Z, h, c => gnil_ok
  | .nil, _ :: _, sc, so, X, Z, h, c => by simp [chkGL] at h
  | .cons a l, [], sc, so, X, Z, h, c => by simp [chkGL] at h
  | .cons a l, x :: es, sc, so, X, Z, h, c => by
    simp only [chkGL] at h
    obtain ⟨h1, h2⟩ := ba h
    obtain ⟨h2, h3⟩ := ba h2
    exact gcons_ok h1 (sG a x sc so X Z h2 c) (sGL l es sc so X Z h3 c)
end
end
end En

namespace En
open PySem PySem.Spec PyProof.Rows L2
section
variable {g : Gs} {t : Tb} {L : Nat} {N : List Str}
theorem units_ok {sc so : Scope} {X : Cx} (c : Cxt g t L N sc so X) : X.A.units + 64 < cLine := c.room.units
theorem pts_of {u : T} {es : List Expr} {sc : Scope} {X : Cx} {Z : Ent} {Wx : WX} (h : chkTs g N sc u es = true) (k : ∀ x, chkT g N sc u x = true → PT X x (RT X Z Wx (evT t u))) : PTs X es (RT X Z Wx (evT t u)) := by
  rcases es with _ | ⟨x, _ | ⟨y, es⟩⟩
  · cases u <;> first
      | exact yes_ok
      | (cases (show false = true from h))
  · exact pts_one (k x h)
  · cases (show false = true from h)
mutual
theorem sE : ∀ (u : E) (x : Expr) (sc so : Scope) (X : Cx) (Z : Ent) (Wx : WX), chkE g N sc u x = true → Cxt g t L N sc so X → Takes X Wx → PE X x (RE X Z Wx (evE t u))
  | .var i, x, sc, so, X, Z, Wx, h, c, tk => by
    cases x <;> first
      | (unfold chkE at h; simp at h; done)
      | (simp only [chkE] at h
         exact var_ok c h)
  | .frz i, x, sc, so, X, Z, Wx, h, c, tk => by
    cases x <;> first
      | (unfold chkE at h; simp at h; done)
      | (simp only [chkE] at h
         exact frz_ok c h)
  | .int i, x, sc, so, X, Z, Wx, h, c, tk => by
    cases x <;> first
      | (unfold chkE at h; simp at h; done)
      | (rename_i v k p
         cases v <;> first
           | (unfold chkE at h; simp at h; done)
           | (simp only [chkE] at h
              have e := of_decide_eq_true h
              subst e
              exact cst_ok pe_int fun K G => by simp only [Rep]))
  | .str i, x, sc, so, X, Z, Wx, h, c, tk => by
    cases x <;> first
      | (unfold chkE at h; simp at h; done)
      | (rename_i v k p
         cases v <;> first
           | (unfold chkE at h; simp at h; done)
           | (simp only [chkE] at h
              have e := of_decide_eq_true h
              subst e
              exact cst_ok pe_str fun K G => by simp only [Rep]))
  | .bl i, x, sc, so, X, Z, Wx, h, c, tk => by
    cases x <;> first
      | (unfold chkE at h; simp at h; done)
      | (rename_i v k p
         cases v <;> first
           | (unfold chkE at h; simp at h; done)
           | (simp only [chkE] at h
              have e := beq_iff_eq.mp h
              subst e
              exact cst_ok pe_bl fun K G => by simp only [Rep]))
  | .non, x, sc, so, X, Z, Wx, h, c, tk => by
    cases x <;> first
      | (unfold chkE at h; simp at h; done)
      | (rename_i v k p
         cases v <;> first
           | (unfold chkE at h; simp at h; done)
           | exact cst_ok pe_non fun K G => by simp only [Rep])
  | .glo n, x, sc, so, X, Z, Wx, h, c, tk => by
    cases x <;> first
      | (unfold chkE at h; simp at h; done)
      | (simp only [chkE] at h
         obtain ⟨h1, h2⟩ := ba h
         obtain ⟨h2, h3⟩ := ba h2
         exact glo_ok c (of_decide_eq_true h1) h2 h3)
  | .op z o a b, x, sc, so, X, Z, Wx, h, c, tk => by
    cases x <;> first
      | (unfold chkE at h; simp at h; done)
      | (simp only [chkE] at h
         obtain ⟨h1, h2⟩ := ba h
         obtain ⟨h2, h3⟩ := ba h2
         have e := of_decide_eq_true h1
         rw [← e]
         exact op_ok (sE a _ sc so X Z Wx h2 c tk) (sE b _ sc so X Z Wx h3 c tk))
  | .neg a, x, sc, so, X, Z, Wx, h, c, tk => by
    cases x <;> first
      | (unfold chkE at h; simp at h; done)
      | (rename_i o y p
         cases o <;> first
           | (unfold chkE at h; simp at h; done)
           | (simp only [chkE] at h
              exact neg_ok (sE a _ sc so X Z Wx h c tk)))
  | .cmp o a b, x, sc, so, X, Z, Wx, h, c, tk => by
    cases x <;> first
      | (unfold chkE at h; simp at h; done)
      | (rename_i y ops ys p
         rcases ops with _ | ⟨p1, _ | ⟨p2, ops⟩⟩ <;> rcases ys with _ | ⟨y1, _ | ⟨y2, ys⟩⟩ <;> first
           | (unfold chkE at h; simp at h; done)
           | (simp only [chkE] at h
              obtain ⟨h1, h2⟩ := ba h
              obtain ⟨h2, h3⟩ := ba h2
              obtain ⟨h3, h4⟩ := ba h3
              have e := of_decide_eq_true h1
              rw [← e]
              exact cmp_ok (units_ok c) h2 (sE a _ sc so X Z Wx h3 c tk) (sE b _ sc so X Z Wx h4 c tk)))
  | .chn o o' a b d, x, sc, so, X, Z, Wx, h, c, tk => by
    cases x <;> first
      | (unfold chkE at h; simp at h; done)
      | (rename_i y ops ys p
         rcases ops with _ | ⟨p1, _ | ⟨p2, _ | ⟨p3, ops⟩⟩⟩ <;> rcases ys with _ | ⟨y1, _ | ⟨y2, _ | ⟨y3, ys⟩⟩⟩ <;> first
           | (unfold chkE at h; simp at h; done)
           | (simp only [chkE] at h
              obtain ⟨h1, h2⟩ := ba h
              obtain ⟨h1, h1'⟩ := ba h1
              obtain ⟨h2, h3⟩ := ba h2
              obtain ⟨h3, h4⟩ := ba h3
              obtain ⟨h4, h5⟩ := ba h4
              have e := of_decide_eq_true h1
              have e' := of_decide_eq_true h1'
              rw [← e, ← e']
              exact chn_ok (units_ok c) h2 (sE a _ sc so X Z Wx h3 c tk) (sE b _ sc so X Z Wx h4 c tk) (sE d _ sc so X Z Wx h5 c tk)))
  | .and l, x, sc, so, X, Z, Wx, h, c, tk => by
    cases x <;> first
      | (unfold chkE at h; simp at h; done)
      | (rename_i o es p
         cases o <;> first
           | (unfold chkE at h; simp at h; done)
           | (simp only [chkE] at h
              exact sAnd l _ sc so X Z Wx _ h c tk))
  | .or l, x, sc, so, X, Z, Wx, h, c, tk => by
    cases x <;> first
      | (unfold chkE at h; simp at h; done)
      | (rename_i o es p
         cases o <;> first
           | (unfold chkE at h; simp at h; done)
           | (simp only [chkE] at h
              exact sOr l _ sc so X Z Wx _ h c tk))
  | .not a, x, sc, so, X, Z, Wx, h, c, tk => by
    cases x <;> first
      | (unfold chkE at h; simp at h; done)
      | (rename_i o y p
         cases o <;> first
           | (unfold chkE at h; simp at h; done)
           | (simp only [chkE] at h
              exact not_ok (sE a _ sc so X Z Wx h c tk)))
  | .ite q a b, x, sc, so, X, Z, Wx, h, c, tk => by
    cases x <;> first
      | (unfold chkE at h; simp at h; done)
      | (simp only [chkE] at h
         obtain ⟨h1, h2⟩ := ba h
         obtain ⟨h2, h3⟩ := ba h2
         exact ite_ok (sT q _ sc so X Z Wx h1 c tk) (sE a _ sc so X Z Wx h2 c tk) (sE b _ sc so X Z Wx h3 c tk))
  | .tup l, x, sc, so, X, Z, Wx, h, c, tk => by
    cases x <;> first
      | (unfold chkE at h; simp at h; done)
      | (simp only [chkE] at h
         exact tup_ok (sA l _ sc so X Z Wx h c tk))
  | .lst z l, x, sc, so, X, Z, Wx, h, c, tk => by
    cases x <;> first
      | (unfold chkE at h; simp at h; done)
      | (simp only [chkE] at h
         exact lst_ok (sA l _ sc so X Z Wx h c tk))
  | .ix a b, x, sc, so, X, Z, Wx, h, c, tk => by
    cases x <;> first
      | (unfold chkE at h; simp at h; done)
      | (simp only [chkE] at h
         obtain ⟨h1, h2⟩ := ba h
         obtain ⟨h2, h3⟩ := ba h2
         exact ix_ok h1 (sE a _ sc so X Z Wx h2 c tk) (sE b _ sc so X Z Wx h3 c tk))
  | .sl z a lo hi, x, sc, so, X, Z, Wx, h, c, tk => by
    cases x <;> first
      | (unfold chkE at h; simp at h; done)
      | (rename_i y s p
         cases s <;> first
           | (unfold chkE at h; simp at h; done)
           | (rename_i l u st p2
              cases st <;> first
                | (unfold chkE at h; simp at h; done)
                | (simp only [chkE] at h
                   obtain ⟨h1, h2⟩ := ba h
                   obtain ⟨h2, h3⟩ := ba h2
                   exact sl_ok (sE a _ sc so X Z Wx h1 c tk) (sO lo _ sc so X Z Wx h2 c tk) (sO hi _ sc so X Z Wx h3 c tk))))
  | .call n l ps, x, sc, so, X, Z, Wx, h, c, tk => by
    cases x <;> first
      | (unfold chkE at h; simp at h; done)
      | (rename_i f es kws p
         cases f <;> first
           | (unfold chkE at h; simp at h; done)
           | (cases kws <;> first
                | (unfold chkE at h; simp at h; done)
                | (rename_i nm np
                   simp only [chkE] at h
                   obtain ⟨h1, k2⟩ := ba h
                   obtain ⟨h2, k3⟩ := ba k2
                   obtain ⟨h3, h4⟩ := ba k3
                   clear k2 k3 h
                   cases hc : g.calls[n]? with
                   | none =>
                     rw [hc] at h1
                     cases h1
                   | some cI =>
                     rw [hc] at h1
                     obtain ⟨h5, h6⟩ := ba h1
                     have e1 := of_decide_eq_true h5
                     have e2 := of_decide_eq_true h6
                     subst e1
                     cases es with
                     | nil =>
                       cases l with
                       | nil =>
                         have q := call0_ok (p := np) (pos := p) (Z := Z) (ps := ps) c tk hc e2.symm h2 h3
                         exact q
                       | cons a l => (unfold chkA at h4; simp at h4)
                     | cons y es =>
                       exact call_ok c tk hc e2 h2 h3 (chkA_star h4) (fun e S ws S' q => evA_len h4 e S ws S' q) (sA l _ sc so X Z Wx h4 c tk))))
  | .bi z f l, x, sc, so, X, Z, Wx, h, c, tk => by
    cases x <;> first
      | (unfold chkE at h; simp at h; done)
      | (rename_i fe es kws p
         cases fe <;> first
           | (unfold chkE at h; simp at h; done)
           | (cases kws <;> first
                | (unfold chkE at h; simp at h; done)
                | (simp only [chkE] at h
                   obtain ⟨h1, h2⟩ := ba h
                   obtain ⟨h2, h3⟩ := ba h2
                   cases es with
                   | nil => simp at h2
                   | cons y es => exact bi_ok c h1 (chkA_star h3) (sA l _ sc so X Z Wx h3 c tk))))
  | .isi a ty, x, sc, so, X, Z, Wx, h, c, tk => by
    cases x <;> first
      | (unfold chkE at h; simp at h; done)
      | (rename_i fe es kws p
         cases fe <;> first
           | (unfold chkE at h; simp at h; done)
           | (cases kws <;> first
                | (unfold chkE at h; simp at h; done)
                | (rcases es with _ | ⟨y, _ | ⟨w, _ | ⟨w2, es⟩⟩⟩ <;> first
                     | (unfold chkE at h; simp at h; done)
                     | (cases w <;> first
                          | (unfold chkE at h; simp at h; done)
                          | (simp only [chkE] at h
                             obtain ⟨h1, h2⟩ := ba h
                             obtain ⟨h2, h3⟩ := ba h2
                             obtain ⟨h2, h2'⟩ := ba h2
                             obtain ⟨h3, h4⟩ := ba h3
                             exact isi_ok c h1 h2 h2' h3 (sE a _ sc so X Z Wx h4 c tk))))))
  | .me z m o l, x, sc, so, X, Z, Wx, h, c, tk => by
    cases x <;> first
      | (unfold chkE at h; simp at h; done)
      | (rename_i fe es kws p
         cases fe <;> first
           | (unfold chkE at h; simp at h; done)
           | (cases kws <;> first
                | (unfold chkE at h; simp at h; done)
                | (simp only [chkE] at h
                   obtain ⟨h1, k2⟩ := ba h
                   obtain ⟨k2, k3⟩ := ba k2
                   obtain ⟨h2, h2'⟩ := ba k2
                   obtain ⟨k3, k4⟩ := ba k3
                   obtain ⟨h3, h3'⟩ := ba k3
                   obtain ⟨h4, h5⟩ := ba k4
                   have e := of_decide_eq_true h1
                   clear h k2 k3 k4
                   subst e
                   cases es with
                   | nil => simp at h3
                   | cons y es => exact me_ok h2 h2' (chkA_star h5) (of_decide_eq_true h3') (sE o _ sc so X Z Wx h4 c tk) (sA l _ sc so X Z Wx h5 c tk))))
  | .lc z own tg s tt e, x, sc, so, X, Z, Wx, h, c, tk => by
    cases x <;> first
      | (unfold chkE at h; simp at h; done)
      | (rename_i y gens cs p
         rcases gens with _ | ⟨⟨w, it, ifs, n⟩, _ | ⟨g2, gens⟩⟩ <;> first
           | (unfold chkE at h; simp at h; done)
           | (simp only [chkE] at h
              obtain ⟨h0, h9⟩ := ba h
              clear h
              have h7 := of_decide_eq_true h0
              clear h0
              subst h7
              obtain ⟨h1, h2⟩ := ba h9
              obtain ⟨h1, h1'⟩ := ba h1
              obtain ⟨h2, h3⟩ := ba h2
              obtain ⟨h2, h2'⟩ := ba h2
              obtain ⟨h3, h4⟩ := ba h3
              obtain ⟨h4, h5⟩ := ba h4
              exact lc_ok c h1 h1' h2 (sSc s _ _ sc so X Z Wx h2' c tk) (fun X' c' Z' => sG tg _ _ _ X' Z' h3 c') (fun X' c' Z' tk' => pts_of h4 fun x hx => sT tt x _ _ X' Z' W0 hx c' tk') (fun X' c' Z' tk' => sE e _ _ _ X' Z' W0 h5 c' tk')))
termination_by structural u => u
theorem sAnd : ∀ (u : EL) (es : List Expr) (sc so : Scope) (X : Cx) (Z : Ent) (Wx : WX) (p : Pos), chkEL g N sc u es = true → Cxt g t L N sc so X → Takes X Wx → PE X (.BoolOp .And es p) (RE X Z Wx (evAnd t u))
  | .one a, es, sc, so, X, Z, Wx, p, h, c, tk => by
    rcases es with _ | ⟨x, _ | ⟨y, es⟩⟩ <;> first
      | (unfold chkEL at h; simp at h; done)
      | (simp only [chkEL] at h
         exact pe_one (sE a _ sc so X Z Wx h c tk))
  | .cons a l, es, sc, so, X, Z, Wx, p, h, c, tk => by
    rcases es with _ | ⟨x, _ | ⟨y, es⟩⟩
    · (unfold chkEL at h; simp at h)
    · simp only [chkEL] at h
      obtain ⟨h1, h2⟩ := ba h
      cases l <;> cases (show false = true from h2)
    · simp only [chkEL] at h
      obtain ⟨h1, h2⟩ := ba h
      exact and_ok (sE a _ sc so X Z Wx h1 c tk) (sAnd l _ sc so X Z Wx _ h2 c tk)
termination_by structural u => u
theorem sOr : ∀ (u : EL) (es : List Expr) (sc so : Scope) (X : Cx) (Z : Ent) (Wx : WX) (p : Pos), chkEL g N sc u es = true → Cxt g t L N sc so X → Takes X Wx → PE X (.BoolOp .Or es p) (RE X Z Wx (evOr t u))
  | .one a, es, sc, so, X, Z, Wx, p, h, c, tk => by
    rcases es with _ | ⟨x, _ | ⟨y, es⟩⟩ <;> first
      | (unfold chkEL at h; simp at h; done)
      | (simp only [chkEL] at h
         exact pe_one (sE a _ sc so X Z Wx h c tk))
  | .cons a l, es, sc, so, X, Z, Wx, p, h, c, tk => by
    rcases es with _ | ⟨x, _ | ⟨y, es⟩⟩
    · (unfold chkEL at h; simp at h)
    · simp only [chkEL] at h
      obtain ⟨h1, h2⟩ := ba h
      cases l <;> cases (show false = true from h2)
    · simp only [chkEL] at h
      obtain ⟨h1, h2⟩ := ba h
      exact or_ok (sE a _ sc so X Z Wx h1 c tk) (sOr l _ sc so X Z Wx _ h2 c tk)
termination_by structural u => u
theorem sA : ∀ (u : A) (es : List Expr) (sc so : Scope) (X : Cx) (Z : Ent) (Wx : WX), chkA g N sc u es = true → Cxt g t L N sc so X → Takes X Wx → PA X es (RA X Z Wx (evA t u))
  | .nil, es, sc, so, X, Z, Wx, h, c, tk => by
    cases es <;> first
      | (unfold chkA at h; simp at h; done)
      | exact anil_ok
  | .cons a l, es, sc, so, X, Z, Wx, h, c, tk => by
    cases es <;> first
      | (unfold chkA at h; simp at h; done)
      | (simp only [chkA] at h
         obtain ⟨h1, h2⟩ := ba h
         obtain ⟨h2, h3⟩ := ba h2
         exact acons_ok h1 (sE a _ sc so X Z Wx h2 c tk) (sA l _ sc so X Z Wx h3 c tk))
termination_by structural u => u
theorem sO : ∀ (u : O) (x : Option Expr) (sc so : Scope) (X : Cx) (Z : Ent) (Wx : WX), chkO g N sc u x = true → Cxt g t L N sc so X → Takes X Wx → PO X x (RO X Z Wx (evO t u))
  | .no, x, sc, so, X, Z, Wx, h, c, tk => by
    cases x <;> first
      | (unfold chkO at h; simp at h; done)
      | exact nopart_ok
  | .so a, x, sc, so, X, Z, Wx, h, c, tk => by
    cases x <;> first
      | (unfold chkO at h; simp at h; done)
      | (simp only [chkO] at h
         exact part_ok (sE a _ sc so X Z Wx h c tk))
termination_by structural u => u
theorem sT : ∀ (u : T) (x : Expr) (sc so : Scope) (X : Cx) (Z : Ent) (Wx : WX), chkT g N sc u x = true → Cxt g t L N sc so X → Takes X Wx → PT X x (RT X Z Wx (evT t u))
  | .yes, x, sc, so, X, Z, Wx, h, c, tk => by cases x <;> (unfold chkT at h; simp at h)
  | .val a, x, sc, so, X, Z, Wx, h, c, tk => by
    simp only [chkT] at h
    obtain ⟨h1, h2⟩ := ba h
    exact val_ok h1 (sE a _ sc so X Z Wx h2 c tk)
  | .tru a, x, sc, so, X, Z, Wx, h, c, tk => by
    simp only [chkT] at h
    obtain ⟨h1, h2⟩ := ba h
    exact tru_ok' h1 (sE a _ sc so X Z Wx h2 c tk)
  | .cmp o a b, x, sc, so, X, Z, Wx, h, c, tk => by
    cases x <;> first
      | (unfold chkT at h; simp at h; done)
      | (rename_i y ops ys p
         rcases ops with _ | ⟨p1, _ | ⟨p2, ops⟩⟩ <;> rcases ys with _ | ⟨y1, _ | ⟨y2, ys⟩⟩ <;> first
           | (unfold chkT at h; simp at h; done)
           | (simp only [chkT] at h
              obtain ⟨h1, h2⟩ := ba h
              obtain ⟨h2, h3⟩ := ba h2
              obtain ⟨h3, h4⟩ := ba h3
              have e := of_decide_eq_true h1
              rw [← e]
              exact cmpT_ok (units_ok c) h2 (sE a _ sc so X Z Wx h3 c tk) (sE b _ sc so X Z Wx h4 c tk)))
  | .chn o o' a b d, x, sc, so, X, Z, Wx, h, c, tk => by
    cases x <;> first
      | (unfold chkT at h; simp at h; done)
      | (rename_i y ops ys p
         rcases ops with _ | ⟨p1, _ | ⟨p2, _ | ⟨p3, ops⟩⟩⟩ <;> rcases ys with _ | ⟨y1, _ | ⟨y2, _ | ⟨y3, ys⟩⟩⟩ <;> first
           | (unfold chkT at h; simp at h; done)
           | (simp only [chkT] at h
              obtain ⟨h1, h2⟩ := ba h
              obtain ⟨h1, h1'⟩ := ba h1
              obtain ⟨h2, h3⟩ := ba h2
              obtain ⟨h3, h4⟩ := ba h3
              obtain ⟨h4, h5⟩ := ba h4
              have e := of_decide_eq_true h1
              have e' := of_decide_eq_true h1'
              rw [← e, ← e']
              exact chnT_ok (units_ok c) h2 (sE a _ sc so X Z Wx h3 c tk) (sE b _ sc so X Z Wx h4 c tk) (sE d _ sc so X Z Wx h5 c tk)))
  | .and l, x, sc, so, X, Z, Wx, h, c, tk => by
    cases x <;> first
      | (unfold chkT at h; simp at h; done)
      | (rename_i o es p
         cases o <;> first
           | (unfold chkT at h; simp at h; done)
           | (simp only [chkT] at h
              exact (sTA l _ sc so X Z Wx _ h c tk).pt))
  | .or l, x, sc, so, X, Z, Wx, h, c, tk => by
    cases x <;> first
      | (unfold chkT at h; simp at h; done)
      | (rename_i o es p
         cases o <;> first
           | (unfold chkT at h; simp at h; done)
           | (simp only [chkT] at h
              exact (sTO l _ sc so X Z Wx _ h c tk).pt))
  | .not a, x, sc, so, X, Z, Wx, h, c, tk => by
    cases x <;> first
      | (unfold chkT at h; simp at h; done)
      | (rename_i o y p
         cases o <;> first
           | (unfold chkT at h; simp at h; done)
           | (simp only [chkT] at h
              exact tnot_ok (sT a _ sc so X Z Wx h c tk)))
termination_by structural u => u
theorem sTA : ∀ (u : TL) (es : List Expr) (sc so : Scope) (X : Cx) (Z : Ent) (Wx : WX) (p : Pos), chkTL g N sc u es = true → Cxt g t L N sc so X → Takes X Wx → PW X (.BoolOp .And es p) (RT X Z Wx (evTA t u))
  | .one a, es, sc, so, X, Z, Wx, p, h, c, tk => by
    rcases es with _ | ⟨x, _ | ⟨y, es⟩⟩ <;> first
      | (unfold chkTL at h; simp at h; done)
      | (simp only [chkTL] at h
         exact pw_and1 (sT a _ sc so X Z Wx h c tk))
  | .cons a l, es, sc, so, X, Z, Wx, p, h, c, tk => by
    rcases es with _ | ⟨x, _ | ⟨y, es⟩⟩
    · (unfold chkTL at h; simp at h)
    · simp only [chkTL] at h
      obtain ⟨h1, h2⟩ := ba h
      cases l <;> cases (show false = true from h2)
    · simp only [chkTL] at h
      obtain ⟨h1, h2⟩ := ba h
      exact tand_ok (sT a _ sc so X Z Wx h1 c tk) (sTA l _ sc so X Z Wx _ h2 c tk)
termination_by structural u => u
theorem sTO : ∀ (u : TL) (es : List Expr) (sc so : Scope) (X : Cx) (Z : Ent) (Wx : WX) (p : Pos), chkTL g N sc u es = true → Cxt g t L N sc so X → Takes X Wx → PW X (.BoolOp .Or es p) (RT X Z Wx (evTO t u))
  | .one a, es, sc, so, X, Z, Wx, p, h, c, tk => by
    rcases es with _ | ⟨x, _ | ⟨y, es⟩⟩ <;> first
      | (unfold chkTL at h; simp at h; done)
      | (simp only [chkTL] at h
         exact pw_or1 (sT a _ sc so X Z Wx h c tk))
  | .cons a l, es, sc, so, X, Z, Wx, p, h, c, tk => by
    rcases es with _ | ⟨x, _ | ⟨y, es⟩⟩
    · (unfold chkTL at h; simp at h)
    · simp only [chkTL] at h
      obtain ⟨h1, h2⟩ := ba h
      cases l <;> cases (show false = true from h2)
    · simp only [chkTL] at h
      obtain ⟨h1, h2⟩ := ba h
      exact tor_ok (sT a _ sc so X Z Wx h1 c tk) (sTO l _ sc so X Z Wx _ h2 c tk)
termination_by structural u => u
theorem sSc : ∀ (u : Sc) (x y : Expr) (sc so : Scope) (X : Cx) (Z : Ent) (Wx : WX), chkSc g N sc u x y = true → Cxt g t L N sc so X → Takes X Wx → PI X y x (RI X Z Wx (evSc t u))
  | .seq a, x, y, sc, so, X, Z, Wx, h, c, tk => by
    simp only [chkSc] at h
    exact seq_ok (sE a _ sc so X Z Wx h c tk)
  | .chars a, x, y, sc, so, X, Z, Wx, h, c, tk => by
    simp only [chkSc] at h
    exact chars_ok (sE a _ sc so X Z Wx h c tk)
  | .rng1 a, x, y, sc, so, X, Z, Wx, h, c, tk => by
    cases x <;> first
      | (unfold chkSc at h; simp at h; done)
      | (rename_i f es kws p
         cases f <;> first
           | (unfold chkSc at h; simp at h; done)
           | (cases kws <;> first
                | (unfold chkSc at h; simp at h; done)
                | (rcases es with _ | ⟨x1, _ | ⟨x2, es⟩⟩ <;> first
                     | (unfold chkSc at h; simp at h; done)
                     | (simp only [chkSc] at h
                        obtain ⟨h1, h2⟩ := ba h
                        obtain ⟨h2, h3⟩ := ba h2
                        exact rng1_ok c h1 h2 (sE a _ sc so X Z Wx h3 c tk)))))
  | .rng2 a b, x, y, sc, so, X, Z, Wx, h, c, tk => by
    cases x <;> first
      | (unfold chkSc at h; simp at h; done)
      | (rename_i f es kws p
         cases f <;> first
           | (unfold chkSc at h; simp at h; done)
           | (cases kws <;> first
                | (unfold chkSc at h; simp at h; done)
                | (rcases es with _ | ⟨x1, _ | ⟨x2, _ | ⟨x3, es⟩⟩⟩ <;> first
                     | (unfold chkSc at h; simp at h; done)
                     | (simp only [chkSc] at h
                        obtain ⟨h1, h2⟩ := ba h
                        obtain ⟨h2, h3⟩ := ba h2
                        obtain ⟨h2, h2'⟩ := ba h2
                        obtain ⟨h3, h4⟩ := ba h3
                        exact rng2_ok c h1 h2 h2' (sE a _ sc so X Z Wx h3 c tk) (sE b _ sc so X Z Wx h4 c tk)))))
  | .enm a, x, y, sc, so, X, Z, Wx, h, c, tk => by
    cases x <;> first
      | (unfold chkSc at h; simp at h; done)
      | (rename_i f es kws p
         cases f <;> first
           | (unfold chkSc at h; simp at h; done)
           | (cases kws <;> first
                | (unfold chkSc at h; simp at h; done)
                | (rcases es with _ | ⟨x1, _ | ⟨x2, es⟩⟩ <;> first
                     | (unfold chkSc at h; simp at h; done)
                     | (cases y <;> first
                          | (unfold chkSc at h; simp at h; done)
                          | (simp only [chkSc] at h
                             obtain ⟨h1, h2⟩ := ba h
                             obtain ⟨h2, h3⟩ := ba h2
                             exact enm_ok c h1 h2 (sE a _ sc so X Z Wx h3 c tk))))))
termination_by structural u => u
end
theorem sTs (u : T) (es : List Expr) (sc so : Scope) (X : Cx) (Z : Ent) (Wx : WX) (h : chkTs g N sc u es = true) (c : Cxt g t L N sc so X) (tk : Takes X Wx) : PTs X es (RT X Z Wx (evT t u)) := pts_of h fun x hx => sT u x sc so X Z Wx hx c tk
end
end En

namespace En
open PySem PySem.Spec PyProof.Rows L2
section
variable {g : Gs} {t : Tb} {L : Nat} {N : List Str} {sc so : Scope} {X : Cx} {Z : Ent} {Wx : WX}
theorem sw_set {v : Expr} {x : Str} {p : Pos} {l : Nat} (c : Cxt g t L N sc so X) (hv : lcOnly v = true) (h : swB sc v x p = false) : swapsWith v (some (.Name x p)) l X.env = pure false := by
  cases v <;> first
    | rfl
    | (cases hv; done)
    | skip
  rename_i e gs cs q
  have hb : X.env.blockKind = .function := by unfold Env.blockKind; rw [c.hsc, c.fk]; rfl
  unfold swapsWith
  simp only [hb, Expr.pos]
  show pure _ = pure false
  congr 1
  unfold swB isLoc at h
  simp only at h
  have e1 : (X.env.kindOf x == some NameKind.local) = (match sc.names.lookup x with | some .local => true | _ => false) := by
    show (X.env.scope.names.lookup x == some NameKind.local) = _
    rw [c.hsc]
    cases sc.names.lookup x with
    | none => rfl
    | some k => cases k <;> rfl
  refine Eq.trans ?_ h
  rw [e1]
  rfl
theorem sw_true' {e : Expr} {gs : List Comprehension} {cs : Scope} {q p : Pos} {x : Str} {l : Nat} (c : Cxt g t L N sc so X) (h : swB sc (.ListComp e gs cs q) x p = true) : sc.names.lookup x = some .local ∧ swapsWith (.ListComp e gs cs q) (some (.Name x p)) l X.env = pure true := by
  unfold swB at h
  simp only at h
  obtain ⟨h1, h3⟩ := ba h
  obtain ⟨h1, h2⟩ := ba h1
  have hl : sc.names.lookup x = some .local := by
    unfold isLoc at h1
    split at h1
    · assumption
    · cases h1
  have h3' : (cs.names.any fun (n, k) => n == x && (k == .local || k == .cell)) = false := by
    simpa using h3
  exact ⟨hl, sw_true (by rw [c.hsc]; exact c.fk) (by rw [c.hsc]; exact hl) h2 h3'⟩
theorem Cxt.locN (c : Cxt g t L N sc so X) {x : Str} (h : locB sc x = true) (hf : sc.names.lookup x = some .local ∨ X.fn x = true) : Loc X.env.scope x ∧ (X.fn x = true ∨ X.env.scope.names.lookup x = some .local) := by
  rw [c.hsc]
  exact ⟨locB_ok h, hf.symm⟩
theorem noComp_sw {e : Expr} {tg : Option Expr} {l : Nat} {env : Env} (h : noComp e = true) : swapsWith e tg l env = pure false := by
  cases e <;> first
    | rfl
    | (cases h; done)
theorem noTup_ss {e : Expr} {ts : List Expr} {env : Env} (h : noTup e = true) : swappedStores ts e env = pure none := by
  unfold swappedStores
  split
  · rename_i a ts' vs hm
    split at hm <;> first
      | (cases h; done)
      | cases hm
  · rfl

/-! ### small statements -/
theorem read_set {i : Nat} {f : Env' → Sto → R W} {D : Ends} {σ : L2.St} {H : Hp} (h : RS X Z Wx (fun e S => (f e S).sr e fun w S => if i < e.length then .nx (e.set i (some w)) S else .st) D σ H) :
    RE X Z Wx f σ H (fun v H1 => D.nx (σ.set i (some v)) H1) := by
  obtain ⟨G, B, e, S, s, h⟩ := h
  refine ⟨G, B, e, S, s, QG.sr s.s h fun v H1 G1 B1 w S1 s1 x1 r1 h1 => ?_⟩
  split at h1
  · exact h1 _ H1 G1 B1 ⟨s1, (s.s.mono x1).set r1⟩ (Sub.refl _)
  · exact h1.elim
theorem set_ok {i : Nat} {x : Str} {v : Expr} {p pos : Pos} {f : Env' → Sto → R W} (c : Cxt g t L N sc so X) (h1 : N[i]? = some x) (hl : Loc X.env.scope x ∧ (X.fn x = true ∨ X.env.scope.names.lookup x = some .local)) (hv : lcOnly v = true) (hs : swB sc v x p = false) (he : PE X v (RE X Z Wx f)) :
    PS X (.Assign [.Name x p] v pos) (RS X Z Wx fun e S => (f e S).sr e fun w S => if i < e.length then .nx (e.set i (some w)) S else .st) := by
  have hN : X.N.Nodup := by rw [c.hN]; exact c.nd
  exact PS.imp (ps_set hN (c.at h1) hl.1 he (sw_set c hv hs) hl.2) fun D σ H h => read_set h
theorem asg_ok {tg : G} {y v : Expr} {pos : Pos} {f : Env' → Sto → R W} (c : Cxt g t L N sc so X) (h1 : noTup y = false) (h2 : noTup v = true) (hg : PG X y (tgR (KX X) Z tg.ts (evG tg))) (he : PE X v (RE X Z Wx f)) :
    PS X (.Assign [y] v pos) (RS X Z Wx fun e S => (f e S).sr e fun w S => (match evG tg w e S with
      | some e1 => .nx e1 S
      | none => .st)) := by
  cases y <;> first
    | (cases h1; done)
    | skip
  rename_i es k p
  have hsw : swapsWithSole [.Tuple es k p] v pos.line X.env = pure false := by
    show swapsWith v (some (.Tuple es k p)) pos.line X.env = pure false
    unfold swapsWith
    split
    · rfl
    · rfl
  refine PS.imp (ps_asg he hg hsw (noTup_ss h2)) fun D σ H h => ?_
  obtain ⟨G, B, e, S, s, h⟩ := h
  refine ⟨G, B, e, S, s, QG.sr s.s h fun v H1 G1 B1 w S1 s1 x1 r1 h1 => ?_⟩
  cases eg : evG tg w e S1 with
  | none =>
    rw [eg] at h1
    exact h1.elim
  | some e1 =>
    rw [eg] at h1
    exact ⟨G1, B1, e, S1, w, e1, s.at s1 x1, r1, eg, fun σ1 sl _ => h1 σ1 H1 G1 B1 ⟨s1, sl⟩ (Sub.refl _)⟩
theorem setIx_ok {x y v : Expr} {p pos : Pos} {fo fj fa : Env' → Sto → R W} (c : Cxt g t L N sc so X) (h1 : noSlice y = true) (h2 : noTup v = true) (h3 : noComp v = true) (ho : PE X x (RE X Z Wx fo)) (hj : PE X y (RE X Z Wx fj)) (ha : PE X v (RE X Z Wx fa)) :
    PS X (.Assign [.Subscript x y p] v pos) (RS X Z Wx fun e S => (fa e S).sr e fun x S => (fo e S).sr e fun l S => (fj e S).sr e fun k S => (match l, k, x with
      | .m q, .d (.int i), .d y => (match S[q]? with
        | some (some (.lst l)) => (match ixN l.length i with
          | some n => .nx e (S.set q (some (.lst (l.set n y))))
          | none => .st)
        | _ => .st)
      | _, _, _ => .st)) := by
  refine PS.imp (ps_asg ha (pg_sub ho hj set_list ?_) (show swapsWithSole [.Subscript x y p] v pos.line X.env = pure false by unfold swapsWithSole; exact noComp_sw h3) (noTup_ss h2)) fun D σ H h => ?_
  · intro v
    cases y <;> first
      | rfl
      | (cases h1; done)
  obtain ⟨G, B, e, S, s, h⟩ := h
  refine ⟨G, B, e, S, s, QG.sr s.s h fun v H1 G1 B1 w1 S1 s1 x1 r1 h1 => ?_⟩
  have sm1 := s.at s1 x1
  refine ⟨G1, B1, e, S1, sm1, QG.sr sm1.s h1 fun o H2 G2 B2 w2 S2 s2 x2 r2 h2 => ?_⟩
  have sm2 := sm1.at s2 x2
  refine ⟨G2, B2, e, S2, sm2, QG.sr sm2.s h2 fun j H3 G3 B3 w3 S3 s3 x3 r3 h3 => ?_⟩
  have sm3 := sm2.at s3 x3
  replace r1 := RepW.mono (x2.trans x3) r1
  replace r2 := RepW.mono x3 r2
  split at h3
  · rename_i q i d
    split at h3
    · rename_i l hl
      split at h3
      · rename_i n hn
        obtain ⟨a, b1, b2⟩ := r2
        obtain ⟨a', e1, e2, e3, e4⟩ := s3.ob _ _ hl
        rw [b1] at e1
        cases e1
        obtain ⟨vs, g1, g2, g3⟩ := e3
        have r3' : Rep (KX X) G3 (.int i) j := r3
        simp only [Rep] at r3'
        refine ⟨a, vs, i, n, b2, r3', g1, by rw [← g3.length]; exact hn, ?_⟩
        have r1' : Rep (KX X) G3 d v := r1
        refine h3 σ _ G3 B3 ⟨s3.set hl b1 ⟨vs.set n v, upd_same, by rw [List.length_set]; exact g2, g3.set r1' n⟩, sm3.s⟩ (Sub.refl _)
      · exact h3.elim
    · exact h3.elim
  · exact h3.elim
theorem ex_ok {x : Expr} {pos : Pos} {f : Env' → Sto → R W} (hc : noComp x = true) (he : PE X x (RE X Z Wx f)) : PS X (.Expr x pos) (RS X Z Wx fun e S => (f e S).sr e fun _ S => .nx e S) := by
  refine PS.imp (ps_expr he (noComp_sw hc)) fun D σ H h => ?_
  obtain ⟨G, B, e, S, s, h⟩ := h
  exact ⟨G, B, e, S, s, QG.sr s.s h fun v H1 G1 B1 w S1 s1 x1 r1 h1 => h1 σ H1 G1 B1 (s.at s1 x1) (Sub.refl _)⟩
theorem ret_ok {x : Expr} {pos : Pos} {f : Env' → Sto → R W} (he : PE X x (RE X Z Wx f)) : PS X (.Return (some x) pos) (RS X Z Wx fun e S => (f e S).sr e fun w S => .rt w S) := by
  refine PS.imp (ps_ret he) fun D σ H h => ?_
  obtain ⟨G, B, e, S, s, h⟩ := h
  exact ⟨G, B, e, S, s, QG.sr s.s h fun v H1 G1 B1 w S1 s1 x1 r1 h1 => h1 v H1 G1 B1 s1 (Sub.refl _) r1⟩
theorem retN_ok {pos : Pos} : PS X (.Return none pos) (RS X Z Wx fun e S => .rt (.d .non) S) := by
  refine PS.imp ps_retN fun D σ H h => ?_
  obtain ⟨G, B, e, S, s, h⟩ := h
  exact h .non H G B s.h (Sub.refl _) (by simp only [RepW, Rep])
theorem nx_ok {st : Stmt} {u : TS} {f : Env' → Sto → SR} (h : PS X st u) (k : ∀ D σ H, RS X Z Wx f D σ H → u D σ H) : PS X st (RS X Z Wx f) := PS.imp h k
theorem brk_ok {pos : Pos} : PS X (.Break pos) (RS X Z Wx fun e S => .bk e S) := PS.imp ps_break fun D σ H ⟨G, B, e, S, s, h⟩ => h σ H G B s (Sub.refl _)
theorem cont_ok {pos : Pos} : PS X (.Continue pos) (RS X Z Wx fun e S => .ct e S) := PS.imp ps_continue fun D σ H ⟨G, B, e, S, s, h⟩ => h σ H G B s (Sub.refl _)
theorem pass_ok {pos : Pos} : PS X (.Pass pos) (RS X Z Wx fun e S => .nx e S) := PS.imp ps_pass fun D σ H ⟨G, B, e, S, s, h⟩ => h σ H G B s (Sub.refl _)
theorem iff_ok {x : Expr} {y z : List Stmt} {pos : Pos} {ft : Env' → Sto → R Bool} {fa fb : Env' → Sto → SR} (ht : PT X x (RT X Z Wx ft)) (ha : PSs X y (RS X Z Wx fa)) (hb : PSs X z (RS X Z Wx fb)) :
    PS X (.If x y z pos) (RS X Z Wx fun e S => (ft e S).sr e fun k S => match k with
      | true => fa e S
      | false => fb e S) := by
  refine PS.imp (ps_if ht ha hb) fun D σ H h => ?_
  obtain ⟨G, B, e, S, s, h⟩ := h
  refine ⟨G, B, e, S, s, QG.sr s.s h fun v H1 G1 B1 w S1 s1 x1 r1 h1 => ?_⟩
  have r1 : v = w := r1
  subst r1
  cases v with
  | true =>
    rw [if_pos rfl]
    exact ⟨G1, B1, e, S1, s.at s1 x1, h1⟩
  | false =>
    rw [if_neg Bool.false_ne_true]
    exact ⟨G1, B1, e, S1, s.at s1 x1, h1⟩
theorem bnil_ok : PSs X [] (RS X Z Wx fun e S => .nx e S) := ⟨fun pins s σ H D I ⟨G, B, e, S, sm, h⟩ => pss_nil.run pins s σ H D I (h σ H G B sm (Sub.refl _))⟩
theorem bcons_ok {st : Stmt} {l : List Stmt} {fa fb : Env' → Sto → SR} (ha : PS X st (RS X Z Wx fa)) (hb : PSs X l (RS X Z Wx fb)) : PSs X (st :: l) (RS X Z Wx fun e S => (fa e S).bind fun e S => fb e S) := by
  refine PSs.imp (pss_cons ha hb) fun D σ H h => ?_
  obtain ⟨G, B, e, S, s, h⟩ := h
  refine ⟨G, B, e, S, s, ?_⟩
  dsimp only at h
  cases ea : fa e S with
  | nx e1 S1 =>
    rw [ea] at h
    intro σ1 H1 G1 B1 s1 x1
    exact ⟨G1, B1, e1, S1, s1, QS.sub x1 h⟩
  | rt w S1 => rw [ea] at h; exact h
  | bk e1 S1 => rw [ea] at h; exact h
  | ct e1 S1 => rw [ea] at h; exact h
  | ex c ns l e1 S1 => rw [ea] at h; exact h
  | st => rw [ea] at h; exact h.elim
theorem nop_ok {l : List Stmt} {ks : List Nat} {fb : Env' → Sto → SR} (hb : PSs X l (RS X Z Wx fb)) : PSs X l (RS X Z Wx fun e S => (SR.nx (kill e ks) S).bind fun e S => fb e S) := by
  refine PSs.imp hb fun D σ H h => ?_
  obtain ⟨G, B, e, S, s, h⟩ := h
  exact ⟨G, B, kill e ks, S, ⟨s.h, s.s.kill⟩, h⟩
theorem aug_ok {i : Nat} {o : Bop} {x : Str} {v : Expr} {p pos : Pos} {f : Env' → Sto → R W} (c : Cxt g t L N sc so X) (h1 : N[i]? = some x) (hl : Loc X.env.scope x ∧ (X.fn x = true ∨ X.env.scope.names.lookup x = some .local)) (he : PE X v (RE X Z Wx f)) :
    PS X (.AugAssign (.Name x p) o.op v pos) (RS X Z Wx fun e S => (match e[i]? with
      | some (some x) => (f e S).sr e fun y S => (match o, x, y with
        | .add, .d (.int a), .d (.int b) => .nx (e.set i (some (.d (.int (a + b))))) S
        | .sub, .d (.int a), .d (.int b) => .nx (e.set i (some (.d (.int (a - b))))) S
        | .mul, .d (.int a), .d (.int b) => if mulOk a b then .nx (e.set i (some (.d (.int (a * b))))) S else .st
        | _, _, _ => .st)
      | _ => .st)) := by
  have hN : X.N.Nodup := by rw [c.hN]; exact c.nd
  have core : ∀ (D : Ends) (σ : L2.St) (H : Hp) (u : Int → Int → Option Int) (ti : TIp) (ff : W → W → Env' → Sto → SR), (∀ x y e S G, QS (KX X) Z Wx G D (ff x y e S) → ∃ a b, x = .d (.int a) ∧ y = .d (.int b) ∧ (∀ (Q : VK) H, (∀ n, u a b = some n → Q (.int n) H) → ti (.int a) (.int b) H Q) ∧ ∀ n, u a b = some n → QS (KX X) Z Wx G D (.nx (e.set i (some (.d (.int n)))) S)) →
      RS X Z Wx (fun e S => (match e[i]? with
        | some (some x) => (f e S).sr e fun y S => ff x y e S
        | _ => .st)) D σ H → tAug i (RE X Z Wx f) ti D σ H := fun D σ H u ti ff hff h => by
    obtain ⟨G, B, e, S, s, h⟩ := h
    dsimp only at h
    cases ei : e[i]? with
    | none => rw [ei] at h; exact h.elim
    | some w =>
      cases w with
      | none => rw [ei] at h; exact h.elim
      | some w =>
        rw [ei] at h
        obtain ⟨xv, q1, q2⟩ := s.s.get ei
        refine ⟨xv, q1, G, B, e, S, s, QG.sr s.s h fun y H1 G1 B1 w1 S1 s1 x1 r1 h1 => ?_⟩
        obtain ⟨a, b, rfl, rfl, k1, k2⟩ := hff _ _ _ _ _ h1
        have q2 : Rep (KX X) G (.int a) xv := q2
        have r1 : Rep (KX X) G1 (.int b) y := r1
        simp only [Rep] at q2 r1
        subst q2 r1
        refine k1 _ _ fun n hn => ?_
        exact k2 n hn _ H1 G1 B1 ⟨s1, (s.s.mono x1).set (by simp only [RepW, Rep])⟩ (Sub.refl _)
  cases o with
  | add =>
    refine PS.imp (ps_aug hN (c.at h1) hl.1 he iop_add hl.2) fun D σ H h => core D σ H (fun a b => some (a + b)) _ (fun x y e S => match Bop.add, x, y with
        | .add, .d (.int a), .d (.int b) => .nx (e.set i (some (.d (.int (a + b))))) S
        | .sub, .d (.int a), .d (.int b) => .nx (e.set i (some (.d (.int (a - b))))) S
        | .mul, .d (.int a), .d (.int b) => if mulOk a b then .nx (e.set i (some (.d (.int (a * b))))) S else .st
        | _, _, _ => .st) (fun x y e S G hx => ?_) ?_
    · rcases x with (_ | _ | _ | _ | _ | _ | _ | _ | _ | _) | _ <;> first | exact hx.elim | skip
      rcases y with (_ | _ | _ | _ | _ | _ | _ | _ | _ | _) | _ <;> first | exact hx.elim | skip
      · exact ⟨_, _, rfl, rfl, fun Q H k => ⟨_, _, rfl, rfl, k _ rfl⟩, fun n hn => by cases hn; exact hx⟩
    · exact h
  | sub =>
    refine PS.imp (ps_aug hN (c.at h1) hl.1 he iop_sub hl.2) fun D σ H h => core D σ H (fun a b => some (a - b)) _ (fun x y e S => match Bop.sub, x, y with
        | .add, .d (.int a), .d (.int b) => .nx (e.set i (some (.d (.int (a + b))))) S
        | .sub, .d (.int a), .d (.int b) => .nx (e.set i (some (.d (.int (a - b))))) S
        | .mul, .d (.int a), .d (.int b) => if mulOk a b then .nx (e.set i (some (.d (.int (a * b))))) S else .st
        | _, _, _ => .st) (fun x y e S G hx => ?_) ?_
    · rcases x with (_ | _ | _ | _ | _ | _ | _ | _ | _ | _) | _ <;> first | exact hx.elim | skip
      rcases y with (_ | _ | _ | _ | _ | _ | _ | _ | _ | _) | _ <;> first | exact hx.elim | skip
      · exact ⟨_, _, rfl, rfl, fun Q H k => ⟨_, _, rfl, rfl, k _ rfl⟩, fun n hn => by cases hn; exact hx⟩
    · exact h
  | mul =>
    refine PS.imp (ps_aug hN (c.at h1) hl.1 he iop_mul hl.2) fun D σ H h => core D σ H (fun a b => some (a * b)) _ (fun x y e S => match Bop.mul, x, y with
        | .add, .d (.int a), .d (.int b) => .nx (e.set i (some (.d (.int (a + b))))) S
        | .sub, .d (.int a), .d (.int b) => .nx (e.set i (some (.d (.int (a - b))))) S
        | .mul, .d (.int a), .d (.int b) => if mulOk a b then .nx (e.set i (some (.d (.int (a * b))))) S else .st
        | _, _, _ => .st) (fun x y e S G hx => ?_) ?_
    · rcases x with (_ | _ | _ | _ | _ | _ | _ | _ | _ | _) | _ <;> first | exact hx.elim | skip
      rcases y with (_ | _ | _ | _ | _ | _ | _ | _ | _ | _) | _ <;> first | exact hx.elim | skip
      · dsimp only at hx
        split at hx
        · rename_i hm
          exact ⟨_, _, rfl, rfl, fun Q H k => ⟨_, _, rfl, rfl, mulOk_ok hm, k _ rfl⟩, fun n hn => by cases hn; exact hx⟩
        · exact hx.elim
    · exact h
  | _ =>
    refine PS.imp (ps_aug hN (c.at h1) hl.1 he (ti := fun _ _ _ _ => False) (fun _ _ _ _ _ _ _ _ _ _ _ _ h => h.elim) hl.2) fun D σ H h => core D σ H (fun a b => none) _ (fun x y e S => .st) (fun x y e S G hx => hx.elim) h
end
end En

namespace En
open PySem PySem.Spec PyProof.Rows L2
section
variable {g : Gs} {t : Tb} {L : Nat} {N : List Str}
theorem chkB_cons {s : S} {b : B} {x : List Stmt} {sc : Scope} (h : chkB g N sc (.cons s b) x = true) : (∃ ks, s = .nop ks ∧ chkB g N sc b x = true) ∨ ∃ y l, x = y :: l ∧ chkS g N sc s y = true ∧ chkB g N sc b l = true := by
  by_cases hn : ∃ ks, s = .nop ks
  · obtain ⟨ks, rfl⟩ := hn
    refine .inl ⟨ks, rfl, ?_⟩
    unfold chkB at h
    exact h
  · cases x with
    | nil =>
      cases s <;> first
        | exact (hn ⟨_, rfl⟩).elim
        | (unfold chkB at h; cases h)
    | cons y l =>
      refine .inr ⟨y, l, rfl, ?_⟩
      cases s <;> first
        | exact (hn ⟨_, rfl⟩).elim
        | (unfold chkB at h; exact ba h)
theorem sS_set {i : Nat} {e : E} {x : Stmt} {sc : Scope} {X : Cx} {Z : Ent} {Wx : WX} (h : chkS g N sc (.set i e) x = true) (c : Cxt g t L N sc sc X) (tk : Takes X Wx) : PS X x (RS X Z Wx (evS t (.set i e))) := by
    cases x <;> first
      | (have h : false = true := h; cases h; done)
      | skip
    rename_i ts v pos
    rcases ts with _ | ⟨y, _ | ⟨y2, ts⟩⟩
    · cases (show false = true from h)
    · cases y <;> first
        | (have h : false = true := h; cases h; done)
        | skip
      rename_i x p
      simp only [chkS] at h
      obtain ⟨h1, h7⟩ := ba h
      obtain ⟨h2, h8⟩ := ba h7
      obtain ⟨h3, h4⟩ := ba h8
      clear h h7 h8
      cases hs : swB sc v x p with
      | false => exact set_ok c (of_decide_eq_true h1) (c.loc h2) h3 hs (sE e v sc sc X Z Wx h4 c tk)
      | true =>
        cases v <;> first
          | (cases hs; done)
          | skip
        obtain ⟨k1, k2⟩ := sw_true' (l := pos.line) c hs
        rename_i y gens cs q
        cases e <;> first
          | (simp [chkE] at h4; done)
          | skip
        rename_i z own tg s tt e
        rcases gens with _ | ⟨⟨w, it, ifs, n⟩, _ | ⟨g2, gens⟩⟩ <;> first
          | (simp [chkE] at h4; done)
          | skip
        simp only [chkE] at h4
        obtain ⟨g0, g9⟩ := ba h4
        clear h4
        have g7 := of_decide_eq_true g0
        clear g0
        subst g7
        obtain ⟨g1, g2⟩ := ba g9
        obtain ⟨g1, g1'⟩ := ba g1
        obtain ⟨g2, g3⟩ := ba g2
        obtain ⟨g2, g2'⟩ := ba g2
        obtain ⟨g3, g4⟩ := ba g3
        obtain ⟨g4, g5⟩ := ba g4
        exact PS.imp (setLc_ok c g1 g1' g2 (of_decide_eq_true h1) k1 k2 (sSc s _ _ sc sc X Z Wx g2' c tk) (fun X' c' Z' => sG tg _ _ _ X' Z' g3 c') (fun X' c' Z' tk' => sTs tt _ _ _ X' Z' W0 g4 c' tk') (fun X' c' Z' tk' => sE e _ _ _ X' Z' W0 g5 c' tk')) fun D σ H h => read_set h
    · cases y <;> cases (show false = true from h)
theorem sS_asg {tg : G} {e : E} {x : Stmt} {sc : Scope} {X : Cx} {Z : Ent} {Wx : WX} (h : chkS g N sc (.asg tg e) x = true) (c : Cxt g t L N sc sc X) (tk : Takes X Wx) : PS X x (RS X Z Wx (evS t (.asg tg e))) := by
    cases x <;> first
      | (have h : false = true := h; cases h; done)
      | skip
    rename_i ts v pos
    rcases ts with _ | ⟨y, _ | ⟨y2, ts⟩⟩ <;> first
      | (have h : false = true := h; cases h; done)
      | skip
    simp only [chkS] at h
    obtain ⟨h1, h2⟩ := ba h
    obtain ⟨h1, h1'⟩ := ba h1
    obtain ⟨h2, h3⟩ := ba h2
    exact asg_ok c (by simpa using h1) h1' (sG tg _ sc sc X Z h2 c) (sE e v sc sc X Z Wx h3 c tk)
theorem sS_aug {i : Nat} {o : Bop} {e : E} {x : Stmt} {sc : Scope} {X : Cx} {Z : Ent} {Wx : WX} (h : chkS g N sc (.aug i o e) x = true) (c : Cxt g t L N sc sc X) (tk : Takes X Wx) : PS X x (RS X Z Wx (evS t (.aug i o e))) := by
    cases x <;> first
      | (have h : false = true := h; cases h; done)
      | skip
    rename_i y op v pos
    cases y <;> first
      | (have h : false = true := h; cases h; done)
      | skip
    simp only [chkS] at h
    obtain ⟨h1, h7⟩ := ba h
    obtain ⟨h2, h8⟩ := ba h7
    obtain ⟨h3, h4⟩ := ba h8
    clear h7 h8 h
    have h9 := of_decide_eq_true h3
    clear h3
    subst h9
    exact aug_ok c (of_decide_eq_true h1) (c.loc h2) (sE e v sc sc X Z Wx h4 c tk)
theorem sS_setIx {o j e : E} {x : Stmt} {sc : Scope} {X : Cx} {Z : Ent} {Wx : WX} (h : chkS g N sc (.setIx o j e) x = true) (c : Cxt g t L N sc sc X) (tk : Takes X Wx) : PS X x (RS X Z Wx (evS t (.setIx o j e))) := by
    cases x <;> first
      | (have h : false = true := h; cases h; done)
      | skip
    rename_i ts v pos
    rcases ts with _ | ⟨y, _ | ⟨y2, ts⟩⟩ <;> first
      | (have h : false = true := h; cases h; done)
      | skip
    · cases y <;> first
        | (have h : false = true := h; cases h; done)
        | skip
      simp only [chkS] at h
      obtain ⟨h1, h2⟩ := ba h
      obtain ⟨h1, h1'⟩ := ba h1
      obtain ⟨h2, h3⟩ := ba h2
      obtain ⟨h3, h4⟩ := ba h3
      obtain ⟨h4, h5⟩ := ba h4
      exact setIx_ok c h1 h1' h2 (sE o _ sc sc X Z Wx h3 c tk) (sE j _ sc sc X Z Wx h4 c tk) (sE e _ sc sc X Z Wx h5 c tk)
    · cases y <;> cases (show false = true from h)
theorem sS_ex {e : E} {x : Stmt} {sc : Scope} {X : Cx} {Z : Ent} {Wx : WX} (h : chkS g N sc (.ex e) x = true) (c : Cxt g t L N sc sc X) (tk : Takes X Wx) : PS X x (RS X Z Wx (evS t (.ex e))) := by
    cases x <;> first
      | (have h : false = true := h; cases h; done)
      | (simp only [chkS] at h
         obtain ⟨h1, h2⟩ := ba h
         exact ex_ok h1 (sE e _ sc sc X Z Wx h2 c tk))
theorem sS_ret {e : E} {x : Stmt} {sc : Scope} {X : Cx} {Z : Ent} {Wx : WX} (h : chkS g N sc (.ret e) x = true) (c : Cxt g t L N sc sc X) (tk : Takes X Wx) : PS X x (RS X Z Wx (evS t (.ret e))) := by
    cases x <;> first
      | (have h : false = true := h; cases h; done)
      | skip
    rename_i v pos
    cases v <;> first
      | (have h : false = true := h; cases h; done)
      | (simp only [chkS] at h
         exact ret_ok (sE e _ sc sc X Z Wx h c tk))
theorem sS_retN  {x : Stmt} {sc : Scope} {X : Cx} {Z : Ent} {Wx : WX} (h : chkS g N sc (.retN) x = true) (c : Cxt g t L N sc sc X) (tk : Takes X Wx) : PS X x (RS X Z Wx (evS t (.retN))) := by
    cases x <;> first
      | (have h : false = true := h; cases h; done)
      | skip
    rename_i v pos
    cases v <;> first
      | (have h : false = true := h; cases h; done)
      | exact retN_ok
theorem sS_brk  {x : Stmt} {sc : Scope} {X : Cx} {Z : Ent} {Wx : WX} (h : chkS g N sc (.brk) x = true) (c : Cxt g t L N sc sc X) (tk : Takes X Wx) : PS X x (RS X Z Wx (evS t (.brk))) := by
    cases x <;> first
      | (have h : false = true := h; cases h; done)
      | exact brk_ok
theorem sS_cont  {x : Stmt} {sc : Scope} {X : Cx} {Z : Ent} {Wx : WX} (h : chkS g N sc (.cont) x = true) (c : Cxt g t L N sc sc X) (tk : Takes X Wx) : PS X x (RS X Z Wx (evS t (.cont))) := by
    cases x <;> first
      | (have h : false = true := h; cases h; done)
      | exact cont_ok
theorem sS_pass  {x : Stmt} {sc : Scope} {X : Cx} {Z : Ent} {Wx : WX} (h : chkS g N sc (.pass) x = true) (c : Cxt g t L N sc sc X) (tk : Takes X Wx) : PS X x (RS X Z Wx (evS t (.pass))) := by
    cases x <;> first
      | (have h : false = true := h; cases h; done)
      | exact pass_ok
theorem sS_nop {ks : List Nat} {x : Stmt} {sc : Scope} {X : Cx} {Z : Ent} {Wx : WX} (h : chkS g N sc (.nop ks) x = true) (c : Cxt g t L N sc sc X) (tk : Takes X Wx) : PS X x (RS X Z Wx (evS t (.nop ks))) := by
    cases x <;> simp [chkS] at h

mutual
theorem sS : ∀ (u : S) (x : Stmt) (sc : Scope) (X : Cx) (Z : Ent) (Wx : WX), chkS g N sc u x = true → Cxt g t L N sc sc X → Takes X Wx → PassesOwn (model X.prog X.w) X.A X.env X.xe → PS X x (RS X Z Wx (evS t u))
  | .set i e, x, sc, X, Z, Wx, h, c, tk, po => sS_set h c tk
  | .asg tg e, x, sc, X, Z, Wx, h, c, tk, po => sS_asg h c tk
  | .aug i o e, x, sc, X, Z, Wx, h, c, tk, po => sS_aug h c tk
  | .setIx o j e, x, sc, X, Z, Wx, h, c, tk, po => sS_setIx h c tk
  | .ex e, x, sc, X, Z, Wx, h, c, tk, po => sS_ex h c tk
  | .ret e, x, sc, X, Z, Wx, h, c, tk, po => sS_ret h c tk
  | .retN, x, sc, X, Z, Wx, h, c, tk, po => sS_retN h c tk
  | .iff u a b, x, sc, X, Z, Wx, h, c, tk, po => by
    cases x <;> first
      | (have h : false = true := h; cases h; done)
      | (simp only [chkS] at h
         obtain ⟨h1, h2⟩ := ba h
         obtain ⟨h2, h3⟩ := ba h2
         exact iff_ok (sT u _ sc sc X Z Wx h1 c tk) (sB a _ sc X Z Wx h2 c tk po) (sB b _ sc X Z Wx h3 c tk po))
  | .fo tg s b ks, x, sc, X, Z, Wx, h, c, tk, po => by
    cases x <;> first
      | (have h : false = true := h; cases h; done)
      | skip
    rename_i y z body orelse pos
    cases orelse <;> first
      | (have h : false = true := h; cases h; done)
      | skip
    simp only [chkS] at h
    obtain ⟨h1, h2⟩ := ba h
    obtain ⟨h1, h1'⟩ := ba h1
    obtain ⟨h2, h3⟩ := ba h2
    exact for_sound po c.calm (sSc s _ _ sc sc X Z Wx h1' c tk) (sG tg _ sc sc X Z h2 c) (sB b _ sc X Z Wx h3 c tk po) (noSet_it h1)
  | .wh u b ks, x, sc, X, Z, Wx, h, c, tk, po => by
    cases x <;> first
      | (have h : false = true := h; cases h; done)
      | skip
    rename_i y body orelse pos
    cases orelse <;> first
      | (have h : false = true := h; cases h; done)
      | skip
    simp only [chkS] at h
    obtain ⟨h1, h2⟩ := ba h
    exact while_sound po (sT u _ sc sc X Z Wx h1 c tk) (sB b _ sc X Z Wx h2 c tk po)
  | .brk, x, sc, X, Z, Wx, h, c, tk, po => sS_brk h c tk
  | .cont, x, sc, X, Z, Wx, h, c, tk, po => sS_cont h c tk
  | .pass, x, sc, X, Z, Wx, h, c, tk, po => sS_pass h c tk
  | .nop ks, x, sc, X, Z, Wx, h, c, tk, po => sS_nop h c tk
theorem sB : ∀ (u : B) (x : List Stmt) (sc : Scope) (X : Cx) (Z : Ent) (Wx : WX), chkB g N sc u x = true → Cxt g t L N sc sc X → Takes X Wx → PassesOwn (model X.prog X.w) X.A X.env X.xe → PSs X x (RS X Z Wx (evB t u))
  | .nil, x, sc, X, Z, Wx, h, c, tk, po => by
    cases x <;> first
      | (simp [chkB] at h; done)
      | exact bnil_ok
  | .cons s b, x, sc, X, Z, Wx, h, c, tk, po => by
    cases chkB_cons h with
    | inl q =>
      obtain ⟨ks, e, h⟩ := q
      subst e
      exact nop_ok (sB b x sc X Z Wx h c tk po)
    | inr q =>
      obtain ⟨y, l, e, h1, h2⟩ := q
      subst e
      exact bcons_ok (sS s y sc X Z Wx h1 c tk po) (sB b l sc X Z Wx h2 c tk po)
end
end
end En

namespace En
open PySem PySem.Spec PyProof.Rows L2

/-! ### a def's text against its terms -/
def scopeB (N : List Str) (np : Nat) (sc : Scope) : Bool :=
  (sc.kind == .function) && (!sc.isCoroutine && (!sc.isGenerator && (decide N.Nodup && ((N.take np).all (fun x => locB sc x) && (decide (np ≤ N.length) && sc.names.all fun y => !(y.2 == .free))))))
theorem scopeB_ok {N : List Str} {np : Nat} {sc : Scope} (h : scopeB N np sc = true) : FnScope N (N.take np) sc ∧ np ≤ N.length := by
  unfold scopeB at h
  obtain ⟨h1, h⟩ := ba h
  obtain ⟨h2, h⟩ := ba h
  obtain ⟨h3, h⟩ := ba h
  obtain ⟨h4, h⟩ := ba h
  obtain ⟨h5, h⟩ := ba h
  obtain ⟨h6, h7⟩ := ba h
  refine ⟨⟨by simpa using h1, by simpa using h2, by simpa using h3, of_decide_eq_true h4, ?_, fun x hx => ?_, fun y hy => ?_⟩, of_decide_eq_true h6⟩
  · rw [List.length_take, Nat.min_eq_left (of_decide_eq_true h6)]
  · exact locB_ok (List.all_eq_true.mp h5 x hx)
  · have q := List.all_eq_true.mp h7 y hy
    simpa using q
def chkD (g : Gs) (N : List Str) (np : Nat) (sc : Scope) (b : B) (body : List Stmt) : Bool := scopeB N np sc && chkB g N sc b body
section
variable {P : Program} {w : World} {K : PySem.W.Frag} {mg : Str → Option Value} {base : Heap}
/-- what the top offers to a def's body -/
structure Top (P : Program) (w : World) (K : PySem.W.Frag) (mg : Str → Option Value) (base : Heap) (g : Gs) (t : Tb) (L : Nat) : Prop where
  free : ∀ x ∈ fnames, mg x = none
  con : ∀ (n : Nat) (x : Str), g.cons[n]? = some x → ∃ d v u, t.cn[n]? = some d ∧ mg x = some u ∧ RelV v u ∧ ∀ G, Rep ⟨K, w⟩ G d v
  call : ∀ (n : Nat) (c : CI), g.calls[n]? = some c → ∃ F f, t.fn[n]? = some F ∧ CallOk P w K mg base L c F f
theorem CallOk.mono {L L' : Nat} {c : CI} {F : Fn} {f : Addr} (k : CallOk P w K mg base L c F f) (h : L ≤ L') : CallOk P w K mg base L' c F f := ⟨k.gl, k.kp, fun A outer s H us vs Q Ex r => k.run A outer s H us vs Q Ex (r.mono h)⟩
theorem Top.mono {g : Gs} {t : Tb} {L L' : Nat} (k : Top P w K mg base g t L) (h : L ≤ L') : Top P w K mg base g t L' := ⟨k.free, k.con, fun n c e => by
  obtain ⟨F, f, e1, q⟩ := k.call n c e
  exact ⟨F, f, e1, q.mono h⟩⟩
theorem run_len {t : Tb} {np n : Nat} {b : B} {ws : List W} {S : Sto} (h : run t np n b ws S ≠ .st) : ws.length = np := by
  unfold run at h
  split at h
  · assumption
  · exact absurd rfl h
theorem spF_len {KW : KW} {F : Fn} {np : Nat} (hF : ∀ ws S, F ws S ≠ .st → ws.length = np) {vs : List V} {H : Hp} {Q : VK} {E : XK} (h : spF KW F vs H Q E) : vs.length = np := by
  obtain ⟨G, B, ws, S, L, r, s, hL, h⟩ := h
  rw [← RepWs.length r]
  refine hF ws S fun e => ?_
  rw [e] at h
  exact h
theorem slots_start {KW : KW} {G : Hp} {B : List Addr} : ∀ {ws : List W} {vs : List V} {n : Nat}, RepWs KW G B ws vs → Slots KW G B (ws.map some ++ List.replicate n none) (vs.map some ++ List.replicate n none)
  | [], vs, n, r => by
    have e : vs = [] := r
    subst e
    show Slots KW G B (List.replicate n none) (List.replicate n none)
    induction n with
    | zero => exact rfl
    | succ n ih => exact ⟨none, List.replicate n none, rfl, ih⟩
  | w :: ws, vs, n, r => by
    obtain ⟨v, us, e, r1, r2⟩ := r
    subst e
    exact ⟨v, us.map some ++ List.replicate n none, rfl, r1, slots_start r2⟩
theorem ent_eq {KW : KW} {H G : Hp} {B : List Addr} {L : Addr → Prop} {G' H' : Hp} {B' : List Addr} {S' : Sto} (s : SimH KW ⟨H, G, L, B⟩ G' B' S' H') : Ext G B G' B' := ⟨s.mono, s.pre⟩
/-- THE RULE of a def -/
theorem fn_ok {x qual : Str} {params : Arguments} {body : List Stmt} {scope : Scope} {dvs : List V} {kws : List (Str × V)} {f : Addr} {fd : FuncData} {g : Gs} {t : Tb} {L : Nat} {N : List Str} {np : Nat} {b : B}
    (F : FunD K x qual params body scope dvs kws f fd) (h : chkD g N np scope b body = true) (tp : Top P w K mg base g t L) : FnOk P w K mg base (L2.CX P w) (L + 1) f fd (N.take np) (spF ⟨K, w⟩ (run t np N.length b)) := by
  obtain ⟨h1, h2⟩ := ba h
  obtain ⟨S, hnp⟩ := scopeB_ok h1
  have ln : (N.take np).length = np := by rw [List.length_take, Nat.min_eq_left hnp]
  refine F.ok S (fun vs H Q E q => by rw [ln]; exact spF_len (fun ws S => run_len) q) fun cdv A outer s H vs Q E hr hsp => ?_
  obtain ⟨G, B, ws, S0, Lx, r, sm, hL, hsp⟩ := hsp
  let X := cxOf (L2.CX P w) P w K mg base N qual scope f cdv A outer s H E
  have c : Cxt g t L N scope scope X := ⟨rfl, S.nd, rfl, S.kind, fun x hx => ⟨rfl, hx⟩, fun x hx => hx, rfl, hr, tp.free, tp.con, tp.call⟩
  have tk : Takes X (fun cls d _ H => E cls d H) := takes_of rfl rfl rfl rfl
  have po : PassesOwn (model X.prog X.w) X.A X.env X.xe := passes_of rfl
  refine ⟨_, sB (t := t) b body scope X ⟨H, G, Lx, B⟩ (fun cls d _ H => E cls d H) h2 c tk po, G, B, _, S0, ⟨sm, slots_start (n := N.length - vs.length) r⟩, ?_⟩
  unfold run at hsp
  by_cases hw : ws.length = np
  · rw [if_pos hw] at hsp
    rw [← RepWs.length r]
    have hs : (⟨H, G, Lx, B⟩ : Ent).B.length ≤ S0.length := by
      show B.length ≤ S0.length
      rw [sm.len]
      exact Nat.le_refl _
    cases eb : evB t b (ws.map some ++ List.replicate (N.length - ws.length) none) S0 with
    | nx e S1 =>
      rw [eb] at hsp
      intro σ' H' G' B' s' x'
      obtain ⟨B2, s2⟩ := trim_ok (e := []) (σ := []) hs (⟨s'.h, rfl⟩ : Sim _ _ G' B' [] S1 [] H')
      exact hsp .non H' G' B2 s2.h (ent_eq s2.h) (by simp only [RepW, Rep])
    | rt w' S1 =>
      rw [eb] at hsp
      intro v H' G' B' s' x' rv
      obtain ⟨B2, s2⟩ := trim_ok (e := [some w']) (σ := [some v]) hs (⟨s', ⟨v, [], rfl, rv, rfl⟩⟩ : Sim _ _ G' B' [some w'] S1 [some v] H')
      obtain ⟨v2, us, e2, r2, _⟩ := s2.s
      cases e2
      exact hsp v H' G' B2 s2.h (ent_eq s2.h) r2
    | ex c ns l e S1 =>
      rw [eb] at hsp
      intro cls d σ' H' G' B' s' x' rx
      obtain ⟨B2, s2⟩ := trim_ok (e := []) (σ := []) hs (⟨s'.h, rfl⟩ : Sim _ _ G' B' [] S1 [] H')
      exact hsp cls d H' G' B2 s2.h (ent_eq s2.h) rx
    | bk e S1 =>
      rw [eb] at hsp
      exact hsp.elim
    | ct e S1 =>
      rw [eb] at hsp
      exact hsp.elim
    | st =>
      rw [eb] at hsp
      exact hsp.elim
  · rw [if_neg hw] at hsp
    exact hsp.elim
/-- a call by every parameter -/
theorem CallOk.of {k : Nat} {f : Addr} {fd : FuncData} {ps : List Str} {F : Fn} {nm : Str} (h : FnOk P w K mg base (L2.CX P w) k f fd ps (spF ⟨K, w⟩ F)) (hb : Binds K fd ps []) (gl : mg nm = some (.ref f)) (kp : PySem.W.keepIn K (.ref f) = true) (c : CI) (hn : c.name = nm) (hl : c.n = ps.length) : CallOk P w K mg base k c F f := by
  refine ⟨by rw [hn]; exact gl, kp, fun A outer s H us vs Q Ex hr e0 r hv q => ?_⟩
  have KIn : K.In s.heap := e0.mod.kin.keeps fun b o e => (e0.bs b o e).1
  have hu : us.length = ps.length := by rw [← r.length, hv, hl]
  have bt := hb s us KIn (by simpa using hu)
  rw [List.append_nil] at bt
  exact h.run A outer s H ⟨us, []⟩ us vs Q Ex hr e0 bt r q
end
end En

namespace En
open PySem PySem.Spec PyProof.Rows L2

/-! ### the module's constants -/
/-- the module's name x holds d -/
def Con1 (w : World) (K : PySem.W.Frag) (mg : Str → Option Value) (x : Str) (d : D) : Prop := ∃ v u, mg x = some u ∧ RelV v u ∧ ∀ G, Rep ⟨K, w⟩ G d v
def strsD (l : List Str) : List D := l.map .str
def dvD : D → Option He.Dv
  | .int i => some (.int i)
  | .str s => some (.str s)
  | .bl b => some (.bl b)
  | .non => some .non
  | _ => none
def dvL : List D → Option (List He.Dv)
  | [] => some []
  | d :: l => (dvD d).bind fun x => (dvL l).map (x :: ·)
theorem dvL_ok {K : KW} {G : Hp} : ∀ {l : List D} {ds : List He.Dv}, dvL l = some ds → RepL K G l (ds.map (He.Dv.v K.K))
  | [], ds, h => by
    cases h
    simp [RepL]
  | d :: l, ds, h => by
    unfold dvL at h
    cases e1 : dvD d with
    | none => rw [e1] at h; cases h
    | some x =>
      rw [e1] at h
      cases e2 : dvL l with
      | none => rw [e2] at h; cases h
      | some r =>
        rw [e2] at h
        cases h
        refine ⟨_, _, rfl, ?_, dvL_ok e2⟩
        cases d <;> first
          | (cases e1; done)
          | (cases e1; simp only [Rep]; rfl)
/-- as K has them -/
def conB (K : PySem.W.Frag) : Str × D → Bool
  | (x, .int i) => (He.Fa.int x i).ok K
  | (x, .str z) => (He.Fa.str x z).ok K
  | (x, .tup l) => (He.Fa.glo x).ok K && (match dvL l with
    | some ds => decide (ds.length ≤ sizeLine) && He.tupB K x ds
    | none => false)
  | _ => false
theorem conB_ok {w : World} {K : PySem.W.Frag} {h : Heap} {mg : Str → Option Value} {x : Str} {d : D} (X : K.In h) (G : h.Ns mainGlobals mg) (c : conB K (x, d) = true) : Con1 w K mg x d := by
  cases d <;> first
    | (cases c; done)
    | skip
  · rename_i i
    obtain ⟨t, e⟩ := He.int_ok X G c
    exact ⟨.int i, _, e, ⟨t, rfl⟩, fun G => by simp only [Rep]⟩
  · rename_i z
    obtain ⟨t, e⟩ := He.str_ok X G c
    exact ⟨.str z, _, e, ⟨t, rfl⟩, fun G => by simp only [Rep]⟩
  · rename_i l
    unfold conB at c
    obtain ⟨c1, c2⟩ := ba c
    cases e : dvL l with
    | none =>
      rw [e] at c2
      cases c2
    | some ds =>
      rw [e] at c2
      obtain ⟨c2, c3⟩ := ba c2
      refine ⟨.ref (He.ga K x), _, He.glo_ok X G c1, rfl, fun G => ?_⟩
      simp only [Rep]
      exact ⟨_, _, rfl, He.tupB_ok c3 G, by rw [List.length_map]; exact of_decide_eq_true c2, dvL_ok e⟩
/-- a dict of texts to ints -/
def kdEnt (e : DictEntry) : Option (Str × Int) := match e.key, e.val with
  | .str x _, .int i _ => some (x, i)
  | _, _ => none
def kdB (K : PySem.W.Frag) (x : Str) (ks : List Str) (l : List Int) : Bool := (He.Fa.glo x).ok K && (match K.lookup (He.ga K x) with
  | some ⟨_, _, .dict es _, _⟩ => decide (es.toList.map kdEnt = (ks.zip l).map some)
  | _ => false)
theorem kd_find : ∀ {es : List DictEntry} {ps : List (Str × Int)} (z : Str), es.map kdEnt = ps.map some → (∀ e ∈ es, e.refKey = false) ∧ match ps.lookup z with
    | some i => ∃ t e, es.find? (·.key.isStr z) = some e ∧ e.val = .int i t
    | none => es.find? (·.key.isStr z) = none
  | [], [], z, h => ⟨fun e he => (List.not_mem_nil he).elim, rfl⟩
  | [], _ :: _, z, h => by cases h
  | _ :: _, [], z, h => by cases h
  | e :: es, p :: ps, z, h => by
    rw [List.map_cons, List.map_cons] at h
    obtain ⟨h1, h2⟩ := List.cons.inj h
    obtain ⟨ih1, ih2⟩ := kd_find (es := es) (ps := ps) z h2
    unfold kdEnt at h1
    split at h1
    · rename_i x t i t' ek ev
      have h1 := Option.some.inj h1
      subst h1
      refine ⟨fun u hu => ?_, ?_⟩
      · rcases List.mem_cons.mp hu with rfl | hu
        · unfold DictEntry.refKey
          rw [ek]
        · exact ih1 u hu
      · rw [List.find?_cons]
        have ks : e.key.isStr z = (x == z) := by
          rw [ek]
          rfl
        rw [ks]
        show match (match z == x with | true => some i | false => ps.lookup z) with
          | some i => _
          | none => _
        by_cases q : x = z
        · subst q
          rw [beq_self_eq_true]
          exact ⟨t', e, rfl, ev⟩
        · have q1 : (x == z) = false := by simpa using q
          have q2 : (z == x) = false := by simpa using fun y : z = x => q y.symm
          rw [q1, q2]
          exact ih2
    · cases h1
theorem kdB_ok {w : World} {K : PySem.W.Frag} {h : Heap} {mg : Str → Option Value} {x : Str} {ks : List Str} {l : List Int} (X : K.In h) (G : h.Ns mainGlobals mg) (c : kdB K x ks l = true) (D : ∃ es n, KDict K w (He.ga K x) es n) : Con1 w K mg x (.kd x ks l) := by
  unfold kdB at c
  obtain ⟨c1, c2⟩ := ba c
  refine ⟨.ref (He.ga K x), _, He.glo_ok X G c1, rfl, fun G => ?_⟩
  simp only [Rep]
  refine ⟨by trivial, D, fun z => ?_⟩
  unfold PySem.W.nsIn
  cases q : K.lookup (He.ga K x) with
  | none =>
    rw [q] at c2
    cases c2
  | some o =>
    obtain ⟨oc, od, dt, osl⟩ := o
    rw [q] at c2
    cases dt with
    | dict es n =>
      have c3 := of_decide_eq_true c2
      obtain ⟨k1, k2⟩ := kd_find z c3
      show ∃ r, (match es.toList.find? (·.key.isStr z) with
        | some e => some (some e.val)
        | none => if es.toList.any (·.refKey) then none else some none) = some r ∧ _
      have k3 : es.toList.any (·.refKey) = false := by
        rw [List.any_eq_false]
        intro e he
        rw [k1 e he]
        simp
      cases e : (ks.zip l).lookup z with
      | none =>
        rw [e] at k2
        dsimp only at k2 ⊢
        rw [k2, k3]
        exact ⟨none, by simp⟩
      | some i =>
        rw [e] at k2
        dsimp only at k2 ⊢
        obtain ⟨t, en, k2, k4⟩ := k2
        rw [k2]
        simp [k4]
    | _ => cases c2

/-! ### the top, def by def -/
def Gs.pushF (g : Gs) (x : Str) (n : Nat) : Gs := ⟨g.calls ++ [⟨x, n⟩], g.cons⟩
def Gs.pushC (g : Gs) (x : Str) : Gs := ⟨g.calls, g.cons ++ [x]⟩
def Tb.pushF (t : Tb) (F : Fn) : Tb := ⟨t.fn ++ [F], t.cn⟩
def Tb.pushC (t : Tb) (d : D) : Tb := ⟨t.fn, t.cn ++ [d]⟩
theorem push_get {α β : Type} {P : α → β → Prop} {l : List α} {m : List β} {a : α} {b : β} (hl : l.length = m.length) (h : ∀ (n : Nat) (x : α), l[n]? = some x → ∃ y, m[n]? = some y ∧ P x y) (hp : P a b) : ∀ (n : Nat) (x : α), (l ++ [a])[n]? = some x → ∃ y, (m ++ [b])[n]? = some y ∧ P x y := fun n x e => by
  by_cases hn : n < l.length
  · rw [List.getElem?_append_left hn] at e
    obtain ⟨y, e1, e2⟩ := h n x e
    exact ⟨y, by rw [List.getElem?_append_left (by rw [← hl]; exact hn)]; exact e1, e2⟩
  · rw [List.getElem?_append_right (Nat.le_of_not_lt hn)] at e
    have z : n - l.length = 0 := by
      cases k : n - l.length with
      | zero => rfl
      | succ j =>
        rw [k] at e
        simp at e
    rw [z] at e
    simp at e
    subst e
    exact ⟨b, by rw [List.getElem?_append_right (by rw [← hl]; exact Nat.le_of_not_lt hn), ← hl, z]; rfl, hp⟩
/-- the same with the lists' lengths -/
structure Tops (P : Program) (w : World) (K : PySem.W.Frag) (mg : Str → Option Value) (base : Heap) (g : Gs) (tb : Tb) (L : Nat) : Prop where
  t : Top P w K mg base g tb L
  fl : g.calls.length = tb.fn.length
  cl : g.cons.length = tb.cn.length
section
variable {P : Program} {w : World} {K : PySem.W.Frag} {mg : Str → Option Value} {base : Heap} {g : Gs} {t : Tb} {L : Nat}
theorem Tops.nil (h : ∀ x ∈ fnames, mg x = none) : Tops P w K mg base ⟨[], []⟩ ⟨[], []⟩ 0 := ⟨⟨h, fun n x e => by simp at e, fun n x e => by simp at e⟩, rfl, rfl⟩
theorem Tops.con (T : Tops P w K mg base g t L) {x : Str} {d : D} (h : Con1 w K mg x d) : Tops P w K mg base (g.pushC x) (t.pushC d) L := by
  refine ⟨⟨T.t.free, fun n y e => ?_, T.t.call⟩, T.fl, by show (g.cons ++ [x]).length = (t.cn ++ [d]).length; rw [List.length_append, List.length_append, T.cl]; rfl⟩
  obtain ⟨y', e1, v, u, q⟩ := push_get (P := fun x d => Con1 w K mg x d) T.cl (fun n x e => by
    obtain ⟨d, v, u, e1, q⟩ := T.t.con n x e
    exact ⟨d, e1, v, u, q⟩) h n y e
  exact ⟨y', v, u, e1, q⟩
theorem Tops.fn (T : Tops P w K mg base g t L) {x : Str} {n : Nat} {F : Fn} {f : Addr} (h : CallOk P w K mg base (L + 1) ⟨x, n⟩ F f) : Tops P w K mg base (g.pushF x n) (t.pushF F) (L + 1) := by
  have T1 := T.t.mono (Nat.le_succ L)
  refine ⟨⟨T.t.free, T.t.con, fun n y e => ?_⟩, by show (g.calls ++ [_]).length = (t.fn ++ [F]).length; rw [List.length_append, List.length_append, T.fl]; rfl, T.cl⟩
  obtain ⟨F', e1, f', q⟩ := push_get (P := fun c F => ∃ f, CallOk P w K mg base (L + 1) c F f) T.fl (fun n x e => by
    obtain ⟨F, f, e1, q⟩ := T1.call n x e
    exact ⟨F, e1, f, q⟩) ⟨f, h⟩ n y e
  exact ⟨F', f', e1, q⟩
/-- a plain def, its parameters all written -/
theorem Tops.def_ (T : Tops P w K mg base g t L) {x qual : Str} {params : Arguments} {body : List Stmt} {scope : Scope} {f : Addr} {fd : FuncData} {N : List Str} {np : Nat} {b : B} (F : FunD K x qual params body scope [] [] f fd) (h : chkD g N np scope b body = true) (gl : mg x = some (.ref f))
    (hn : (N.take np).length = np) (hb : ∀ (kV doc pm : Value) (an : Option Addr) (cdv ct : Value) (us : List Value), us.length = (N.take np).length → bindArgs (PySem.W.fnOf x qual params body scope .none kV doc pm an cdv ct) ⟨us, []⟩ = pure ((N.take np).zip us)) :
    Tops P w K mg base (g.pushF x np) (t.pushF (run t np N.length b)) (L + 1) :=
  T.fn (CallOk.of (fn_ok F h T.t) (F.bindsN hb) gl F.kp ⟨x, np⟩ rfl hn.symm)
/-- whatever world -/
def CXa : CXT := fun outer H s E e s' => ∃ (P : Program) (w : World), L2.CX P w outer H s E e s'
theorem CXa_no (H : Hp) (s : Shared) (e : Value) (s' : Shared) (h : CXa [] H s (fun _ _ _ => False) e s') : False := by
  obtain ⟨P, w, a, B, H', cls, d, _, _, _, _, _, _, _, z⟩ := h
  exact z
theorem fn_any {k : Nat} {f : Addr} {fd : FuncData} {ps : List Str} {sp : Sp} (F : FnOk P w K mg base (L2.CX P w) k f fd ps sp) : FnOk P w K mg base CXa k f fd ps sp :=
  ⟨F.len, fun A outer s H args us vs Q E hr e0 hb r q => codeAny_mono (F.run A outer s H args us vs Q E hr e0 hb r q) fun r s' z => by
    cases r with
    | error e => exact ⟨P, w, z⟩
    | ok fl => cases fl <;> exact z⟩
/-- the law's own def -/
theorem law_sp {w : World} {K : PySem.W.Frag} {H : Hp} {a : Addr} {ns : List Int} {F : Fn} (h : ∃ S, F [.d (.ro (ns.map .int))] [] = .ok (.d (.bl true)) S) (hl : ns.length ≤ sizeLine) (hS : SqL K H a (ns.map V.int)) : spF ⟨K, w⟩ F [.ref a] H (fun v _ => v = .bl true) fun _ _ _ => False := by
  obtain ⟨S, e⟩ := h
  refine ⟨H, [], [.d (.ro (ns.map .int))], [], fun _ => False, ⟨.ref a, [], rfl, ?_, rfl⟩, ⟨Sub.refl H, rfl, fun i o q => by simp at q, fun i j o u x q => by simp at q, fun a o q _ => q, fun a _ _ => rfl, Sub.refl H, fun a q => q, [], rfl⟩, fun x => ⟨fun q => q.elim, fun ⟨i, o, q, _⟩ => by simp at q⟩, ?_⟩
  · show Rep ⟨K, w⟩ H (.ro (ns.map .int)) (.ref a)
    simp only [Rep]
    refine ⟨a, ns.map V.int, rfl, hS, by rw [List.length_map]; exact hl, ?_⟩
    have : ∀ l : List Int, RepL ⟨K, w⟩ H (l.map .int) (l.map V.int) := fun l => by
      induction l with
      | nil => simp [RepL]
      | cons i l ih => exact ⟨_, _, rfl, by simp only [Rep], ih⟩
    exact this ns
  · rw [e]
    intro v H' G' B' s x r
    have r : Rep ⟨K, w⟩ G' (.bl true) v := r
    simpa only [Rep] using r
end
end En

namespace En
open PySem PySem.Spec PyProof.Rows L2
/-! ### the interpreter's rules in plain Lean -/
theorem callF_d {F : Fn} {ws : List W} {e : Env'} {S : Sto} {r : D} (h1 : renWs [] ws = some ws) (h : F ws [] = .ok (.d r) []) : callF F ws e [] S = .ok (.d r) S := by
  unfold callF
  simp [plcs, h1, subS, h, flatS, wbW, wbS]
theorem loopC_map {tg : W → Env' → Sto → Option Env'} {test : Env' → Sto → R Bool} {el : Env' → Sto → R W} {S : Sto} {e : Env'} {f : W → D} {p : W → Bool} : ∀ {ws : List W} {acc : List D}, (∀ w ∈ ws, ∃ e1, tg w e S = some e1 ∧ test e1 S = .ok (p w) S ∧ (p w = true → el e1 S = .ok (.d (f w)) S)) → acc.length + ws.length ≤ sizeLine →
    loopC tg test el ws e acc S = .ok (acc ++ (ws.filter p).map f) S
  | [], acc, _, _ => by simp [loopC]
  | w :: ws, acc, h, hz => by
    obtain ⟨e1, h1, h2, h3⟩ := h w List.mem_cons_self
    rw [List.length_cons] at hz
    unfold loopC
    rw [h1]
    dsimp only
    rw [h2]
    simp only [R.bind]
    cases hp : p w with
    | false =>
      dsimp only
      rw [loopC_map (fun w hw => h w (List.mem_cons_of_mem _ hw)) (by omega), List.filter_cons_of_neg (by rw [hp]; exact Bool.false_ne_true)]
    | true =>
      dsimp only
      rw [h3 hp]
      dsimp only
      rw [if_pos (by omega), loopC_map (fun w hw => h w (List.mem_cons_of_mem _ hw)) (by rw [List.length_append, List.length_singleton]; omega), List.filter_cons_of_pos hp, List.map_cons, List.append_assoc]
      rfl
/-- every item, no test -/
theorem loopC_all {tg : W → Env' → Sto → Option Env'} {test : Env' → Sto → R Bool} {el : Env' → Sto → R W} {S : Sto} {e : Env'} {α : Type} {g : α → W} {f : α → D} {l : List α} (h : ∀ a ∈ l, ∃ e1, tg (g a) e S = some e1 ∧ test e1 S = .ok true S ∧ el e1 S = .ok (.d (f a)) S) (hz : l.length ≤ sizeLine) : ∀ {acc : List D}, acc.length + l.length ≤ sizeLine →
    loopC tg test el (l.map g) e acc S = .ok (acc ++ l.map f) S := by
  induction l with
  | nil => intro acc _; simp [loopC]
  | cons a l ih =>
    intro acc hz'
    obtain ⟨e1, h1, h2, h3⟩ := h a List.mem_cons_self
    rw [List.length_cons] at hz hz'
    rw [List.map_cons]
    unfold loopC
    rw [h1]
    dsimp only
    rw [h2]
    simp only [R.bind]
    rw [h3]
    dsimp only
    rw [if_pos (by omega), ih (fun a ha => h a (List.mem_cons_of_mem _ ha)) (by omega) (by rw [List.length_append, List.length_singleton]; omega), List.append_assoc, List.map_cons]
    rfl
theorem loopC_all0 {tg : W → Env' → Sto → Option Env'} {test : Env' → Sto → R Bool} {el : Env' → Sto → R W} {S : Sto} {e : Env'} {α : Type} {g : α → W} {f : α → D} {l : List α} (h : ∀ a ∈ l, ∃ e1, tg (g a) e S = some e1 ∧ test e1 S = .ok true S ∧ el e1 S = .ok (.d (f a)) S) (hz : l.length ≤ sizeLine) :
    loopC tg test el (l.map g) e [] S = .ok (l.map f) S := by
  rw [loopC_all h hz (acc := []) (by simpa using hz)]
  rfl
/-- some items -/
theorem loopC_sel1 {tg : W → Env' → Sto → Option Env'} {test : Env' → Sto → R Bool} {el : Env' → Sto → R W} {S : Sto} {e : Env'} {α : Type} {g : α → W} {f : α → D} {p : α → Bool} : ∀ {l : List α} {acc : List D}, (∀ a ∈ l, ∃ e1, tg (g a) e S = some e1 ∧ test e1 S = .ok (p a) S ∧ (p a = true → el e1 S = .ok (.d (f a)) S)) → acc.length + l.length ≤ sizeLine →
    loopC tg test el (l.map g) e acc S = .ok (acc ++ (l.filter p).map f) S
  | [], acc, _, _ => by simp [loopC]
  | w :: ws, acc, h, hz => by
    obtain ⟨e1, h1, h2, h3⟩ := h w List.mem_cons_self
    rw [List.length_cons] at hz
    rw [List.map_cons]
    unfold loopC
    rw [h1]
    dsimp only
    rw [h2]
    simp only [R.bind]
    cases hp : p w with
    | false =>
      dsimp only
      rw [loopC_sel1 (fun w hw => h w (List.mem_cons_of_mem _ hw)) (by omega), List.filter_cons_of_neg (by rw [hp]; exact Bool.false_ne_true)]
    | true =>
      dsimp only
      rw [h3 hp]
      dsimp only
      rw [if_pos (by omega), loopC_sel1 (fun w hw => h w (List.mem_cons_of_mem _ hw)) (by rw [List.length_append, List.length_singleton]; omega), List.filter_cons_of_pos hp, List.map_cons, List.append_assoc]
      rfl
theorem loopC_sel {tg : W → Env' → Sto → Option Env'} {test : Env' → Sto → R Bool} {el : Env' → Sto → R W} {S : Sto} {e : Env'} {α : Type} {g : α → W} {f : α → D} {p : α → Bool} {l : List α} (h : ∀ a ∈ l, ∃ e1, tg (g a) e S = some e1 ∧ test e1 S = .ok (p a) S ∧ (p a = true → el e1 S = .ok (.d (f a)) S)) (hz : l.length ≤ sizeLine) : loopC tg test el (l.map g) e [] S = .ok ((l.filter p).map f) S := by
  rw [loopC_sel1 h (by simpa using hz)]
  rfl
theorem allBl_map {α : Type} (f : α → Bool) : ∀ l : List α, allBl (l.map fun a => .bl (f a)) = some (l.map f)
  | [] => rfl
  | a :: l => by rw [List.map_cons]; unfold allBl; rw [allBl_map f l]; rfl
theorem allInt_map {α : Type} (f : α → Int) : ∀ l : List α, allInt (l.map fun a => .int (f a)) = some (l.map f)
  | [] => rfl
  | a :: l => by rw [List.map_cons]; unfold allInt; rw [allInt_map f l]; rfl
theorem allStr_map {α : Type} (f : α → Str) : ∀ l : List α, allStr (l.map fun a => .str (f a)) = some (l.map f)
  | [] => rfl
  | a :: l => by rw [List.map_cons]; unfold allStr; rw [allStr_map f l]; rfl
/-- a loop that goes on as long as p holds -/
theorem loopF_scan {tg : W → Env' → Sto → Option Env'} {body : Env' → Sto → SR} {ks : List Nat} {n : Nat} {e : Env'} {S : Sto} {α : Type} {g : α → W} {p : α → Bool} {out : SR} (hout : (∃ w S, out = .rt w S) ∨ ∃ c ns l e S, out = .ex c ns l e S) (hn : S.length ≤ n) : ∀ {l : List α}, (∀ a ∈ l, ∃ e1, tg (g a) e S = some e1 ∧ body e1 S = if p a then .nx e1 S else out) → (∀ a e1, tg (g a) e S = some e1 → kill e1 ks = e) →
    loopF tg body ks n (l.map g) e S = if l.all p then .nx e S else out
  | [], _, _ => by simp [loopF]
  | a :: l, h, hk => by
    obtain ⟨e1, h1, h2⟩ := h a List.mem_cons_self
    rw [List.map_cons]
    unfold loopF
    rw [h1]
    dsimp only
    rw [h2, List.all_cons]
    cases hp : p a with
    | false =>
      rw [if_neg Bool.false_ne_true, Bool.false_and, if_neg Bool.false_ne_true]
      rcases hout with ⟨w, S, e⟩ | ⟨c, ns, l, e, S, e'⟩
      · rw [e]
      · rw [e']
    | true =>
      rw [if_pos rfl, Bool.true_and]
      dsimp only
      have e2 : trim n (kill e1 ks) S = S := by
        unfold trim
        rw [if_pos hn]
      rw [e2, hk a e1 h1]
      exact loopF_scan hout hn (fun a ha => h a (List.mem_cons_of_mem _ ha)) hk
/-! ### rules for simp: what follows is behind a name, so that only what has come to a value goes on -/
abbrev CE := W → Sto → R W
def kO2 (z : Bool) (o : Bop) (x : W) : CE := fun y S => bin z o x y S
def kO1 (t : Tb) (z : Bool) (o : Bop) (b : E) (e : Env') : CE := fun x S => (evE t b e S).bind (kO2 z o x)
def kNg : CE := fun x S => match x with
  | .d (.int i) => ok1 (.int (-i)) S
  | _ => .st
def kC2 (o : Cop) (x : W) : CE := fun y S => optBW (cmpW o x y S) S
def kC1 (t : Tb) (o : Cop) (b : E) (e : Env') : CE := fun x S => (evE t b e S).bind (kC2 o x)
def kH3 (t : Tb) (o : Cop) (c : E) (e : Env') (y : W) : Bool → Sto → R W := fun k S => match k with
  | true => (evE t c e S).bind (kC2 o y)
  | false => ok1 (.bl false) S
def kH2 (t : Tb) (o o' : Cop) (c : E) (e : Env') (x : W) : CE := fun y S => (optB (cmpW o x y S) S).bind (kH3 t o' c e y)
def kH1 (t : Tb) (o o' : Cop) (b c : E) (e : Env') : CE := fun x S => (evE t b e S).bind (kH2 t o o' c e x)
def kAn (t : Tb) (l : EL) (e : Env') : CE := fun x S => match x with
  | .d (.bl true) => evAnd t l e S
  | .d (.bl false) => ok1 (.bl false) S
  | _ => .st
def kOr (t : Tb) (l : EL) (e : Env') : CE := fun x S => match x with
  | .d (.bl false) => evOr t l e S
  | .d (.bl true) => ok1 (.bl true) S
  | _ => .st
def kNo : CE := fun x S => match x with
  | .d (.bl b) => ok1 (.bl !b) S
  | _ => .st
def kIt (t : Tb) (a b : E) (e : Env') : Bool → Sto → R W := fun k S => match k with
  | true => evE t a e S
  | false => evE t b e S
def kTd : Option (List D) → Sto → R W := fun o S => match o with
  | some ds => if ds.length ≤ sizeLine then ok1 (.tup ds) S else .st
  | none => .st
def kTu : List W → Sto → R W := fun ws S => kTd (dats ws) S
def kLd (z : Bool) : Option (List D) → Sto → R W := fun o S => match o with
  | some ds => if ds.length ≤ sizeLine then mkL z ds S else .st
  | none => .st
def kLs (z : Bool) : List W → Sto → R W := fun ws S => kLd z (dats ws) S
def kI2 (x : W) : CE := fun y S => ixW x y S
def kI1 (t : Tb) (b : E) (e : Env') : CE := fun x S => (evE t b e S).bind (kI2 x)
def kS3 (z : Bool) (x : W) (l : Option Int) : Option Int → Sto → R W := fun h S => slW z x l h S
def kS2 (t : Tb) (z : Bool) (hi : O) (e : Env') (x : W) : Option Int → Sto → R W := fun l S => (evO t hi e S).bind (kS3 z x l)
def kS1 (t : Tb) (z : Bool) (lo hi : O) (e : Env') : CE := fun x S => (evO t lo e S).bind (kS2 t z hi e x)
def kCb (ps : List Pl) (e : Env') (ws : List W) : Option Fn → Sto → R W := fun o S => match o with
  | some F => callF F ws e ps S
  | none => .st
def kCa (t : Tb) (n : Nat) (ps : List Pl) (e : Env') : List W → Sto → R W := fun ws S => kCb ps e ws t.fn[n]? S
def kBi (z : Bool) (f : Bf) : List W → Sto → R W := fun ws S => biW z f ws S
def kIs (ty : String) : CE := fun x S => optBW (isiW ty x S) S
def kMf (z : Bool) (m : Mf) (x : W) : List W → Sto → R W := fun ws S => meW z m x ws S
def kMe (t : Tb) (z : Bool) (m : Mf) (l : A) (e : Env') : CE := fun x S => if meTy S m x then (evA t l e S).bind (kMf z m x) else .st
def evEK (t : Tb) (a : E) : Env' → Sto → R W := fun e S => evE t a e S
def evTK (t : Tb) (a : T) : Env' → Sto → R Bool := fun e S => evT t a e S
def evK (t : Tb) (b : B) : Env' → Sto → SR := fun e S => evB t b e S
def kMk (z : Bool) : List D → Sto → R W := fun l S => mkL z l S
def kLc (t : Tb) (z : Bool) (own : List (Str × Nat)) (g : G) (tt : T) (el : E) (e : Env') : List W → Sto → R W := fun ws S => (loopC (evG g) (evTK t tt) (evEK t el) ws (kill e (own.map (·.2))) [] S).noX.bind (kMk z)
def kA2 (x : W) : List W → Sto → R (List W) := fun xs S => .ok (x :: xs) S
def kA1 (t : Tb) (l : A) (e : Env') : W → Sto → R (List W) := fun x S => (evA t l e S).bind (kA2 x)
def kIp : W → Sto → R (Option Int) := fun x S => intPart x S
def kTv : W → Sto → R Bool := fun x S => match x with
  | .d (.bl b) => .ok b S
  | _ => .st
def kTr : W → Sto → R Bool := fun x S => optB (tru S x) S
def kD2 (o : Cop) (x : W) : W → Sto → R Bool := fun y S => optB (cmpW o x y S) S
def kD1 (t : Tb) (o : Cop) (b : E) (e : Env') : W → Sto → R Bool := fun x S => (evE t b e S).bind (kD2 o x)
def kG3 (t : Tb) (o : Cop) (c : E) (e : Env') (y : W) : Bool → Sto → R Bool := fun k S => match k with
  | true => (evE t c e S).bind (kD2 o y)
  | false => .ok false S
def kG2 (t : Tb) (o o' : Cop) (c : E) (e : Env') (x : W) : W → Sto → R Bool := fun y S => (optB (cmpW o x y S) S).bind (kG3 t o' c e y)
def kG1 (t : Tb) (o o' : Cop) (b c : E) (e : Env') : W → Sto → R Bool := fun x S => (evE t b e S).bind (kG2 t o o' c e x)
def kTn : Bool → Sto → R Bool := fun b S => .ok (!b) S
def kTa (t : Tb) (l : TL) (e : Env') : Bool → Sto → R Bool := fun b S => match b with
  | true => evTA t l e S
  | false => .ok false S
def kTo (t : Tb) (l : TL) (e : Env') : Bool → Sto → R Bool := fun b S => match b with
  | true => .ok true S
  | false => evTO t l e S
def kSq : W → Sto → R (List W) := fun x S => match x with
  | .d (.lst l) => .ok (l.map .d) S
  | .d (.tup l) => .ok (l.map .d) S
  | .d (.ro l) => .ok (l.map .d) S
  | _ => .st
def kR1 : W → Sto → R (List W) := fun x S => match x with
  | .d (.int i) => if rngOk i then .ok (rngL 0 i.toNat) S else .st
  | _ => .st
def kR3 (x : W) : W → Sto → R (List W) := fun y S => match x, y with
  | .d (.int i), .d (.int j) => if rngOk i && rngOk j then .ok (rngL i (j - i).toNat) S else .st
  | _, _ => .st
def kR2 (t : Tb) (b : E) (e : Env') : W → Sto → R (List W) := fun x S => (evE t b e S).bind (kR3 x)
def kEn : W → Sto → R (List W) := fun x S => match x with
  | .d (.lst l) => .ok (enmL 0 l) S
  | _ => .st
def kCh : W → Sto → R (List W) := fun x S => match x with
  | .d (.str s) => .ok (s.cps.toList.map fun c => .d (.str ⟨#[c]⟩)) S
  | _ => .st
abbrev CS := W → Sto → SR
def kSt (i : Nat) (e : Env') : CS := fun w S => if i < e.length then .nx (e.set i (some w)) S else .st
def kAo : Option Env' → Sto → SR := fun o S => match o with
  | some e1 => .nx e1 S
  | none => .st
def kAs (g : G) (e : Env') : CS := fun w S => kAo (evG g w e S) S
def kAu (i : Nat) (o : Bop) (e : Env') (x : W) : CS := fun y S => match o, x, y with
  | .add, .d (.int a), .d (.int b) => .nx (e.set i (some (.d (.int (a + b))))) S
  | .sub, .d (.int a), .d (.int b) => .nx (e.set i (some (.d (.int (a - b))))) S
  | .mul, .d (.int a), .d (.int b) => if mulOk a b then .nx (e.set i (some (.d (.int (a * b))))) S else .st
  | _, _, _ => .st
def kAx (t : Tb) (i : Nat) (o : Bop) (a : E) (e : Env') (S : Sto) : Option (Option W) → SR := fun q => match q with
  | some (some x) => (evE t a e S).sr e (kAu i o e x)
  | _ => .st
def kX3 (e : Env') (x l : W) : CS := fun k S => match l, k, x with
  | .m q, .d (.int i), .d y => (match S[q]? with
    | some (some (.lst l)) => (match ixN l.length i with
      | some n => .nx e (S.set q (some (.lst (l.set n y))))
      | none => .st)
    | _ => .st)
  | _, _, _ => .st
def kX2 (t : Tb) (j : E) (e : Env') (x : W) : CS := fun l S => (evE t j e S).sr e (kX3 e x l)
def kX1 (t : Tb) (o j : E) (e : Env') : CS := fun x S => (evE t o e S).sr e (kX2 t j e x)
def kEx (e : Env') : CS := fun _ S => .nx e S
def kRt : CS := fun w S => .rt w S
def kIf (t : Tb) (a b : B) (e : Env') : Bool → Sto → SR := fun k S => match k with
  | true => evB t a e S
  | false => evB t b e S
def kFo (t : Tb) (g : G) (b : B) (ks : List Nat) (e : Env') : List W → Sto → SR := fun ws S => loopF (evG g) (evK t b) ks S.length ws e S
section
variable {t : Tb} {e : Env'} {S : Sto} {a b c : E} {o o' : Cop} {bo : Bop} {z : Bool} {l : A} {el : EL} {tl : TL} {i j : Int} {n : Nat} {w x y : W} {s : Str} {k : Bool} {ds : List D} {tt : T} {ps : List Pl} {F : Fn} {B1 B2 : B} {ks : List Nat} {g : G} {st : En.S} {sc : Sc} {ws : List W} {e1 : Env'} {f : Bf} {m : Mf} {op1 op2 : O} {own : List (Str × Nat)}
theorem q1 : evE t (.var n) e S = getE e n S := rfl
theorem q2 : evE t (.int i) e S = .ok (.d (.int i)) S := rfl
theorem q3 : evE t (.str s) e S = .ok (.d (.str s)) S := rfl
theorem q4 : evE t (.bl k) e S = .ok (.d (.bl k)) S := rfl
theorem q5 : evE t .non e S = .ok (.d .non) S := rfl
theorem q6 : evE t (.glo n) e S = optR t.cn[n]? S := rfl
theorem q7 : evE t (.op z bo a b) e S = (evE t a e S).bind (kO1 t z bo b e) := rfl
theorem q7a : kO1 t z bo b e x S = (evE t b e S).bind (kO2 z bo x) := rfl
theorem q7b : kO2 z bo x y S = bin z bo x y S := rfl
theorem q8 : evE t (.neg a) e S = (evE t a e S).bind kNg := rfl
theorem q8a : kNg (.d (.int i)) S = .ok (.d (.int (-i))) S := rfl
theorem q9 : evE t (.cmp o a b) e S = (evE t a e S).bind (kC1 t o b e) := rfl
theorem q9a : kC1 t o b e x S = (evE t b e S).bind (kC2 o x) := rfl
theorem q9b : kC2 o x y S = optBW (cmpW o x y S) S := rfl
theorem q10 : evE t (.chn o o' a b c) e S = (evE t a e S).bind (kH1 t o o' b c e) := rfl
theorem q10a : kH1 t o o' b c e x S = (evE t b e S).bind (kH2 t o o' c e x) := rfl
theorem q10b : kH2 t o o' c e x y S = (optB (cmpW o x y S) S).bind (kH3 t o' c e y) := rfl
theorem q10c : kH3 t o c e y true S = (evE t c e S).bind (kC2 o y) := rfl
theorem q10d : kH3 t o c e y false S = .ok (.d (.bl false)) S := rfl
theorem q11 : evE t (.and el) e S = evAnd t el e S := rfl
theorem q12 : evE t (.or el) e S = evOr t el e S := rfl
theorem q11a : evAnd t (.one a) e S = evE t a e S := rfl
theorem q11b : evAnd t (.cons a el) e S = (evE t a e S).bind (kAn t el e) := rfl
theorem q11c : kAn t el e (.d (.bl true)) S = evAnd t el e S := rfl
theorem q11d : kAn t el e (.d (.bl false)) S = .ok (.d (.bl false)) S := rfl
theorem q12a : evOr t (.one a) e S = evE t a e S := rfl
theorem q12b : evOr t (.cons a el) e S = (evE t a e S).bind (kOr t el e) := rfl
theorem q12c : kOr t el e (.d (.bl false)) S = evOr t el e S := rfl
theorem q12d : kOr t el e (.d (.bl true)) S = .ok (.d (.bl true)) S := rfl
theorem q13 : evE t (.not a) e S = (evE t a e S).bind kNo := rfl
theorem q13a : kNo (.d (.bl k)) S = .ok (.d (.bl !k)) S := rfl
theorem q14 : evE t (.ite tt a b) e S = (evT t tt e S).bind (kIt t a b e) := rfl
theorem q14a : kIt t a b e true S = evE t a e S := rfl
theorem q14b : kIt t a b e false S = evE t b e S := rfl
theorem q15 : evE t (.tup l) e S = (evA t l e S).bind kTu := rfl
theorem q15a : kTu ws S = kTd (dats ws) S := rfl
theorem q15b (h : ds.length ≤ sizeLine) : kTd (some ds) S = .ok (.d (.tup ds)) S := if_pos h
theorem q16 : evE t (.lst z l) e S = (evA t l e S).bind (kLs z) := rfl
theorem q16a : kLs z ws S = kLd z (dats ws) S := rfl
theorem q16b (h : ds.length ≤ sizeLine) : kLd z (some ds) S = mkL z ds S := if_pos h
theorem q17 : evE t (.ix a b) e S = (evE t a e S).bind (kI1 t b e) := rfl
theorem q17a : kI1 t b e x S = (evE t b e S).bind (kI2 x) := rfl
theorem q17b : kI2 x y S = ixW x y S := rfl
theorem q18 : evE t (.sl z a op1 op2) e S = (evE t a e S).bind (kS1 t z op1 op2 e) := rfl
theorem q18a : kS1 t z op1 op2 e x S = (evO t op1 e S).bind (kS2 t z op2 e x) := rfl
theorem q18b {p : Option Int} : kS2 t z op2 e x p S = (evO t op2 e S).bind (kS3 z x p) := rfl
theorem q18c {p q : Option Int} : kS3 z x p q S = slW z x p q S := rfl
theorem q19 : evE t (.call n l ps) e S = (evA t l e S).bind (kCa t n ps e) := rfl
theorem q19a : kCa t n ps e ws S = kCb ps e ws t.fn[n]? S := rfl
theorem q19b : kCb ps e ws (some F) S = callF F ws e ps S := rfl
theorem q20 : evE t (.bi z f l) e S = (evA t l e S).bind (kBi z f) := rfl
theorem q20a : kBi z f ws S = biW z f ws S := rfl
theorem q21 {ty : String} : evE t (.isi a ty) e S = (evE t a e S).bind (kIs ty) := rfl
theorem q21a {ty : String} : kIs ty x S = optBW (isiW ty x S) S := rfl
theorem q22 : evE t (.me z m a l) e S = (evE t a e S).bind (kMe t z m l e) := rfl
theorem q22a (h : meTy S m x = true) : kMe t z m l e x S = (evA t l e S).bind (kMf z m x) := if_pos h
theorem q22b : kMf z m x ws S = meW z m x ws S := rfl
theorem q23 : evE t (.lc z own g sc tt a) e S = (evSc t sc e S).bind (kLc t z own g tt a e) := rfl
theorem q23a : kLc t z own g tt a e ws S = (loopC (evG g) (evTK t tt) (evEK t a) ws (kill e (own.map (·.2))) [] S).noX.bind (kMk z) := rfl
theorem q23b : kMk z ds S = mkL z ds S := rfl
theorem q24 : evE t (.frz n) e S = frzI e n S := rfl
theorem q25 : evA t .nil e S = .ok [] S := rfl
theorem q25a : evA t (.cons a l) e S = (evE t a e S).bind (kA1 t l e) := rfl
theorem q25b : kA1 t l e x S = (evA t l e S).bind (kA2 x) := rfl
theorem q25c : kA2 x ws S = .ok (x :: ws) S := rfl
theorem q26 : evO t .no e S = .ok none S := rfl
theorem q26a : evO t (.so a) e S = (evE t a e S).bind kIp := rfl
theorem q26b : kIp (.d (.int i)) S = .ok (some i) S := rfl
theorem q27 : evT t .yes e S = .ok true S := rfl
theorem q28 : evT t (.val a) e S = (evE t a e S).bind kTv := rfl
theorem q28a : kTv (.d (.bl k)) S = .ok k S := rfl
theorem q29 : evT t (.tru a) e S = (evE t a e S).bind kTr := rfl
theorem q29a : kTr x S = optB (tru S x) S := rfl
theorem q30 : evT t (.cmp o a b) e S = (evE t a e S).bind (kD1 t o b e) := rfl
theorem q30a : kD1 t o b e x S = (evE t b e S).bind (kD2 o x) := rfl
theorem q30b : kD2 o x y S = optB (cmpW o x y S) S := rfl
theorem q31 : evT t (.chn o o' a b c) e S = (evE t a e S).bind (kG1 t o o' b c e) := rfl
theorem q31a : kG1 t o o' b c e x S = (evE t b e S).bind (kG2 t o o' c e x) := rfl
theorem q31b : kG2 t o o' c e x y S = (optB (cmpW o x y S) S).bind (kG3 t o' c e y) := rfl
theorem q31c : kG3 t o c e y true S = (evE t c e S).bind (kD2 o y) := rfl
theorem q31d : kG3 t o c e y false S = .ok false S := rfl
theorem q32 : evT t (.and tl) e S = evTA t tl e S := rfl
theorem q33 : evT t (.or tl) e S = evTO t tl e S := rfl
theorem q34 : evT t (.not tt) e S = (evT t tt e S).bind kTn := rfl
theorem q34a : kTn k S = .ok (!k) S := rfl
theorem q32a : evTA t (.one tt) e S = evT t tt e S := rfl
theorem q32b : evTA t (.cons tt tl) e S = (evT t tt e S).bind (kTa t tl e) := rfl
theorem q32c : kTa t tl e true S = evTA t tl e S := rfl
theorem q32d : kTa t tl e false S = .ok false S := rfl
theorem q33a : evTO t (.one tt) e S = evT t tt e S := rfl
theorem q33b : evTO t (.cons tt tl) e S = (evT t tt e S).bind (kTo t tl e) := rfl
theorem q33c : kTo t tl e true S = .ok true S := rfl
theorem q33d : kTo t tl e false S = evTO t tl e S := rfl
theorem q35 : evSc t (.seq a) e S = (evE t a e S).bind kSq := rfl
theorem q35a : kSq (.d (.lst ds)) S = .ok (ds.map .d) S := rfl
theorem q35b : kSq (.d (.tup ds)) S = .ok (ds.map .d) S := rfl
theorem q35c : kSq (.d (.ro ds)) S = .ok (ds.map .d) S := rfl
theorem q36 : evSc t (.rng1 a) e S = (evE t a e S).bind kR1 := rfl
theorem q36a (h : rngOk i = true) : kR1 (.d (.int i)) S = .ok (rngL 0 i.toNat) S := if_pos h
theorem q37 : evSc t (.rng2 a b) e S = (evE t a e S).bind (kR2 t b e) := rfl
theorem q37a : kR2 t b e x S = (evE t b e S).bind (kR3 x) := rfl
theorem q37b (h : rngOk i = true) (h' : rngOk j = true) : kR3 (.d (.int i)) (.d (.int j)) S = .ok (rngL i (j - i).toNat) S := by
  show (if rngOk i && rngOk j then _ else R.st) = _
  rw [h, h']
  rfl
theorem q38 : evSc t (.enm a) e S = (evE t a e S).bind kEn := rfl
theorem q38a : kEn (.d (.lst ds)) S = .ok (enmL 0 ds) S := rfl
theorem q39 : evSc t (.chars a) e S = (evE t a e S).bind kCh := rfl
theorem q39a : kCh (.d (.str s)) S = .ok (s.cps.toList.map fun c => .d (.str ⟨#[c]⟩)) S := rfl
theorem q40 : evB t .nil e S = .nx e S := rfl
theorem q40a : evB t (.cons st B1) e S = (evS t st e S).bind (evK t B1) := rfl
theorem q40b : evK t B1 e S = evB t B1 e S := rfl
theorem q40c : evTK t tt e S = evT t tt e S := rfl
theorem q40d : evEK t a e S = evE t a e S := rfl
theorem q41 : evS t (.set n a) e S = (evE t a e S).sr e (kSt n e) := rfl
theorem q41a (h : n < e.length) : kSt n e w S = .nx (e.set n (some w)) S := if_pos h
theorem q42 : evS t (.asg g a) e S = (evE t a e S).sr e (kAs g e) := rfl
theorem q42a : kAs g e w S = kAo (evG g w e S) S := rfl
theorem q42b : kAo (some e1) S = .nx e1 S := rfl
theorem seqB {b : B} {e2 : Env'} {S2 : Sto} (h : evS t st e S = .nx e2 S2) : evB t (.cons st b) e S = evB t b e2 S2 := by rw [q40a, h]; rfl
theorem q44d {d : D} {l : List D} (h0 : 0 ≤ i) (h : i.toNat < l.length) : kX3 e (.d d) (.m 0) (.d (.int i)) (some (.lst l) :: S) = .nx e (some (.lst (l.set i.toNat d)) :: S) := by
  have h' : ixN l.length i = some i.toNat := by
    unfold ixN
    rw [if_pos h0, if_pos (by omega)]
  show (match ixN l.length i with
    | some n => SR.nx e ((some (Ob.lst l) :: S).set 0 (some (.lst (l.set n d))))
    | none => .st) = _
  rw [h']
  rfl
theorem q43 : evS t (.aug n bo a) e S = kAx t n bo a e S e[n]? := rfl
theorem q43a : kAx t n bo a e S (some (some x)) = (evE t a e S).sr e (kAu n bo e x) := rfl
theorem q43b : kAu n .add e (.d (.int i)) (.d (.int j)) S = .nx (e.set n (some (.d (.int (i + j))))) S := rfl
theorem q43c : kAu n .sub e (.d (.int i)) (.d (.int j)) S = .nx (e.set n (some (.d (.int (i - j))))) S := rfl
theorem q43d (h : mulOk i j = true) : kAu n .mul e (.d (.int i)) (.d (.int j)) S = .nx (e.set n (some (.d (.int (i * j))))) S := if_pos h
theorem q44 : evS t (.setIx a b c) e S = (evE t c e S).sr e (kX1 t a b e) := rfl
theorem q44a : kX1 t a b e x S = (evE t a e S).sr e (kX2 t b e x) := rfl
theorem q44b : kX2 t b e x y S = (evE t b e S).sr e (kX3 e x y) := rfl
theorem q44c {d : D} {l : List D} {n : Nat} (h : ixN l.length i = some n) : kX3 e (.d d) (.m 0) (.d (.int i)) (some (.lst l) :: S) = .nx e (some (.lst (l.set n d)) :: S) := by
  show (match ixN l.length i with
    | some n => SR.nx e ((some (Ob.lst l) :: S).set 0 (some (.lst (l.set n d))))
    | none => .st) = _
  rw [h]
  rfl
theorem q45 : evS t (.ex a) e S = (evE t a e S).sr e (kEx e) := rfl
theorem q45a : kEx e w S = .nx e S := rfl
theorem q46 : evS t (.ret a) e S = (evE t a e S).sr e kRt := rfl
theorem q46a : kRt w S = .rt w S := rfl
theorem q46b : evS t .retN e S = .rt (.d .non) S := rfl
theorem q47 : evS t (.iff tt B1 B2) e S = (evT t tt e S).sr e (kIf t B1 B2 e) := rfl
theorem q47a : kIf t B1 B2 e true S = evB t B1 e S := rfl
theorem q47b : kIf t B1 B2 e false S = evB t B2 e S := rfl
theorem q48 : evS t (.fo g sc B1 ks) e S = (evSc t sc e S).sr e (kFo t g B1 ks e) := rfl
theorem q48a : kFo t g B1 ks e ws S = loopF (evG g) (evK t B1) ks S.length ws e S := rfl
theorem q49 : evS t (.wh tt B1 ks) e S = loopW (evTK t tt) (evK t B1) ks S.length 100000 e S := rfl
theorem q50 : evS t .brk e S = .bk e S := rfl
theorem q50a : evS t .cont e S = .ct e S := rfl
theorem q50b : evS t .pass e S = .nx e S := rfl
theorem q50c : evS t (.nop ks) e S = .nx (kill e ks) S := rfl
theorem sz_le {n : Nat} (h : n ≤ 16777216) : n ≤ sizeLine := h
theorem sz_lt {n : Nat} (h : n < 16777216) : n < sizeLine := h
end
section
variable {α γ : Type} {a : α} {S : Sto} {e : Env'} {f : α → Sto → R γ} {g : α → Sto → SR} {k : Env' → Sto → SR} {c : Str} {ns : List Str} {l l' : List D} {i j : Int} {s z : Str} {w w' : W} {n : Nat} {b : Bool} {t : Tb}
theorem eb1 : (R.ok a S).bind f = f a S := rfl
theorem eb2 : (R.ex c ns l S : R α).bind f = .ex c ns l S := rfl
theorem eb3 : (R.st : R α).bind f = .st := rfl
theorem es1 : (R.ok a S).sr e g = g a S := rfl
theorem es2 : (R.ex c ns l S : R α).sr e g = .ex c ns l e S := rfl
theorem es3 : (R.st : R α).sr e g = .st := rfl
theorem sb1 : (SR.nx e S).bind k = k e S := rfl
theorem sb2 : (SR.rt w S).bind k = .rt w S := rfl
theorem sb3 : (SR.bk e S).bind k = .bk e S := rfl
theorem sb4 : (SR.ct e S).bind k = .ct e S := rfl
theorem sb5 : (SR.ex c ns l e S).bind k = .ex c ns l e S := rfl
theorem sb6 : (SR.st).bind k = .st := rfl
theorem ge0 {e : List (Option W)} : getE (some w :: e) 0 S = .ok w S := rfl
theorem ge1 {x : Option W} {e : List (Option W)} : getE (x :: e) (n + 1) S = getE e n S := by unfold getE; rw [List.getElem?_cons_succ]
theorem fz0 {e : List (Option W)} {d : D} : frzI (some (.d d) :: e) 0 S = .ok (.d d) S := rfl
theorem fz1 {x : Option W} {e : List (Option W)} : frzI (x :: e) (n + 1) S = frzI e n S := by unfold frzI; rw [List.getElem?_cons_succ]
theorem fzm {e : List (Option W)} (h : S[n]? = some (some (.lst l))) : frzI (some (.m n) :: e) 0 S = .ok (.d (.lst l)) (S.set n none) := by unfold frzI; rw [List.getElem?_cons_zero]; simp only [h]
theorem sn0 {x : Option W} {e : List (Option W)} {v : Option W} : List.set (x :: e) 0 v = v :: e := rfl
theorem sn1 {x : Option W} {e : List (Option W)} {v : Option W} : List.set (x :: e) (n + 1) v = x :: List.set e n v := rfl
theorem ci1 : cmpW .lt (.d (.int i)) (.d (.int j)) S = some (decide (i < j)) := rfl
theorem ci2 : cmpW .le (.d (.int i)) (.d (.int j)) S = some (decide (i ≤ j)) := rfl
theorem ci3 : cmpW .gt (.d (.int i)) (.d (.int j)) S = some (decide (j < i)) := rfl
theorem ci4 : cmpW .ge (.d (.int i)) (.d (.int j)) S = some (decide (j ≤ i)) := rfl
theorem ci5 : cmpW .eq (.d (.int i)) (.d (.int j)) S = some (decide (i = j)) := rfl
theorem ci6 : cmpW .ne (.d (.int i)) (.d (.int j)) S = some (!decide (i = j)) := rfl
theorem cs5 : cmpW .eq (.d (.str s)) (.d (.str z)) S = some (decide (s = z)) := rfl
theorem cs6 : cmpW .ne (.d (.str s)) (.d (.str z)) S = some (!decide (s = z)) := rfl
theorem cb5 {a b : Bool} : cmpW .eq (.d (.bl a)) (.d (.bl b)) S = some (decide (a = b)) := rfl
theorem cb6 {a b : Bool} : cmpW .ne (.d (.bl a)) (.d (.bl b)) S = some (!decide (a = b)) := rfl
theorem oo1 {o : D} : optR (some o) S = .ok (.d o) S := rfl
theorem oo2 : optBW (some b) S = .ok (.d (.bl b)) S := rfl
theorem oo3 : optB (some b) S = .ok b S := rfl
theorem bi1 : bin true .add (.d (.int i)) (.d (.int j)) S = .ok (.d (.int (i + j))) S := rfl
theorem bi2 : bin true .sub (.d (.int i)) (.d (.int j)) S = .ok (.d (.int (i - j))) S := rfl
theorem bi3 (h : mulOk i j = true) : bin true .mul (.d (.int i)) (.d (.int j)) S = .ok (.d (.int (i * j))) S := by show (if mulOk i j = true then _ else R.st) = _; rw [if_pos h]; rfl
theorem bi4 (h : 0 < j) : bin true .mod (.d (.int i)) (.d (.int j)) S = .ok (.d (.int (i % j))) S := by show (if 0 < j then _ else R.st) = _; rw [if_pos h]; rfl
theorem bi5 (h : 0 < j ∧ j < 1073741824) : bin true .fdiv (.d (.int i)) (.d (.int j)) S = .ok (.d (.int (i / j))) S := by show (if 0 < j ∧ j < 1073741824 then _ else R.st) = _; rw [if_pos h]; rfl
theorem bi6 (h : 0 ≤ j ∧ j ≤ 1000000 ∧ i.natAbs < 2 ^ 64) : bin true .pow (.d (.int i)) (.d (.int j)) S = .ok (.d (.int (i ^ j.toNat))) S := by show (if 0 ≤ j ∧ j ≤ 1000000 ∧ i.natAbs < 2 ^ 64 then _ else R.st) = _; rw [if_pos h]; rfl
theorem bi7 (h : s.length + z.length ≤ sizeLine) : bin true .add (.d (.str s)) (.d (.str z)) S = .ok (.d (.str (s ++ z))) S := by show (if s.length + z.length ≤ sizeLine then _ else R.st) = _; rw [if_pos h]; rfl
theorem bu1 (h : s.length ≤ sizeLine) : biW true .len [.d (.str s)] S = .ok (.d (.int s.length)) S := by show (if s.length ≤ sizeLine then _ else R.st) = _; rw [if_pos h]; rfl
theorem bu2 : biW true .len [.d (.lst l)] S = .ok (.d (.int l.length)) S := rfl
theorem bu3 : biW true .len [.d (.tup l)] S = .ok (.d (.int l.length)) S := rfl
theorem bu4 : biW true .len [.d (.ro l)] S = .ok (.d (.int l.length)) S := rfl
theorem bu5 (h : S[n]? = some (some (.lst l))) : biW true .len [.m n] S = .ok (.d (.int l.length)) S := by
  show optR ((sv S (.m n)).map fun l => .int l.length) S = _
  simp only [sv, h]
  rfl
theorem bu6 : biW true .abs [.d (.int i)] S = .ok (.d (.int (if i < 0 then -i else i))) S := rfl
theorem bu7 : biW true .max [.d (.int i), .d (.int j)] S = .ok (.d (.int (if j > i then j else i))) S := rfl
theorem bu8 : biW true .min [.d (.int i), .d (.int j)] S = .ok (.d (.int (if j < i then j else i))) S := rfl
theorem bu9 {β : Type} {q : List β} {p : β → Bool} : biW true .all [.d (.lst (q.map fun a => .bl (p a)))] S = .ok (.d (.bl (q.all p))) S := by
  show optR (((qv S (.d (.lst _))).bind allBl).map fun l => .bl (l.all id)) S = _
  simp only [qv, Option.bind_some, allBl_map, Option.map_some, List.all_map]
  rfl
theorem tr1 : tru S (.d (.bl b)) = some b := rfl
theorem nn1 {b : Bool} : (match (true : Bool) with
    | true => w
    | false => w') = w := rfl
theorem nx2 : (R.ok a S).noX = .ok a S := rfl
theorem mk1 : mkL true l S = .ok (.d (.lst l)) S := rfl
theorem nx1 {r : R α} {a : α} (h : r = .ok a S) : r.noX = .ok a S := by rw [h]; rfl
theorem ch1 {c : Nat} : cmpW .inn (.d (.str ⟨#[c]⟩)) (.d (.str s)) S = some (decide (c ∈ s.cps.toList)) := rfl
theorem ch2 {c : Nat} : cmpW .notIn (.d (.str ⟨#[c]⟩)) (.d (.str s)) S = some (!decide (c ∈ s.cps.toList)) := rfl
theorem ip1 : intPart (.d (.int i)) S = .ok (some i) S := rfl
theorem eg1 : evG (.nm n) w e S = if n < e.length then some (e.set n (some w)) else none := by simp only [evG]
theorem eg2 {gl : GL} : evG (.tup gl) (.d (.tup l)) e S = evGL gl l e S := by simp only [evG]
theorem eg3 : evGL .nil [] e S = some e := by simp only [evGL]
def kGl (gl : GL) (l : List D) (S : Sto) : Option Env' → Option Env'
  | some e1 => evGL gl l e1 S
  | none => none
theorem eg5 {g : G} {gl : GL} {x : D} : evGL (.cons g gl) (x :: l) e S = kGl gl l S (evG g (.d x) e S) := by
  simp only [evGL]
  cases evG g (.d x) e S <;> rfl
theorem eg6 {gl : GL} {e1 : Env'} : kGl gl l S (some e1) = evGL gl l e1 S := rfl
theorem bi8 (h : l.isEmpty = false) (h' : l'.isEmpty = false) (hz : l.length + l'.length ≤ sizeLine) : bin true .add (.d (.tup l)) (.d (.tup l')) S = .ok (.d (.tup (l ++ l'))) S := by
  show (if l.isEmpty || l'.isEmpty then R.st else if l.length + l'.length ≤ sizeLine then ok1 (.tup (l ++ l')) S else R.st) = _
  rw [h, h', if_pos hz]
  rfl
theorem bi11 (hz : l.length + l'.length ≤ sizeLine) : bin true .add (.d (.lst l)) (.d (.lst l')) S = .ok (.d (.lst (l ++ l'))) S := by
  show (if l.length + l'.length ≤ sizeLine then mkL true (l ++ l') S else R.st) = _
  rw [if_pos hz]
  rfl
theorem bi12 (hz : l.length + l'.length ≤ sizeLine) : bin false .add (.d (.lst l)) (.d (.lst l')) [] = .ok (.m 0) [some (.lst (l ++ l'))] := by
  show (if l.length + l'.length ≤ sizeLine then mkL false (l ++ l') [] else R.st) = _
  rw [if_pos hz]
  rfl
theorem eg4 {g : G} {gl : GL} {x : D} {e1 : Env'} (h : evG g (.d x) e S = some e1) : evGL (.cons g gl) (x :: l) e S = evGL gl l e1 S := by simp only [evGL, h]
theorem cn1 {c : Str} (h : c.length = 1) : cmpW .inn (.d (.str c)) (.d (.str s)) S = some (decide (c.cps[0]! ∈ s.cps.toList)) := by
  show (if c.length = 1 then some (decide (c.cps[0]! ∈ s.cps.toList)) else none) = _
  rw [if_pos h]
theorem cn2 {c : Str} (h : c.length = 1) : cmpW .notIn (.d (.str c)) (.d (.str s)) S = some (!decide (c.cps[0]! ∈ s.cps.toList)) := by
  show (if c.length = 1 then some (!decide (c.cps[0]! ∈ s.cps.toList)) else none) = _
  rw [if_pos h]
theorem atI0 {α : Type} {a : α} {l : List α} : atI (a :: l) 0 = some a := by
  unfold atI ixN
  rw [if_pos (by decide), if_pos (by rw [List.length_cons]; omega)]
  rfl
theorem atN {α : Type} {l : List α} {a : α} {i : Int} (h0 : 0 ≤ i) (h : l[i.toNat]? = some a) : atI l i = some a := by
  have hl := (List.getElem?_eq_some_iff.mp h).1
  unfold atI ixN
  rw [if_pos h0, if_pos (by omega)]
  exact h
theorem ixs0 {c : Nat} {r : List Nat} (h : s.cps.toList = c :: r) (hs : s.length ≤ sizeLine) : ixW (.d (.str s)) (.d (.int 0)) S = .ok (.d (.str ⟨#[c]⟩)) S := by
  show (if s.length ≤ sizeLine then _ else R.st) = _
  rw [if_pos hs, h, atI0]
  rfl
theorem ixsH (h : (1:Int) ≤ s.length) (hs : s.length ≤ sizeLine) : ∀ S, ixW (.d (.str s)) (.d (.int 0)) S = .ok (.d (.str ⟨#[s.cps.toList.headD 0]⟩)) S := fun S => by
  cases e : s.cps.toList with
  | nil =>
    have : s.length = 0 := by
      show s.cps.toList.length = 0
      rw [e]; rfl
    omega
  | cons c r => exact ixs0 e hs
theorem ixl {x : D} {i : Int} (h : atI l i = some x) : ixW (.d (.lst l)) (.d (.int i)) S = .ok (.d x) S := by
  show (match atI l i with | some x => ok1 x S | none => .st) = _
  rw [h]
  rfl
theorem ixt {x : D} {i : Int} (h : atI l i = some x) : ixW (.d (.tup l)) (.d (.int i)) S = .ok (.d x) S := by
  show (match atI l i with | some x => ok1 x S | none => .st) = _
  rw [h]
  rfl
theorem ixr {x : D} {i : Int} (h : atI l i = some x) : ixW (.d (.ro l)) (.d (.int i)) S = .ok (.d x) S := by
  show (match atI l i with | some x => ok1 x S | none => .st) = _
  rw [h]
  rfl
theorem trimD {n : Nat} {e : Env'} (h : S.length ≤ n) : trim n e S = S := by unfold trim; rw [if_pos h]
end
/-! ### loops turn by turn, a list that grows -/
theorem loopF_step {tg : W → Env' → Sto → Option Env'} {body : Env' → Sto → SR} {ks : List Nat} {n : Nat} {w : W} {ws : List W} {e e1 e2 : Env'} {S S2 : Sto} (h1 : tg w e S = some e1) (h2 : body e1 S = .nx e2 S2) (hn : S2.length ≤ n) : loopF tg body ks n (w :: ws) e S = loopF tg body ks n ws (kill e2 ks) S2 := by
  unfold loopF
  rw [h1]
  dsimp only
  rw [h2]
  dsimp only
  rw [trimD hn]
  cases ws <;> rfl
theorem loopW_step {test : Env' → Sto → R Bool} {body : Env' → Sto → SR} {ks : List Nat} {n m : Nat} {e e2 : Env'} {S S2 : Sto} (h1 : test e S = .ok true S) (h2 : body e S = .nx e2 S2) (hn : S2.length ≤ n) : loopW test body ks n (m + 1) e S = loopW test body ks n m (kill e2 ks) S2 := by
  rw [loopW, h1]
  simp only [es1]
  rw [h2]
  dsimp only
  rw [trimD hn]
theorem loopW_end {test : Env' → Sto → R Bool} {body : Env' → Sto → SR} {ks : List Nat} {n m : Nat} {e : Env'} {S : Sto} (h1 : test e S = .ok false S) : loopW test body ks n (m + 1) e S = .nx e S := by
  rw [loopW, h1]
  rfl
theorem loopF_stepK {g : G} {t : Tb} {b : B} {ks : List Nat} {n : Nat} {w : W} {ws : List W} {e e1 e2 : Env'} {S S2 : Sto} (h1 : evG g w e S = some e1) (h2 : evB t b e1 S = .nx e2 S2) (hn : S2.length ≤ n) : loopF (evG g) (evK t b) ks n (w :: ws) e S = loopF (evG g) (evK t b) ks n ws (kill e2 ks) S2 := loopF_step h1 h2 hn
theorem loopF_retK {g : G} {t : Tb} {b : B} {ks : List Nat} {n : Nat} {w z : W} {ws : List W} {e e1 : Env'} {S S2 : Sto} (h1 : evG g w e S = some e1) (h2 : evB t b e1 S = .rt z S2) : loopF (evG g) (evK t b) ks n (w :: ws) e S = .rt z S2 := by
  unfold loopF
  rw [h1]
  dsimp only
  have h2 : evK t b e1 S = .rt z S2 := h2
  rw [h2]
theorem loopW_stepK {c : T} {t : Tb} {b : B} {ks : List Nat} {n m : Nat} {e e2 : Env'} {S S2 : Sto} (h1 : evT t c e S = .ok true S) (h2 : evB t b e S = .nx e2 S2) (hn : S2.length ≤ n) : loopW (evTK t c) (evK t b) ks n (m + 1) e S = loopW (evTK t c) (evK t b) ks n m (kill e2 ks) S2 := loopW_step h1 h2 hn
theorem loopW_endK {c : T} {t : Tb} {b : B} {ks : List Nat} {n m : Nat} {e : Env'} {S : Sto} (h1 : evT t c e S = .ok false S) : loopW (evTK t c) (evK t b) ks n (m + 1) e S = .nx e S := loopW_end h1
section
variable {l : List D} {x : D} {S : Sto} {n : Nat} {e : Env'}
theorem em2 {a : Str} : meTy S .join (.d (.str a)) = true := by unfold meTy; rfl
theorem em3 {a : Str} : meTy S .split (.d (.str a)) = true := by unfold meTy; rfl
theorem em1 : meTy (some (.lst l) :: S) .append (.m 0) = true := by unfold meTy; rfl
theorem me1 (h : l.length < sizeLine) : meW true .append (.m 0) [.d x] (some (.lst l) :: S) = .ok (.d .non) (some (.lst (l ++ [x])) :: S) := by
  show (if l.length < sizeLine then _ else R.st) = _
  rw [if_pos h]
  rfl
theorem fzm0 : frzI (some (.m 0) :: e) 0 (some (.lst l) :: S) = .ok (.d (.lst l)) (none :: S) := rfl
theorem mk2 : mkL false l [] = .ok (.m 0) [some (.lst l)] := rfl
theorem bu50 : biW true .len [.m 0] (some (.lst l) :: S) = .ok (.d (.int l.length)) (some (.lst l) :: S) := rfl
end
theorem trim0 {d : D} {S' : Sto} : trim 0 [some (.d d)] S' = [] := by
  unfold trim
  split
  · rename_i h
    exact List.length_eq_zero_iff.mp (Nat.le_zero.mp h)
  · rfl
theorem run_rt {t : Tb} {np n : Nat} {b : B} {ws : List W} {d : D} {S' : Sto} (h0 : ws.length = np) (h : evB t b (ws.map some ++ List.replicate (n - ws.length) none) [] = .rt (.d d) S') : run t np n b ws [] = .ok (.d d) [] := by
  unfold run
  rw [if_pos h0, h]
  show R.ok (W.d d) (trim 0 [some (W.d d)] S') = _
  rw [trim0]
/-! ### slices -/
theorem cut1 {l : List D} {i : Int} (h : 0 ≤ i) : cutD l (some i) none = l.drop i.toNat := by
  obtain ⟨k, rfl⟩ := Int.eq_ofNat_of_zero_le h
  unfold cutD
  rw [HT.sIx_nat, HT.sIx_none, Int.toNat_natCast]
  by_cases hk : k ≤ l.length
  · rw [Nat.min_eq_left hk]
    exact List.take_of_length_le (by rw [List.length_drop]; exact Nat.le_refl _)
  · rw [Nat.min_eq_right (by omega), Nat.sub_self, List.take_zero, List.drop_eq_nil_of_le (by omega)]
theorem cut2 {l : List D} {i : Int} (h : 0 ≤ i) : cutD l none (some i) = l.take i.toNat := by
  obtain ⟨k, rfl⟩ := Int.eq_ofNat_of_zero_le h
  unfold cutD
  rw [HT.sIx_nat, HT.sIx_none, Int.toNat_natCast, List.drop_zero, Nat.sub_zero]
  by_cases hk : k ≤ l.length
  · rw [Nat.min_eq_left hk]
  · rw [Nat.min_eq_right (by omega), List.take_of_length_le (Nat.le_refl _), List.take_of_length_le (by omega)]
theorem cut3 {l : List D} {i j : Int} (h : 0 ≤ i) (h' : 0 ≤ j) : cutD l (some i) (some j) = (l.drop i.toNat).take (j.toNat - i.toNat) := by
  obtain ⟨k, rfl⟩ := Int.eq_ofNat_of_zero_le h
  obtain ⟨m, rfl⟩ := Int.eq_ofNat_of_zero_le h'
  unfold cutD
  rw [HT.sIx_nat, HT.sIx_nat, Int.toNat_natCast, Int.toNat_natCast]
  by_cases hk : k ≤ l.length
  · rw [Nat.min_eq_left hk]
    by_cases hm : m ≤ l.length
    · rw [Nat.min_eq_left hm]
    · rw [Nat.min_eq_right (by omega), List.take_of_length_le (by rw [List.length_drop]; exact Nat.le_refl _), List.take_of_length_le (by rw [List.length_drop]; omega)]
  · have e : min k l.length = l.length := Nat.min_eq_right (by omega)
    rw [e, List.drop_eq_nil_of_le (Nat.le_refl _), List.drop_eq_nil_of_le (by omega), List.take_nil, List.take_nil]
section
variable {l : List D} {i j : Int} {S : Sto}
theorem sl1 (h : 0 ≤ i) : slW true (.d (.lst l)) (some i) none S = .ok (.d (.lst (l.drop i.toNat))) S := by
  show mkL true (cutD l (some i) none) S = _
  rw [cut1 h]
  rfl
theorem sl2 (h : 0 ≤ i) : slW true (.d (.lst l)) none (some i) S = .ok (.d (.lst (l.take i.toNat))) S := by
  show mkL true (cutD l none (some i)) S = _
  rw [cut2 h]
  rfl
theorem sl3 (h : 0 ≤ i) (h' : 0 ≤ j) : slW true (.d (.lst l)) (some i) (some j) S = .ok (.d (.lst ((l.drop i.toNat).take (j.toNat - i.toNat)))) S := by
  show mkL true (cutD l (some i) (some j)) S = _
  rw [cut3 h h']
  rfl
theorem sl5 (h : 0 ≤ i) : slW true (.m 0) none (some i) (some (.lst l) :: S) = .ok (.d (.lst (l.take i.toNat))) (some (.lst l) :: S) := by
  show mkL true (cutD l none (some i)) _ = _
  rw [cut2 h]
  rfl
theorem sl4 (h : 0 ≤ i) : slW true (.d (.ro l)) none (some i) S = .ok (.d (.lst (l.take i.toNat))) S := by
  show mkL true (cutD l none (some i)) S = _
  rw [cut2 h]
  rfl
end
/-! ### a list of texts -/
def strsL (ws : List Str) : D := .lst (ws.map .str)
section
variable {ws zs : List Str} {i j : Int} {S : Sto} {w k : Str} {x : Str} {ks : List Str} {l : List Int}
theorem wl1 : biW true .len [.d (strsL ws)] S = .ok (.d (.int ws.length)) S := by
  unfold strsL
  rw [bu2, List.length_map]
theorem wl8 : kSq (.d (strsL ws)) S = .ok (ws.map fun w => .d (.str w)) S := by
  unfold strsL
  rw [q35a, List.map_map]
  rfl
theorem atI_map {α γ : Type} {f : α → γ} {l : List α} {a : α} (h : atI l i = some a) : atI (l.map f) i = some (f a) := by
  unfold atI at h ⊢
  rw [List.length_map]
  cases e : ixN l.length i with
  | none => rw [e] at h; cases h
  | some n =>
    rw [e] at h
    show (l.map f)[n]? = some (f a)
    have h : l[n]? = some a := h
    rw [List.getElem?_map, h]
    rfl
theorem wl2 (h : atI ws i = some w) : ixW (.d (strsL ws)) (.d (.int i)) S = .ok (.d (.str w)) S := ixl (atI_map h)
theorem wl20 : ixW (.d (strsL (w :: ws))) (.d (.int 0)) S = .ok (.d (.str w)) S := wl2 atI0
theorem wl21 {a : Str} : ixW (.d (strsL (a :: w :: ws))) (.d (.int 1)) S = .ok (.d (.str w)) S := wl2 (atN (by decide) rfl)
theorem wl22 {a b : Str} : ixW (.d (strsL (a :: b :: w :: ws))) (.d (.int 2)) S = .ok (.d (.str w)) S := wl2 (atN (by decide) rfl)
theorem wl23 {a b c : Str} : ixW (.d (strsL (a :: b :: c :: w :: ws))) (.d (.int 3)) S = .ok (.d (.str w)) S := wl2 (atN (by decide) rfl)
theorem wl3 (h : 0 ≤ i) : slW true (.d (strsL ws)) (some i) none S = .ok (.d (strsL (ws.drop i.toNat))) S := by
  unfold strsL
  rw [sl1 h, List.map_drop]
theorem wl4 (h : 0 ≤ i) : slW true (.d (strsL ws)) none (some i) S = .ok (.d (strsL (ws.take i.toNat))) S := by
  unfold strsL
  rw [sl2 h, List.map_take]
theorem wl5 (h : 0 ≤ i) (h' : 0 ≤ j) : slW true (.d (strsL ws)) (some i) (some j) S = .ok (.d (strsL ((ws.drop i.toNat).take (j.toNat - i.toNat)))) S := by
  unfold strsL
  rw [sl3 h h', List.map_take, List.map_drop]
theorem toPys_strs : ∀ ws : List Str, toPys (ws.map .str) = some (ws.map .str)
  | [] => rfl
  | w :: ws => by
    rw [List.map_cons]
    unfold toPys
    rw [toPys_strs ws]
    rfl
theorem eqvAll_strs : ∀ ws zs : List Str, PyData.eqvAll (ws.map .str) (zs.map .str) = decide (ws = zs)
  | [], [] => rfl
  | [], _ :: _ => rfl
  | _ :: _, [] => rfl
  | w :: ws, z :: zs => by
    show ((w == z) && PyData.eqvAll (ws.map .str) (zs.map .str)) = _
    rw [eqvAll_strs ws zs]
    by_cases h1 : w = z
    · subst h1
      rw [beq_self_eq_true, Bool.true_and]
      by_cases h2 : ws = zs
      · subst h2
        simp
      · simp [h2]
    · have h3 : (w == z) = false := by simpa using h1
      rw [h3]
      simp [h1]
theorem canLay_strs : ∀ {ws : List Str}, (∀ w ∈ ws, PyData.strOk w = true) → PyData.canLayAll0 (ws.map .str) = true
  | [], _ => rfl
  | w :: ws, h => by
    rw [List.map_cons]
    unfold PyData.canLayAll0
    rw [canLay_strs fun w hw => h w (List.mem_cons_of_mem _ hw)]
    unfold PyData.canLay0
    rw [h w List.mem_cons_self]
    rfl
theorem depth_strs : ∀ ws : List Str, PyData.depthAll (ws.map .str) = 0
  | [] => rfl
  | w :: ws => by
    rw [List.map_cons]
    unfold PyData.depthAll
    rw [depth_strs ws]
    rfl
theorem deq_strs (h : ∀ w ∈ ws, PyData.strOk w = true) (h' : ∀ w ∈ zs, PyData.strOk w = true) : deq (strsL ws) (strsL zs) = some (decide (ws = zs)) := by
  have p : ∀ ws : List Str, toPy (strsL ws) = some (.list (ws.map .str)) := fun ws => by
    unfold strsL toPy
    rw [toPys_strs]
    rfl
  have q : ∀ ws : List Str, (∀ w ∈ ws, PyData.strOk w = true) → SeqAt.shaped (.list (ws.map .str)) = true := fun ws h => by
    unfold SeqAt.shaped
    have : PyData.depth (.list (ws.map .str)) = 1 := by
      unfold PyData.depth
      rw [depth_strs]
    rw [this]
    unfold PyData.canLay0
    rw [canLay_strs h]
    rfl
  show (match (none : Option Bool) with
    | some r => some r
    | none => (match toPy (strsL ws), toPy (strsL zs) with
      | some p, some q => if SeqAt.shaped p && SeqAt.shaped q then some (PyData.eqv p q) else none
      | _, _ => none)) = _
  rw [p ws, p zs]
  dsimp only
  rw [q ws h, q zs h']
  show some (PyData.eqv (.list (ws.map .str)) (.list (zs.map .str))) = _
  unfold PyData.eqv
  rw [eqvAll_strs]
theorem wl6 (h : ∀ w ∈ ws, PyData.strOk w = true) (h' : ∀ w ∈ zs, PyData.strOk w = true) : cmpW .eq (.d (strsL ws)) (.d (strsL zs)) S = some (decide (ws = zs)) := deq_strs h h'
theorem wl7 (h : ∀ w ∈ ws, PyData.strOk w = true) (h' : ∀ w ∈ zs, PyData.strOk w = true) : cmpW .ne (.d (strsL ws)) (.d (strsL zs)) S = some (!decide (ws = zs)) := by
  show (deq (strsL ws) (strsL zs)).map not = _
  rw [deq_strs h h']
  rfl
theorem kd1 : cmpW .inn (.d (.str k)) (.d (.kd x ks l)) S = some (((ks.zip l).lookup k).isSome) := rfl
theorem kd2 {v : Int} (h : (ks.zip l).lookup k = some v) : ixW (.d (.kd x ks l)) (.d (.str k)) S = .ok (.d (.int v)) S := by
  show optR (((ks.zip l).lookup k).map .int) S = _
  rw [h]
  rfl
end
/-! ### numbers from digits -/
theorem dig_text {w : Str} (h1 : 1 ≤ w.length) (h2 : w.length ≤ 4300) (h : ∀ c ∈ w.cps.toList, 48 ≤ c ∧ c ≤ 57) : PySem.intText? w = some ((NumText.digitsVal w.cps.toList : Nat) : Int) :=
  intText_digits (x := w) h (by
    intro e
    have : w.cps.toList.length = 0 := by rw [e]; rfl
    have h1 : 1 ≤ w.cps.toList.length := h1
    omega) h2
theorem bi10 {w : Str} {v : Int} {S : Sto} (h2 : w.length ≤ 640) (h : PySem.intText? w = some v) : biW true .int [.d (.str w)] S = .ok (.d (.int v)) S := by
  show (if w.length ≤ 640 then optR ((PySem.intText? w).map .int) S else .st) = _
  rw [if_pos h2, h]
  rfl
end En

namespace En
open PySem PySem.Spec PyProof.Rows L2
/-! ### texts cut at a sign -/
def spl (c : Nat) : List Nat → List (List Nat)
  | [] => [[]]
  | x :: xs => if x = c then [] :: spl c xs else (match spl c xs with
    | p :: r => (x :: p) :: r
    | [] => [[x]])
theorem spl_cons (c x : Nat) (xs : List Nat) : spl c (x :: xs) = if x = c then [] :: spl c xs else (match spl c xs with
    | p :: r => (x :: p) :: r
    | [] => [[x]]) := rfl
theorem spl_ne (c : Nat) : ∀ l, ∃ p r, spl c l = p :: r
  | [] => ⟨[], [], rfl⟩
  | x :: xs => by
    obtain ⟨p, r, e⟩ := spl_ne c xs
    unfold spl
    rw [e]
    by_cases h : x = c
    · rw [if_pos h]
      exact ⟨_, _, rfl⟩
    · rw [if_neg h]
      exact ⟨_, _, rfl⟩
theorem spl_app (c : Nat) (r : List Nat) : ∀ a, spl c (a ++ c :: r) = spl c a ++ spl c r
  | [] => by
    show spl c (c :: r) = [[]] ++ spl c r
    rw [spl, if_pos rfl]
    rfl
  | x :: a => by
    rw [List.cons_append, spl_cons, spl_cons, spl_app c r a]
    by_cases h : x = c
    · rw [if_pos h, if_pos h]
      rfl
    · rw [if_neg h, if_neg h]
      obtain ⟨p, q, e⟩ := spl_ne c a
      rw [e]
      rfl
theorem spl_free {c : Nat} : ∀ {w : List Nat}, c ∉ w → spl c w = [w]
  | [], _ => rfl
  | x :: w, h => by
    have hx : ¬ x = c := fun e => h (by rw [e]; exact List.mem_cons_self)
    rw [spl_cons, if_neg hx, spl_free fun hm => h (List.mem_cons_of_mem _ hm)]
theorem spl_join {c : Nat} : ∀ {ps : List Str}, ps ≠ [] → (∀ p ∈ ps, c ∉ p.cps.toList) → spl c (Str.join ⟨#[c]⟩ ps).cps.toList = ps.map fun p => p.cps.toList
  | [], h, _ => absurd rfl h
  | [x], _, h => spl_free (h x List.mem_cons_self)
  | x :: y :: r, _, h => by
    have ih := spl_join (ps := y :: r) (by simp) fun p hp => h p (List.mem_cons_of_mem _ hp)
    show spl c (x ++ ⟨#[c]⟩ ++ Str.join ⟨#[c]⟩ (y :: r)).cps.toList = _
    have e : (x ++ ⟨#[c]⟩ ++ Str.join ⟨#[c]⟩ (y :: r)).cps.toList = x.cps.toList ++ c :: (Str.join ⟨#[c]⟩ (y :: r)).cps.toList := by
      simp only [Str.cps_append, Array.toList_append, List.append_assoc]
      rfl
    rw [e, spl_app, ih, spl_free (h x List.mem_cons_self)]
    rfl
theorem split_ne (x y : Str) : Txt.split x y ≠ [] := by
  unfold Txt.split
  split
  · simp
  · split
    · simp
    · rw [StrLaws.partsBetween_eq]
      obtain ⟨p, r, e⟩ := StrLaws.partsFrom_ne x y.length 0 (Builtin.Str.occurrences x y 0 x.length (x.length + 1))
      rw [e]
      simp
theorem split_spl (x : Str) (c : Nat) : (Txt.split x ⟨#[c]⟩).map (fun p => p.cps.toList) = spl c x.cps.toList := by
  rw [← spl_join (split_ne x _) (StrLaws.split_free x c), StrLaws.join_split]
theorem spl_len (c : Nat) : ∀ l, (spl c l).length ≤ l.length + 1
  | [] => Nat.le_refl _
  | x :: xs => by
    have ih := spl_len c xs
    unfold spl
    by_cases h : x = c
    · rw [if_pos h, List.length_cons, List.length_cons]
      omega
    · rw [if_neg h]
      obtain ⟨p, r, e⟩ := spl_ne c xs
      rw [e] at ih ⊢
      rw [List.length_cons, List.length_cons]
      rw [List.length_cons] at ih
      omega
theorem split_len (x : Str) (c : Nat) : (Txt.split x ⟨#[c]⟩).length ≤ x.length + 1 := by
  have h := spl_len c x.cps.toList
  rw [← split_spl, List.length_map] at h
  exact h
/-- the parts that are not empty -/
def nw (c : Nat) (l : List Nat) : List (List Nat) := (spl c l).filter fun p => !p.isEmpty
theorem nw_app (c : Nat) (a r : List Nat) : nw c (a ++ c :: r) = nw c a ++ nw c r := by
  unfold nw
  rw [spl_app, List.filter_append]
theorem nw_nil (c : Nat) : nw c [] = [] := rfl
theorem nw_sp (c : Nat) (b : List Nat) : ∀ k, nw c (List.replicate k c ++ b) = nw c b
  | 0 => rfl
  | k + 1 => by
    rw [List.replicate_succ, List.cons_append]
    show nw c ([] ++ c :: _) = _
    rw [nw_app, nw_sp c b k]
    rfl
theorem nw_word {c : Nat} {w : List Nat} (h : c ∉ w) (h' : w ≠ []) : nw c w = [w] := by
  unfold nw
  rw [spl_free h]
  cases w with
  | nil => exact absurd rfl h'
  | cons x w => rfl
theorem nw_word_sp {c : Nat} {w : List Nat} (h : c ∉ w) (h' : w ≠ []) (k : Nat) (b : List Nat) : nw c (w ++ (List.replicate (k + 1) c ++ b)) = w :: nw c b := by
  rw [List.replicate_succ, List.cons_append, nw_app, nw_word h h', nw_sp]
  rfl
theorem nw_word_end {c : Nat} {w : List Nat} (h : c ∉ w) (h' : w ≠ []) : ∀ k, nw c (w ++ List.replicate k c) = [w]
  | 0 => by rw [List.replicate, List.append_nil, nw_word h h']
  | k + 1 => by
    have := nw_word_sp h h' k []
    rw [List.append_nil] at this
    rw [this]
    rfl
theorem str_inj {a b : Str} (h : a.cps.toList = b.cps.toList) : a = b := Str.ext' (Array.toList_inj.mp h)
def wordsOf (c : Nat) (s : Str) : List Str := (Txt.split s ⟨#[c]⟩).filter fun w => !decide (w = (⟨#[]⟩ : Str))
theorem wordsOf_nw (c : Nat) (s : Str) : (wordsOf c s).map (fun p => p.cps.toList) = nw c s.cps.toList := by
  unfold wordsOf nw
  rw [← split_spl, List.filter_map]
  refine congrArg (List.map _) (List.filter_congr fun w _ => ?_)
  have : (decide (w = (⟨#[]⟩ : Str))) = w.cps.toList.isEmpty := by
    by_cases h : w = ⟨#[]⟩
    · subst h
      rfl
    · rw [decide_eq_false h]
      symm
      rw [List.isEmpty_eq_false_iff]
      intro e
      exact h (str_inj e)
  rw [this]
  rfl
theorem wordsOf_eq {c : Nat} {s : Str} {ws : List Str} (h : nw c s.cps.toList = ws.map fun p => p.cps.toList) : wordsOf c s = ws := by
  rw [← wordsOf_nw] at h
  exact (List.map_inj_right (fun a b e => str_inj e)).mp h
/-! ### joined, cut, one sign -/
theorem join0 : ∀ ys : List Str, (Txt.join (⟨#[]⟩ : Str) ys).cps.toList = (ys.map fun y => y.cps.toList).flatten := by
  intro ys
  show (Builtin.Str.glued _ ys).cps.toList = _
  rw [StrLaws.glued_eq_join]
  induction ys with
  | nil => rfl
  | cons x r ih =>
    cases r with
    | nil => simp [Str.join]
    | cons y r =>
      show (x ++ (⟨#[]⟩ : Str) ++ Str.join ⟨#[]⟩ (y :: r)).cps.toList = _
      simp only [Str.cps_append, Array.toList_append]
      rw [ih, List.map_cons (f := fun y : Str => y.cps.toList) (a := x), List.flatten_cons]
      simp
theorem join0_one {α : Type} (l : List α) (f : α → Nat) : Txt.join (⟨#[]⟩ : Str) (l.map fun a => ⟨#[f a]⟩) = ⟨(l.map f).toArray⟩ := by
  apply str_inj
  rw [join0, List.map_map]
  show (l.map fun a => [f a]).flatten = l.map f
  induction l with
  | nil => rfl
  | cons a l ih => rw [List.map_cons, List.flatten_cons, ih]; rfl
theorem ixsD {s : Str} {i : Int} {S : Sto} (h0 : 0 ≤ i) (h1 : i < s.length) (hs : s.length ≤ sizeLine) : ixW (.d (.str s)) (.d (.int i)) S = .ok (.d (.str ⟨#[s.cps.toList.getD i.toNat 0]⟩)) S := by
  show (if s.length ≤ sizeLine then _ else R.st) = _
  rw [if_pos hs]
  have hl : i.toNat < s.cps.toList.length := by
    show i.toNat < s.length
    omega
  rw [atN (a := s.cps.toList.getD i.toNat 0) h0 (by rw [List.getElem?_eq_getElem hl, List.getD_eq_getElem?_getD, List.getElem?_eq_getElem hl]; rfl)]
  rfl
theorem cutS_mem {s : Str} {lo hi : Option Int} {c : Nat} (h : c ∈ (cutS s lo hi).cps.toList) : c ∈ s.cps.toList := by
  unfold cutS at h
  simp at h
  exact List.mem_of_mem_drop (List.mem_of_mem_take h)
theorem take_min {α : Type} (l : List α) (m : Nat) : l.take (min m l.length) = l.take m := by
  by_cases h : m ≤ l.length
  · rw [Nat.min_eq_left h]
  · rw [Nat.min_eq_right (by omega), List.take_of_length_le (Nat.le_refl _), List.take_of_length_le (by omega)]
theorem drop_min {α : Type} (l : List α) (m : Nat) : l.drop (min m l.length) = l.drop m := by
  by_cases h : m ≤ l.length
  · rw [Nat.min_eq_left h]
  · rw [Nat.min_eq_right (by omega), List.drop_eq_nil_of_le (Nat.le_refl _), List.drop_eq_nil_of_le (by omega)]
theorem cutS_to {s : Str} {k : Int} (h : 0 ≤ k) : (cutS s none (some k)).cps.toList = s.cps.toList.take k.toNat := by
  obtain ⟨m, rfl⟩ := Int.eq_ofNat_of_zero_le h
  have e : s.length = s.cps.toList.length := rfl
  unfold cutS
  rw [HT.sIx_nat, HT.sIx_none, Int.toNat_natCast, List.drop_zero, Nat.sub_zero, e, take_min]
theorem cutS_from {s : Str} {k : Int} (h : 0 ≤ k) : (cutS s (some k) none).cps.toList = s.cps.toList.drop k.toNat := by
  obtain ⟨m, rfl⟩ := Int.eq_ofNat_of_zero_le h
  have e : s.length = s.cps.toList.length := rfl
  unfold cutS
  rw [HT.sIx_nat, HT.sIx_none, Int.toNat_natCast, e, drop_min]
  show ((s.cps.toList.drop m).take (s.cps.toList.length - min m s.cps.toList.length)) = _
  refine List.take_of_length_le ?_
  rw [List.length_drop]
  omega
theorem sls {s : Str} {lo hi : Option Int} {z : Bool} {S : Sto} (hs : s.length ≤ sizeLine) : slW z (.d (.str s)) lo hi S = .ok (.d (.str (cutS s lo hi))) S := if_pos hs
/-- a place of a written tuple -/
theorem pick {α : Type} {l : List α} {f : α → D} {i : Int} (h0 : 0 ≤ i) (h1 : i < l.length) : ∃ w ∈ l, ∀ S, ixW (.d (.tup (l.map f))) (.d (.int i)) S = .ok (.d (f w)) S := by
  have hl : i.toNat < l.length := by omega
  exact ⟨l[i.toNat], List.getElem_mem hl, fun S => ixt (atI_map (atN h0 (List.getElem?_eq_getElem hl)))⟩
theorem mj {a : Str} {l : List D} {ys : List Str} {z : Bool} {S : Sto} (h : allStr l = some ys) (hz : joinLen a ys ≤ 16777216) : meW z .join (.d (.str a)) [.d (.lst l)] S = .ok (.d (.str (Txt.join a ys))) S := by
  show (match (some l).bind allStr with
    | some ys => if joinLen a ys ≤ 16777216 then ok1 (D.str (Txt.join a ys)) S else R.st
    | none => R.st) = R.ok (W.d (D.str (Txt.join a ys))) S
  rw [Option.bind_some, h]
  dsimp only
  rw [if_pos hz]
  rfl
theorem msp {a b : Str} {S : Sto} (h : b.length ≠ 0 ∧ a.length + 2 ≤ sizeLine) : meW true .split (.d (.str a)) [.d (.str b)] S = .ok (.d (strsL (Txt.split a b))) S := by
  show (if b.length ≠ 0 ∧ a.length + 2 ≤ sizeLine then _ else R.st) = _
  rw [if_pos h]
  rfl
/-- signs on end -/
theorem rpt {c : Nat} {n : Int} {S : Sto} {z : Bool} (h : n ≤ 1000) (h' : -1000 ≤ n) : bin z .mul (.d (.str ⟨#[c]⟩)) (.d (.int n)) S = .ok (.d (.str ⟨(List.replicate n.toNat c).toArray⟩)) S := by
  show (if (⟨#[c]⟩ : Str).length = 1 ∧ n ≤ 1000 ∧ -1000 ≤ n then _ else R.st) = _
  rw [if_pos ⟨rfl, h, h'⟩]
  have : (List.replicate n.toNat [c]).flatten = List.replicate n.toNat c := by
    induction n.toNat with
    | zero => rfl
    | succ k ih => rw [List.replicate_succ, List.flatten_cons, ih, List.replicate_succ]; rfl
  show R.ok (W.d (D.str ⟨(List.replicate n.toNat [c]).flatten.toArray⟩)) S = _
  rw [this]
end En

/-! the law's defs as engine terms (printed by gen.py) -/
namespace En.K95
open PySem PySem.Spec PyProof.Rows L2 En
def b0_1 : B := (.cons (.iff (.cmp .ge (.bi true .abs (.cons (.var 0) .nil)) (.op true .pow (.int 10) (.int 18))) (.cons (.ex (.me true .append (.var 2) (.cons (.op true .mod (.var 3) (.int 1009)) .nil))) (.cons (.set 3 (.op true .fdiv (.var 3) (.int 1009))) .nil)) (.cons (.set 5 (.op true .mod (.op true .add (.op true .mul (.var 3) (.int 48271)) (.op true .mul (.op true .add (.var 4) (.int 1)) (.int 69621))) (.int 2147483647))) (.cons (.set 5 (.op true .mod (.op true .add (.op true .mul (.var 5) (.int 16807)) (.op true .mul (.int 271) (.op true .add (.var 4) (.int 3)))) (.int 2147483629))) (.cons (.ex (.me true .append (.var 2) (.cons (.op true .mod (.var 5) (.int 1009)) .nil))) .nil)))) .nil)
/-- _law_row -/
abbrev N0 : List Str := ["_law_cell", "_law_many", "_law_row_here", "_law_rest", "_law_k", "_law_mixed"]
def b0 : B := (.cons (.set 2 (.lst false .nil)) (.cons (.set 3 (.bi true .abs (.cons (.var 0) .nil))) (.cons (.fo (.nm 4) (.rng1 (.var 1)) b0_1 [4, 5]) (.cons (.ret (.frz 2)) .nil))))
def b1_1 : B := (.cons (.ex (.me true .append (.var 4) (.cons (.int 0) .nil))) .nil)
def b1_3 : B := (.cons (.ex (.me true .append (.var 4) (.cons (.var 6) .nil))) .nil)
def b1_2 : B := (.cons (.fo (.nm 6) (.seq (.call 0 (.cons (.var 5) (.cons (.var 3) .nil)) [])) b1_3 [6]) .nil)
/-- _law_numbers -/
abbrev N1 : List Str := ["_law_script", "_law_many", "_law_cells", "_law_each", "_law_numbers_here", "_law_cell", "_law_number"]
def b1 : B := (.cons (.set 2 (.sl true (.var 0) .no (.so (.int 63)))) (.cons (.set 3 (.op true .add (.int 1) (.op true .fdiv (.var 1) (.bi true .max (.cons (.int 1) (.cons (.bi true .len (.cons (.var 2) .nil)) .nil)))))) (.cons (.set 4 (.lst false .nil)) (.cons (.fo (.nm 5) (.seq (.var 2)) b1_2 [5, 6]) (.cons (.wh (.cmp .lt (.bi true .len (.cons (.var 4) .nil)) (.var 1)) b1_1 []) (.cons (.ret (.sl true (.var 4) .no (.so (.var 1)))) .nil))))))
/-- split_words -/
abbrev N2 : List Str := ["line", "word"]
def b2 : B := (.cons (.ret (.lc true [("word", 1)] (.nm 1) (.seq (.me true .split (.var 0) (.cons (.str " ") .nil))) (.cmp .ne (.var 1) (.str "")) (.var 1))) .nil)
/-- is_name -/
abbrev N3 : List Str := ["text", "char"]
def b3 : B := (.cons (.iff (.not (.chn .le .le (.int 1) (.bi true .len (.cons (.var 0) .nil)) (.glo 0))) (.cons (.ret (.bl false)) .nil) .nil) (.cons (.ret (.bi true .all (.cons (.lc true [("char", 1)] (.nm 1) (.chars (.var 0)) .yes (.cmp .inn (.var 1) (.glo 1))) .nil))) .nil))
/-- are_names -/
abbrev N4 : List Str := ["words", "word"]
def b4 : B := (.cons (.ret (.bi true .all (.cons (.lc true [("word", 1)] (.nm 1) (.seq (.var 0)) .yes (.call 3 (.cons (.var 1) .nil) [])) .nil))) .nil)
/-- is_number -/
abbrev N5 : List Str := ["word", "char"]
def b5 : B := (.cons (.iff (.not (.chn .le .le (.int 1) (.bi true .len (.cons (.var 0) .nil)) (.glo 2))) (.cons (.ret (.bl false)) .nil) .nil) (.cons (.iff (.not (.tru (.bi true .all (.cons (.lc true [("char", 1)] (.nm 1) (.chars (.var 0)) .yes (.cmp .inn (.var 1) (.glo 3))) .nil)))) (.cons (.ret (.bl false)) .nil) .nil) (.cons (.ret (.or (.cons (.cmp .eq (.var 0) (.str "0")) (.one (.cmp .ne (.ix (.var 0) (.int 0)) (.str "0")))))) .nil)))
/-- are_numbers -/
abbrev N6 : List Str := ["words", "word"]
def b6 : B := (.cons (.ret (.bi true .all (.cons (.lc true [("word", 1)] (.nm 1) (.seq (.var 0)) .yes (.call 5 (.cons (.var 1) .nil) [])) .nil))) .nil)
/-- is_horizon -/
abbrev N7 : List Str := ["word"]
def b7 : B := (.cons (.ret (.and (.cons (.call 5 (.cons (.var 0) .nil) []) (.one (.chn .le .le (.int 1) (.bi true .int (.cons (.var 0) .nil)) (.glo 4)))))) .nil)
/-- is_command -/
abbrev N8 : List Str := ["words"]
def b8 : B := (.cons (.iff (.and (.cons (.cmp .inn (.ix (.var 0) (.int 0)) (.glo 5)) (.one (.cmp .ne (.ix (.var 0) (.int 0)) (.str "end"))))) (.cons (.ret (.and (.cons (.cmp .eq (.bi true .len (.cons (.var 0) .nil)) (.op true .add (.int 1) (.ix (.glo 5) (.ix (.var 0) (.int 0))))) (.one (.call 4 (.cons (.sl true (.var 0) (.so (.int 1)) .no) .nil) []))))) .nil) .nil) (.cons (.iff (.cmp .eq (.ix (.var 0) (.int 0)) (.str "table")) (.cons (.ret (.and (.cons (.cmp .gt (.bi true .len (.cons (.var 0) .nil)) (.int 2)) (.cons (.call 3 (.cons (.ix (.var 0) (.int 1)) .nil) []) (.one (.call 6 (.cons (.sl true (.var 0) (.so (.int 2)) .no) .nil) [])))))) .nil) .nil) (.cons (.iff (.cmp .eq (.ix (.var 0) (.int 0)) (.str "ask")) (.cons (.ret (.and (.cons (.cmp .gt (.bi true .len (.cons (.var 0) .nil)) (.int 3)) (.cons (.call 3 (.cons (.ix (.var 0) (.int 1)) .nil) []) (.cons (.call 7 (.cons (.ix (.var 0) (.int 2)) .nil) []) (.one (.call 4 (.cons (.sl true (.var 0) (.so (.int 3)) .no) .nil) []))))))) .nil) .nil) (.cons (.iff (.cmp .eq (.ix (.var 0) (.int 0)) (.str "remove")) (.cons (.ret (.and (.cons (.cmp .eq (.bi true .len (.cons (.var 0) .nil)) (.int 3)) (.cons (.cmp .inn (.ix (.var 0) (.int 1)) (.glo 6)) (.one (.call 3 (.cons (.ix (.var 0) (.int 2)) .nil) [])))))) .nil) .nil) (.cons (.iff (.cmp .eq (.ix (.var 0) (.int 0)) (.str "show")) (.cons (.ret (.and (.cons (.cmp .eq (.bi true .len (.cons (.var 0) .nil)) (.int 2)) (.one (.cmp .inn (.ix (.var 0) (.int 1)) (.glo 7)))))) .nil) .nil) (.cons (.ret (.bl false)) .nil))))))
/-- is_kind_line -/
abbrev N9 : List Str := ["words"]
def b9 : B := (.cons (.ret (.and (.cons (.cmp .eq (.bi true .len (.cons (.var 0) .nil)) (.int 4)) (.cons (.cmp .eq (.ix (.var 0) (.int 0)) (.str "kind")) (.cons (.call 3 (.cons (.ix (.var 0) (.int 1)) .nil) []) (.one (.call 6 (.cons (.sl true (.var 0) (.so (.int 2)) .no) .nil) []))))))) .nil)
/-- is_way_line -/
abbrev N10 : List Str := ["words"]
def b10 : B := (.cons (.ret (.and (.cons (.cmp .eq (.bi true .len (.cons (.var 0) .nil)) (.int 4)) (.cons (.cmp .eq (.ix (.var 0) (.int 0)) (.str "way")) (.cons (.call 4 (.cons (.sl true (.var 0) (.so (.int 1)) (.so (.int 3))) .nil) []) (.one (.call 5 (.cons (.ix (.var 0) (.int 3)) .nil) []))))))) .nil)
/-- is_block_line -/
abbrev N11 : List Str := ["words"]
def b11 : B := (.cons (.ret (.or (.cons (.cmp .eq (.var 0) (.lst true (.cons (.str "end") .nil))) (.cons (.call 9 (.cons (.var 0) .nil) []) (.one (.call 10 (.cons (.var 0) .nil) [])))))) .nil)
/-- _law_word -/
abbrev N12 : List Str := ["_law_number", "_law_more", "_law_keywords", "_law_letters", "_law_size", "_law_word_here", "_law_digits", "_law_k"]
def b12 : B := (.cons (.set 2 (.tup (.cons (.str "task") (.cons (.str "end") (.cons (.str "drop") (.cons (.str "undo") (.cons (.str "redo") (.cons (.str "answer") (.cons (.str "answers") (.cons (.str "system") (.cons (.str "table") (.cons (.str "ask") (.cons (.str "remove") (.cons (.str "show") .nil)))))))))))))) (.cons (.iff (.cmp .eq (.op true .mod (.var 0) (.int 5)) (.int 0)) (.cons (.ret (.ix (.var 2) (.op true .mod (.op true .fdiv (.var 0) (.int 5)) (.int 12)))) .nil) .nil) (.cons (.iff (.cmp .eq (.op true .mod (.var 0) (.int 5)) (.int 1)) (.cons (.ret (.ix (.tup (.cons (.str "kind") (.cons (.str "way") (.cons (.str "tasks") (.cons (.str "tables") (.cons (.str "questions") (.cons (.str "task") (.cons (.str "table") .nil)))))))) (.op true .mod (.op true .fdiv (.var 0) (.int 5)) (.int 7)))) .nil) .nil) (.cons (.set 3 (.str "abcdefghijklmnopqrstuvwxyz0123456789")) (.cons (.set 4 (.op true .add (.int 1) (.op true .mod (.op true .fdiv (.var 0) (.int 5)) (.int 8)))) (.cons (.iff (.or (.cons (.cmp .eq (.op true .mod (.var 0) (.int 5)) (.int 2)) (.one (.cmp .eq (.op true .mod (.var 0) (.int 5)) (.int 3))))) (.cons (.set 6 (.me true .join (.str "") (.cons (.lc true [("_law_k", 7)] (.nm 7) (.rng1 (.var 4)) .yes (.ix (.var 3) (.op true .add (.int 26) (.op true .mod (.op true .add (.op true .add (.var 1) (.op true .mul (.var 7) (.var 7))) (.op true .fdiv (.var 0) (.int 40))) (.int 10))))) .nil))) (.cons (.iff (.and (.cons (.cmp .gt (.op true .mod (.var 1) (.int 3)) (.int 0)) (.one (.cmp .gt (.bi true .len (.cons (.var 6) .nil)) (.int 3))))) (.cons (.ret (.sl true (.var 6) .no (.so (.op true .add (.int 1) (.op true .mod (.var 1) (.int 4)))))) .nil) .nil) (.cons (.ret (.var 6)) .nil))) .nil) (.cons (.set 5 (.me true .join (.str "") (.cons (.lc true [("_law_k", 7)] (.nm 7) (.rng1 (.op true .add (.var 4) (.op true .mod (.op true .fdiv (.var 0) (.int 40)) (.int 6)))) .yes (.ix (.var 3) (.op true .mod (.op true .add (.op true .add (.var 1) (.op true .mul (.op true .mul (.int 11) (.var 7)) (.var 0))) (.var 7)) (.int 36)))) .nil))) (.cons (.iff (.cmp .eq (.op true .mod (.var 1) (.int 7)) (.int 0)) (.cons (.ret (.op true .add (.op true .add (.sl true (.var 5) .no (.so (.int 2))) (.str "_")) (.sl true (.var 5) (.so (.int 2)) .no))) .nil) .nil) (.cons (.iff (.cmp .eq (.op true .mod (.var 1) (.int 7)) (.int 1)) (.cons (.ret (.op true .add (.var 5) (.str "A"))) .nil) .nil) (.cons (.ret (.var 5)) .nil))))))))))
/-- _law_formed -/
abbrev N13 : List Str := ["_law_words", "_law_number", "_law_forms", "_law_row_here", "_law_word_here", "_law_many"]
def b13 : B := (.cons (.set 2 (.tup (.cons (.tup (.cons (.str "task") (.cons (.int 1) .nil))) (.cons (.tup (.cons (.str "table") (.cons (.int 3) .nil))) (.cons (.tup (.cons (.str "ask") (.cons (.int 4) .nil))) (.cons (.tup (.cons (.str "drop") (.cons (.int 1) .nil))) (.cons (.tup (.cons (.str "remove") (.cons (.int 2) .nil))) (.cons (.tup (.cons (.str "undo") (.cons (.int 0) .nil))) (.cons (.tup (.cons (.str "answer") (.cons (.int 1) .nil))) .nil))))))))) (.cons (.set 2 (.op true .add (.var 2) (.tup (.cons (.tup (.cons (.str "answers") (.cons (.int 0) .nil))) (.cons (.tup (.cons (.str "show") (.cons (.int 1) .nil))) (.cons (.tup (.cons (.str "system") (.cons (.int 1) .nil))) (.cons (.tup (.cons (.str "kind") (.cons (.int 3) .nil))) (.cons (.tup (.cons (.str "way") (.cons (.int 3) .nil))) (.cons (.tup (.cons (.str "end") (.cons (.int 0) .nil))) (.cons (.tup (.cons (.str "redo") (.cons (.int 0) .nil))) .nil)))))))))) (.cons (.asg (.tup (.cons (.nm 4) (.cons (.nm 5) .nil))) (.ix (.var 2) (.op true .mod (.var 1) (.int 14)))) (.cons (.set 3 (.op false .add (.lst true (.cons (.var 4) .nil)) (.sl true (.var 0) .no (.so (.var 5))))) (.cons (.iff (.and (.cons (.cmp .eq (.var 4) (.str "remove")) (.one (.cmp .gt (.bi true .len (.cons (.var 3) .nil)) (.int 1))))) (.cons (.setIx (.var 3) (.int 1) (.ix (.tup (.cons (.str "task") (.cons (.str "table") .nil))) (.op true .mod (.op true .fdiv (.var 1) (.int 14)) (.int 2)))) .nil) .nil) (.cons (.iff (.and (.cons (.cmp .eq (.var 4) (.str "show")) (.one (.cmp .gt (.bi true .len (.cons (.var 3) .nil)) (.int 1))))) (.cons (.setIx (.var 3) (.int 1) (.ix (.tup (.cons (.str "tasks") (.cons (.str "tables") (.cons (.str "questions") .nil)))) (.op true .mod (.op true .fdiv (.var 1) (.int 14)) (.int 3)))) .nil) .nil) (.cons (.iff (.and (.cons (.cmp .eq (.var 4) (.str "ask")) (.one (.cmp .gt (.bi true .len (.cons (.var 3) .nil)) (.int 2))))) (.cons (.setIx (.var 3) (.int 2) (.ix (.tup (.cons (.str "0") (.cons (.str "1") (.cons (.str "999") (.cons (.str "1000") (.cons (.str "1001") (.cons (.bi true .str (.cons (.var 1) .nil)) .nil))))))) (.op true .mod (.op true .fdiv (.var 1) (.int 14)) (.int 6)))) .nil) .nil) (.cons (.ret (.frz 3)) .nil))))))))
def b14_1 : B := (.cons (.iff (.cmp .notIn (.var 1) (.str "0123456789")) (.cons (.ret (.bl false)) .nil) .nil) .nil)
/-- _law_is_number -/
abbrev N14 : List Str := ["_law_word_here", "_law_char"]
def b14 : B := (.cons (.iff (.or (.cons (.cmp .lt (.bi true .len (.cons (.var 0) .nil)) (.int 1)) (.cons (.cmp .gt (.bi true .len (.cons (.var 0) .nil)) (.int 7)) (.one (.and (.cons (.cmp .gt (.bi true .len (.cons (.var 0) .nil)) (.int 1)) (.one (.cmp .eq (.ix (.var 0) (.int 0)) (.str "0"))))))))) (.cons (.ret (.bl false)) .nil) .nil) (.cons (.fo (.nm 1) (.chars (.var 0)) b14_1 [1]) (.cons (.ret (.bl true)) .nil)))
def b15_1 : B := (.cons (.iff (.cmp .notIn (.var 1) (.str "abcdefghijklmnopqrstuvwxyz0123456789")) (.cons (.ret (.bl false)) .nil) .nil) .nil)
/-- _law_is_name -/
abbrev N15 : List Str := ["_law_word_here", "_law_char"]
def b15 : B := (.cons (.iff (.or (.cons (.cmp .lt (.bi true .len (.cons (.var 0) .nil)) (.int 1)) (.one (.cmp .gt (.bi true .len (.cons (.var 0) .nil)) (.int 12))))) (.cons (.ret (.bl false)) .nil) .nil) (.cons (.fo (.nm 1) (.chars (.var 0)) b15_1 [1]) (.cons (.ret (.bl true)) .nil)))
def b16_1 : B := (.cons (.iff (.and (.cons (.tru (.var 1)) (.one (.not (.tru (.call 14 (.cons (.var 2) .nil) [])))))) (.cons (.ret (.bl false)) .nil) .nil) (.cons (.iff (.and (.cons (.not (.tru (.var 1))) (.one (.not (.tru (.call 15 (.cons (.var 2) .nil) [])))))) (.cons (.ret (.bl false)) .nil) .nil) .nil))
/-- _law_all -/
abbrev N16 : List Str := ["_law_words", "_law_numbers_here", "_law_word_here"]
def b16 : B := (.cons (.fo (.nm 2) (.seq (.var 0)) b16_1 [2]) (.cons (.ret (.bl true)) .nil))
/-- _law_command -/
abbrev N17 : List Str := ["_law_words", "_law_first", "_law_rest"]
def b17 : B := (.cons (.set 1 (.ix (.var 0) (.int 0))) (.cons (.set 2 (.sl true (.var 0) (.so (.int 1)) .no)) (.cons (.iff (.or (.cons (.cmp .eq (.var 1) (.str "undo")) (.cons (.cmp .eq (.var 1) (.str "redo")) (.one (.cmp .eq (.var 1) (.str "answers")))))) (.cons (.ret (.cmp .eq (.bi true .len (.cons (.var 2) .nil)) (.int 0))) .nil) .nil) (.cons (.iff (.or (.cons (.cmp .eq (.var 1) (.str "task")) (.cons (.cmp .eq (.var 1) (.str "drop")) (.cons (.cmp .eq (.var 1) (.str "answer")) (.one (.cmp .eq (.var 1) (.str "system"))))))) (.cons (.ret (.and (.cons (.cmp .eq (.bi true .len (.cons (.var 2) .nil)) (.int 1)) (.one (.call 15 (.cons (.ix (.var 2) (.int 0)) .nil) []))))) .nil) .nil) (.cons (.iff (.cmp .eq (.var 1) (.str "table")) (.cons (.ret (.and (.cons (.cmp .ge (.bi true .len (.cons (.var 2) .nil)) (.int 2)) (.cons (.call 15 (.cons (.ix (.var 2) (.int 0)) .nil) []) (.one (.call 16 (.cons (.sl true (.var 2) (.so (.int 1)) .no) (.cons (.bl true) .nil)) [])))))) .nil) .nil) (.cons (.iff (.cmp .eq (.var 1) (.str "remove")) (.cons (.ret (.and (.cons (.cmp .eq (.bi true .len (.cons (.var 2) .nil)) (.int 2)) (.cons (.or (.cons (.cmp .eq (.ix (.var 2) (.int 0)) (.str "task")) (.one (.cmp .eq (.ix (.var 2) (.int 0)) (.str "table"))))) (.one (.call 15 (.cons (.ix (.var 2) (.int 1)) .nil) [])))))) .nil) .nil) (.cons (.iff (.cmp .eq (.var 1) (.str "show")) (.cons (.ret (.and (.cons (.cmp .eq (.bi true .len (.cons (.var 2) .nil)) (.int 1)) (.one (.or (.cons (.cmp .eq (.ix (.var 2) (.int 0)) (.str "tasks")) (.cons (.cmp .eq (.ix (.var 2) (.int 0)) (.str "tables")) (.one (.cmp .eq (.ix (.var 2) (.int 0)) (.str "questions")))))))))) .nil) .nil) (.cons (.iff (.or (.cons (.cmp .ne (.var 1) (.str "ask")) (.cons (.cmp .lt (.bi true .len (.cons (.var 2) .nil)) (.int 3)) (.one (.not (.tru (.call 14 (.cons (.ix (.var 2) (.int 1)) .nil) []))))))) (.cons (.ret (.bl false)) .nil) .nil) (.cons (.ret (.and (.cons (.chn .le .le (.int 1) (.bi true .int (.cons (.ix (.var 2) (.int 1)) .nil)) (.int 1000)) (.cons (.call 15 (.cons (.ix (.var 2) (.int 0)) .nil) []) (.one (.call 16 (.cons (.sl true (.var 2) (.so (.int 2)) .no) (.cons (.bl false) .nil)) [])))))) .nil)))))))))
/-- _law_block -/
abbrev N18 : List Str := ["_law_words", "_law_first", "_law_rest"]
def b18 : B := (.cons (.set 1 (.ix (.var 0) (.int 0))) (.cons (.set 2 (.sl true (.var 0) (.so (.int 1)) .no)) (.cons (.iff (.cmp .eq (.var 1) (.str "end")) (.cons (.ret (.cmp .eq (.bi true .len (.cons (.var 2) .nil)) (.int 0))) .nil) .nil) (.cons (.iff (.cmp .ne (.bi true .len (.cons (.var 2) .nil)) (.int 3)) (.cons (.ret (.bl false)) .nil) .nil) (.cons (.iff (.cmp .eq (.var 1) (.str "kind")) (.cons (.ret (.and (.cons (.call 15 (.cons (.ix (.var 2) (.int 0)) .nil) []) (.one (.call 16 (.cons (.sl true (.var 2) (.so (.int 1)) .no) (.cons (.bl true) .nil)) []))))) .nil) .nil) (.cons (.ret (.and (.cons (.cmp .eq (.var 1) (.str "way")) (.cons (.call 16 (.cons (.sl true (.var 2) .no (.so (.int 2))) (.cons (.bl false) .nil)) []) (.one (.call 14 (.cons (.ix (.var 2) (.int 2)) .nil) [])))))) .nil))))))
def b19_1 : B := (.cons (.iff (.cmp .ne (.call 5 (.cons (.var 6) .nil) []) (.call 14 (.cons (.var 6) .nil) [])) (.cons (.ret (.bl false)) .nil) .nil) .nil)
def b19_2 : B := (.cons (.set 3 (.op true .add (.var 3) (.ix (.var 2) (.var 4)))) (.cons (.iff (.cmp .lt (.op true .add (.var 4) (.int 1)) (.bi true .len (.cons (.var 2) .nil))) (.cons (.set 3 (.op true .add (.var 3) (.op true .mul (.str " ") (.op true .add (.int 1) (.op true .mod (.op true .add (.ix (.var 1) (.int 34)) (.op true .mul (.var 4) (.ix (.var 1) (.int 35)))) (.int 3)))))) .nil) .nil) .nil))
/-- law -/
abbrev N19 : List Str := ["_law_script", "_law_numbers_here", "_law_words", "_law_line", "_law_k", "_law_told", "_law_word_here", "_law_command_here", "_law_block_here"]
def b19 : B := (.cons (.set 1 (.call 1 (.cons (.var 0) (.cons (.int 40) .nil)) [])) (.cons (.set 2 (.lc true [("_law_k", 4)] (.nm 4) (.rng1 (.op true .add (.int 1) (.op true .mod (.ix (.var 1) (.int 30)) (.int 7)))) .yes (.call 12 (.cons (.ix (.var 1) (.op true .mul (.int 2) (.var 4))) (.cons (.ix (.var 1) (.op true .add (.op true .mul (.int 2) (.var 4)) (.int 1))) .nil)) []))) (.cons (.iff (.cmp .gt (.op true .mod (.ix (.var 1) (.int 31)) (.int 3)) (.int 0)) (.cons (.set 2 (.call 13 (.cons (.var 2) (.cons (.ix (.var 1) (.int 32)) .nil)) [])) .nil) .nil) (.cons (.set 3 (.op true .mul (.str " ") (.op true .mod (.ix (.var 1) (.int 33)) (.int 3)))) (.cons (.fo (.nm 4) (.rng1 (.bi true .len (.cons (.var 2) .nil))) b19_2 [4]) (.cons (.set 3 (.op true .add (.var 3) (.op true .mul (.str " ") (.op true .mod (.ix (.var 1) (.int 36)) (.int 3))))) (.cons (.set 5 (.call 2 (.cons (.var 3) .nil) [])) (.cons (.iff (.or (.cons (.not (.tru (.isi (.var 5) "list"))) (.cons (.cmp .ne (.var 5) (.var 2)) (.one (.cmp .ne (.call 2 (.cons (.op true .mul (.str " ") (.op true .mod (.ix (.var 1) (.int 37)) (.int 4))) .nil) []) (.lst true .nil)))))) (.cons (.ret (.bl false)) .nil) .nil) (.cons (.fo (.nm 6) (.seq (.var 2)) b19_1 [6]) (.cons (.set 7 (.call 8 (.cons (.var 2) .nil) [])) (.cons (.set 8 (.call 11 (.cons (.var 2) .nil) [])) (.cons (.iff (.or (.cons (.not (.tru (.isi (.var 7) "bool"))) (.one (.not (.tru (.isi (.var 8) "bool")))))) (.cons (.ret (.bl false)) .nil) .nil) (.cons (.ret (.and (.cons (.cmp .eq (.var 7) (.call 17 (.cons (.var 2) .nil) [])) (.one (.cmp .eq (.var 8) (.call 18 (.cons (.var 2) .nil) [])))))) .nil)))))))))))))
def cn : List D := [.int (12), .str "abcdefghijklmnopqrstuvwxyz0123456789", .int (7), .str "0123456789", .int (1000), .kd "PLAIN" ["task", "end", "drop", "undo", "redo", "answer", "answers", "system"] [1, 0, 1, 0, 0, 1, 0, 1], .tup [.str "task", .str "table"], .tup [.str "tasks", .str "tables", .str "questions"]]
theorem k0 : cn[0]? = some (.int (12)) := rfl
theorem k1 : cn[1]? = some (.str "abcdefghijklmnopqrstuvwxyz0123456789") := rfl
theorem k2 : cn[2]? = some (.int (7)) := rfl
theorem k3 : cn[3]? = some (.str "0123456789") := rfl
theorem k4 : cn[4]? = some (.int (1000)) := rfl
theorem k5 : cn[5]? = some (.kd "PLAIN" ["task", "end", "drop", "undo", "redo", "answer", "answers", "system"] [1, 0, 1, 0, 0, 1, 0, 1]) := rfl
theorem k6 : cn[6]? = some (.tup [.str "task", .str "table"]) := rfl
theorem k7 : cn[7]? = some (.tup [.str "tasks", .str "tables", .str "questions"]) := rfl
def t0 : Tb := ⟨[], cn⟩
def F0 : Fn := run t0 2 6 b0
def t1 : Tb := ⟨[F0], cn⟩
def F1 : Fn := run t1 2 7 b1
def t2 : Tb := ⟨[F0, F1], cn⟩
def F2 : Fn := run t2 1 2 b2
def t3 : Tb := ⟨[F0, F1, F2], cn⟩
def F3 : Fn := run t3 1 2 b3
def t4 : Tb := ⟨[F0, F1, F2, F3], cn⟩
def F4 : Fn := run t4 1 2 b4
def t5 : Tb := ⟨[F0, F1, F2, F3, F4], cn⟩
def F5 : Fn := run t5 1 2 b5
def t6 : Tb := ⟨[F0, F1, F2, F3, F4, F5], cn⟩
def F6 : Fn := run t6 1 2 b6
def t7 : Tb := ⟨[F0, F1, F2, F3, F4, F5, F6], cn⟩
def F7 : Fn := run t7 1 1 b7
def t8 : Tb := ⟨[F0, F1, F2, F3, F4, F5, F6, F7], cn⟩
def F8 : Fn := run t8 1 1 b8
def t9 : Tb := ⟨[F0, F1, F2, F3, F4, F5, F6, F7, F8], cn⟩
def F9 : Fn := run t9 1 1 b9
def t10 : Tb := ⟨[F0, F1, F2, F3, F4, F5, F6, F7, F8, F9], cn⟩
def F10 : Fn := run t10 1 1 b10
def t11 : Tb := ⟨[F0, F1, F2, F3, F4, F5, F6, F7, F8, F9, F10], cn⟩
def F11 : Fn := run t11 1 1 b11
def t12 : Tb := ⟨[F0, F1, F2, F3, F4, F5, F6, F7, F8, F9, F10, F11], cn⟩
def F12 : Fn := run t12 2 8 b12
def t13 : Tb := ⟨[F0, F1, F2, F3, F4, F5, F6, F7, F8, F9, F10, F11, F12], cn⟩
def F13 : Fn := run t13 2 6 b13
def t14 : Tb := ⟨[F0, F1, F2, F3, F4, F5, F6, F7, F8, F9, F10, F11, F12, F13], cn⟩
def F14 : Fn := run t14 1 2 b14
def t15 : Tb := ⟨[F0, F1, F2, F3, F4, F5, F6, F7, F8, F9, F10, F11, F12, F13, F14], cn⟩
def F15 : Fn := run t15 1 2 b15
def t16 : Tb := ⟨[F0, F1, F2, F3, F4, F5, F6, F7, F8, F9, F10, F11, F12, F13, F14, F15], cn⟩
def F16 : Fn := run t16 2 3 b16
def t17 : Tb := ⟨[F0, F1, F2, F3, F4, F5, F6, F7, F8, F9, F10, F11, F12, F13, F14, F15, F16], cn⟩
def F17 : Fn := run t17 1 3 b17
def t18 : Tb := ⟨[F0, F1, F2, F3, F4, F5, F6, F7, F8, F9, F10, F11, F12, F13, F14, F15, F16, F17], cn⟩
def F18 : Fn := run t18 1 3 b18
def t19 : Tb := ⟨[F0, F1, F2, F3, F4, F5, F6, F7, F8, F9, F10, F11, F12, F13, F14, F15, F16, F17, F18], cn⟩
def F19 : Fn := run t19 1 9 b19
def t20 : Tb := ⟨[F0, F1, F2, F3, F4, F5, F6, F7, F8, F9, F10, F11, F12, F13, F14, F15, F16, F17, F18, F19], cn⟩
theorem tc0 : t0.cn = cn := rfl
theorem tc1 : t1.cn = cn := rfl
theorem tf1_0 : t1.fn[0]? = some F0 := rfl
theorem tc2 : t2.cn = cn := rfl
theorem tc3 : t3.cn = cn := rfl
theorem tc4 : t4.cn = cn := rfl
theorem tf4_3 : t4.fn[3]? = some F3 := rfl
theorem tc5 : t5.cn = cn := rfl
theorem tc6 : t6.cn = cn := rfl
theorem tf6_5 : t6.fn[5]? = some F5 := rfl
theorem tc7 : t7.cn = cn := rfl
theorem tf7_5 : t7.fn[5]? = some F5 := rfl
theorem tc8 : t8.cn = cn := rfl
theorem tf8_3 : t8.fn[3]? = some F3 := rfl
theorem tf8_4 : t8.fn[4]? = some F4 := rfl
theorem tf8_6 : t8.fn[6]? = some F6 := rfl
theorem tf8_7 : t8.fn[7]? = some F7 := rfl
theorem tc9 : t9.cn = cn := rfl
theorem tf9_3 : t9.fn[3]? = some F3 := rfl
theorem tf9_6 : t9.fn[6]? = some F6 := rfl
theorem tc10 : t10.cn = cn := rfl
theorem tf10_4 : t10.fn[4]? = some F4 := rfl
theorem tf10_5 : t10.fn[5]? = some F5 := rfl
theorem tc11 : t11.cn = cn := rfl
theorem tf11_9 : t11.fn[9]? = some F9 := rfl
theorem tf11_10 : t11.fn[10]? = some F10 := rfl
theorem tc12 : t12.cn = cn := rfl
theorem tc13 : t13.cn = cn := rfl
theorem tc14 : t14.cn = cn := rfl
theorem tc15 : t15.cn = cn := rfl
theorem tc16 : t16.cn = cn := rfl
theorem tf16_14 : t16.fn[14]? = some F14 := rfl
theorem tf16_15 : t16.fn[15]? = some F15 := rfl
theorem tc17 : t17.cn = cn := rfl
theorem tf17_14 : t17.fn[14]? = some F14 := rfl
theorem tf17_15 : t17.fn[15]? = some F15 := rfl
theorem tf17_16 : t17.fn[16]? = some F16 := rfl
theorem tc18 : t18.cn = cn := rfl
theorem tf18_14 : t18.fn[14]? = some F14 := rfl
theorem tf18_15 : t18.fn[15]? = some F15 := rfl
theorem tf18_16 : t18.fn[16]? = some F16 := rfl
theorem tc19 : t19.cn = cn := rfl
theorem tf19_1 : t19.fn[1]? = some F1 := rfl
theorem tf19_2 : t19.fn[2]? = some F2 := rfl
theorem tf19_5 : t19.fn[5]? = some F5 := rfl
theorem tf19_8 : t19.fn[8]? = some F8 := rfl
theorem tf19_11 : t19.fn[11]? = some F11 := rfl
theorem tf19_12 : t19.fn[12]? = some F12 := rfl
theorem tf19_13 : t19.fn[13]? = some F13 := rfl
theorem tf19_14 : t19.fn[14]? = some F14 := rfl
theorem tf19_17 : t19.fn[17]? = some F17 := rfl
theorem tf19_18 : t19.fn[18]? = some F18 := rfl
local macro_rules | `(tactic| walk_at "ev") => `(tactic| simp (config := {failIfUnchanged := false}) only [q1, q2, q3, q4, q5, q6, q7, q7a, q7b, q8, q8a, q9, q9a, q9b, q10, q10a, q10b, q10c, q10d, q11, q12, q11a, q11b, q11c, q11d, q12a, q12b, q12c, q12d, q13, q13a, q14, q14a, q14b, q15, q15a, q15b, q16, q16a, q16b, q17, q17a, q17b, q18, q18a, q18b, q18c, q19, q19a, q19b, q20, q20a, q21, q21a, q22, q22a, q22b, q23, q23a, q23b, q24, q25, q25a, q25b, q25c, q26, q26a, q26b, q27, q28, q28a, q29, q29a, q30, q30a, q30b, q31, q31a, q31b, q31c, q31d, q32, q33, q34, q34a, q32a, q32b, q32c, q32d, q33a, q33b, q33c, q33d, q35, q35a, q35b, q35c, q36, q36a, q37, q37a, q37b, q38, q38a, q39, q39a, q40, q40a, q40b, q40c, q40d, q41, q41a, q42, q42a, q42b, q43, q43a, q43b, q43c, q43d, q44, q44a, q44b, q44c, q45, q45a, q46, q46a, q46b, q47, q47a, q47b, q48, q48a, q49, q50, q50a, q50b, q50c, sz_le, sz_lt, em2, em3, wl8, eg1, eg2, eg3, eg5, eg6, bi8, bi11, bi12, q44d, eb1, eb2, eb3, es1, es2, es3, sb1, sb2, sb3, sb4, sb5, sb6, ge0, ge1, fz0, fz1, sn0, sn1, ci1, ci2, ci3, ci4, ci5, ci6, cs5, cs6, cb5, cb6, oo1, oo2, oo3, bi1, bi2, bu2, bu3, bu4, bu6, bu7, bu8, bu9, tr1, ok1, List.length_cons, List.length_nil, List.length_append, List.length_map, List.map_cons, List.map_nil, List.cons_append, List.nil_append, List.replicate, if_true, Nat.reduceAdd, Nat.reduceSub, Nat.reduceLT, Nat.reduceLeDiff, kill, Bool.not_true, Bool.not_false, decide_true, decide_false, Bool.and_true, Bool.true_and, Bool.and_false, Bool.false_and, and_true, true_and, bu1, bi3, bi4, bi5, bi6, bi7, Int.reduceLT, Int.reduceLE, Nat.reducePow, nx2, mk1, mk2, sl1, sl2, sl3, sl4, sl5, Int.reduceNeg,  em1, me1, fzm0, bu50, dats, Option.map_some, Int.cast_ofNat_Int, Int.reduceAdd, Int.reduceEq, Int.reduceGT, ip1, wl1, wl20, wl21, wl22, wl23, wl3, wl4, wl5, kd1, Int.reduceToNat, List.drop_succ_cons, List.drop_zero, Option.isSome_some, Option.isSome_none, List.isEmpty_cons, List.isEmpty_nil, Bool.false_eq_true, if_false, ch1, ch2, *, k0, k1, k2, k3, k4, k5, k6, k7, tc0, tc1, tf1_0, tc2, tc3, tc4, tf4_3, tc5, tc6, tf6_5, tc7, tf7_5, tc8, tf8_3, tf8_4, tf8_6, tf8_7, tc9, tf9_3, tf9_6, tc10, tf10_4, tf10_5, tc11, tf11_9, tf11_10, tc12, tc13, tc14, tc15, tc16, tf16_14, tf16_15, tc17, tf17_14, tf17_15, tf17_16, tc18, tf18_14, tf18_15, tf18_16, tc19, tf19_1, tf19_2, tf19_5, tf19_8, tf19_11, tf19_12, tf19_13, tf19_14, tf19_17, tf19_18])
theorem small {n : Nat} (h : n ≤ 10000) : n ≤ sizeLine := by rw [sizeLine_eq]; omega
def nmC : List Nat := ("abcdefghijklmnopqrstuvwxyz0123456789" : Str).cps.toList
def dgC : List Nat := ("0123456789" : Str).cps.toList
def isName (w : Str) : Bool := (decide ((1:Int) ≤ w.length) && decide ((w.length:Int) ≤ 12)) && w.cps.toList.all fun c => decide (c ∈ nmC)
def isNum (w : Str) : Bool := (decide ((1:Int) ≤ w.length) && decide ((w.length:Int) ≤ 7)) && ((w.cps.toList.all fun c => decide (c ∈ dgC)) && (decide (w = "0") || !decide ((⟨#[w.cps.toList.headD 0]⟩ : Str) = "0")))
theorem F3_ok (w : Str) (h : w.length ≤ 1000) : F3 [.d (.str w)] [] = .ok (.d (.bl (isName w))) [] := by
  have hs : w.length ≤ sizeLine := small (by omega)
  unfold F3 b3 run isName
  by_cases h1 : (1:Int) ≤ w.length
  · by_cases h2 : (w.length:Int) ≤ 12
    · walk_at "ev"
      rw [loopC_all0 (f := fun c => .bl (decide (c ∈ nmC))) (fun a _ => ⟨_, rfl, rfl, rfl⟩) hs]
      walk_at "ev"
      rfl
    · walk_at "ev"
      rfl
  · walk_at "ev"
    rfl
theorem F5_ok (w : Str) (h : w.length ≤ 1000) : F5 [.d (.str w)] [] = .ok (.d (.bl (isNum w))) [] := by
  have hs : w.length ≤ sizeLine := small (by omega)
  unfold F5 b5 run isNum
  by_cases h1 : (1:Int) ≤ w.length
  · by_cases h2 : (w.length:Int) ≤ 7
    · have hi := ixsH h1 hs
      walk_at "ev"
      rw [loopC_all0 (f := fun c => .bl (decide (c ∈ dgC))) (fun a _ => ⟨_, rfl, rfl, rfl⟩) hs]
      walk_at "ev"
      cases h3 : w.cps.toList.all (fun c => decide (c ∈ dgC)) with
      | false =>
        walk_at "ev"
        rfl
      | true =>
        by_cases h4 : w = "0"
        · subst h4
          rfl
        · walk_at "ev"
          rfl
    · walk_at "ev"
      rfl
  · walk_at "ev"
    rfl
theorem F15_ok (w : Str) (h : w.length ≤ 1000) : F15 [.d (.str w)] [] = .ok (.d (.bl (isName w))) [] := by
  have hs : w.length ≤ sizeLine := small (by omega)
  unfold F15 b15 run isName
  by_cases h1 : (1:Int) ≤ w.length
  · by_cases h2 : (w.length:Int) ≤ 12
    · have h1' : ¬ (w.length:Int) < 1 := by omega
      have h2' : ¬ (12:Int) < w.length := by omega
      walk_at "ev"
      rw [loopF_scan (e := [some (.d (.str w)), none]) (p := fun c => decide (c ∈ nmC)) (out := .rt (.d (.bl false)) []) (.inl ⟨_, _, rfl⟩) (by simp) (fun a _ => ⟨_, rfl, ?_⟩) (fun a e1 q => ?_)]
      · cases h3 : w.cps.toList.all (fun c => decide (c ∈ nmC)) with
        | false =>
          walk_at "ev"
          rfl
        | true =>
          walk_at "ev"
          rfl
      · by_cases ha : a ∈ nmC
        · have ha' : a ∈ ("abcdefghijklmnopqrstuvwxyz0123456789" : Str).cps.toList := ha
          unfold b15_1
          walk_at "ev"
        · have ha' : ¬ a ∈ ("abcdefghijklmnopqrstuvwxyz0123456789" : Str).cps.toList := ha
          unfold b15_1
          walk_at "ev"
      · cases q
        rfl
    · have h1' : ¬ (w.length:Int) < 1 := by omega
      have h2' : (12:Int) < w.length := by omega
      walk_at "ev"
      rfl
  · have h1' : (w.length:Int) < 1 := by omega
    walk_at "ev"
    rfl
theorem one_char {w : Str} (h : w.length = 1) : w = ⟨#[w.cps.toList.headD 0]⟩ := by
  obtain ⟨⟨l⟩⟩ := w
  match l, h with
  | [c], _ => rfl
theorem F14_ok (w : Str) (h : w.length ≤ 1000) : F14 [.d (.str w)] [] = .ok (.d (.bl (isNum w))) [] := by
  have hs : w.length ≤ sizeLine := small (by omega)
  unfold F14 b14 run isNum
  by_cases h1 : (1:Int) ≤ w.length
  · by_cases h2 : (w.length:Int) ≤ 7
    · have h1' : ¬ (w.length:Int) < 1 := by omega
      have h2' : ¬ (7:Int) < w.length := by omega
      have hi := ixsH h1 hs
      have loop : loopF (evG (.nm 1)) (evK t14 b14_1) [1] 0 (w.cps.toList.map fun c => .d (.str ⟨#[c]⟩)) [some (.d (.str w)), none] [] = if w.cps.toList.all (fun c => decide (c ∈ dgC)) then .nx [some (.d (.str w)), none] [] else .rt (.d (.bl false)) [] := by
        refine loopF_scan (p := fun c => decide (c ∈ dgC)) (.inl ⟨_, _, rfl⟩) (by simp) (fun a _ => ⟨_, rfl, ?_⟩) (fun a e1 q => ?_)
        · by_cases ha : a ∈ dgC
          · have ha' : a ∈ ("0123456789" : Str).cps.toList := ha
            unfold b14_1
            walk_at "ev"
          · have ha' : ¬ a ∈ ("0123456789" : Str).cps.toList := ha
            unfold b14_1
            walk_at "ev"
        · cases q
          rfl
      have h0 : (w = "0") → w.length = 1 := fun e => by rw [e]; rfl
      by_cases h5 : (⟨#[w.cps.toList.headD 0]⟩ : Str) = "0"
      · by_cases h4 : (1:Int) < w.length
        · have h6 : ¬ w = "0" := fun e => by
            have := h0 e
            omega
          walk_at "ev"
          simp [trim]
        · have h6 : w = "0" := (one_char (by omega)).trans h5
          subst h6
          rfl
      · have h6 : ¬ w = "0" := fun e => h5 (by rw [e]; rfl)
        cases h3 : w.cps.toList.all (fun c => decide (c ∈ dgC)) with
        | false =>
          walk_at "ev"
          by_cases h4 : (1:Int) < w.length
          · walk_at "ev"
            rfl
          · walk_at "ev"
            rfl
        | true =>
          walk_at "ev"
          by_cases h4 : (1:Int) < w.length
          · walk_at "ev"
            rfl
          · walk_at "ev"
            rfl
    · have h1' : ¬ (w.length:Int) < 1 := by omega
      have h2' : (7:Int) < w.length := by omega
      walk_at "ev"
      rfl
  · have h1' : (w.length:Int) < 1 := by omega
    walk_at "ev"
    rfl
abbrev wsD := strsL
def okWs (ws : List Str) : Prop := ws.length ≤ 1000 ∧ ∀ w ∈ ws, w.length ≤ 1000
theorem F4_ok (ws : List Str) (h : okWs ws) : F4 [.d (wsD ws)] [] = .ok (.d (.bl (ws.all isName))) [] := by
  unfold F4 b4 run wsD strsL
  walk_at "ev"
  rw [List.map_map, loopC_all0 (f := fun w => .bl (isName w)) (fun a ha => ⟨_, rfl, rfl, callF_d (e := [some (.d (wsD ws)), some (.d (.str a))]) (r := .bl (isName a)) rfl (F3_ok a (h.2 a ha))⟩) (small (by have := h.1; omega))]
  walk_at "ev"
  rfl
theorem F6_ok (ws : List Str) (h : okWs ws) : F6 [.d (wsD ws)] [] = .ok (.d (.bl (ws.all isNum))) [] := by
  unfold F6 b6 run wsD strsL
  walk_at "ev"
  rw [List.map_map, loopC_all0 (f := fun w => .bl (isNum w)) (fun a ha => ⟨_, rfl, rfl, callF_d (e := [some (.d (wsD ws)), some (.d (.str a))]) (r := .bl (isNum a)) rfl (F5_ok a (h.2 a ha))⟩) (small (by have := h.1; omega))]
  walk_at "ev"
  rfl
theorem F16_ok (ws : List Str) (b : Bool) (h : okWs ws) : F16 [.d (wsD ws), .d (.bl b)] [] = .ok (.d (.bl (ws.all fun w => if b then isNum w else isName w))) [] := by
  have loop : loopF (evG (.nm 2)) (evK t16 b16_1) [2] 0 (ws.map fun w => .d (.str w)) [some (.d (.lst (ws.map .str))), some (.d (.bl b)), none] [] = if ws.all (fun w => if b then isNum w else isName w) then .nx [some (.d (.lst (ws.map .str))), some (.d (.bl b)), none] [] else .rt (.d (.bl false)) [] := by
    refine loopF_scan (p := fun w => if b then isNum w else isName w) (.inl ⟨_, _, rfl⟩) (by simp) (fun a ha => ⟨_, rfl, ?_⟩) (fun a e1 q => ?_)
    · have c1 : ∀ e S, callF F14 [.d (.str a)] e [] S = .ok (.d (.bl (isNum a))) S := fun e S => callF_d rfl (F14_ok a (h.2 a ha))
      have c2 : ∀ e S, callF F15 [.d (.str a)] e [] S = .ok (.d (.bl (isName a))) S := fun e S => callF_d rfl (F15_ok a (h.2 a ha))
      unfold b16_1
      cases b with
      | true =>
        cases h3 : isNum a with
        | true => walk_at "ev"
        | false => walk_at "ev"
      | false =>
        cases h3 : isName a with
        | true => walk_at "ev"
        | false => walk_at "ev"
    · cases q
      rfl
  unfold F16 b16 run wsD strsL
  walk_at "ev"
  rw [List.map_map]
  rw [show (W.d ∘ D.str) = fun w => W.d (.str w) from rfl]
  walk_at "ev"
  cases h3 : ws.all (fun w => if b then isNum w else isName w) with
  | true => 
    walk_at "ev"
    rfl
  | false =>
    walk_at "ev"
    rfl
def numV (w : Str) : Int := (NumText.digitsVal w.cps.toList : Nat)
def isHor (w : Str) : Bool := isNum w && (decide (1 ≤ numV w) && decide (numV w ≤ 1000))
theorem dg_mem {c : Nat} (h : c ∈ dgC) : 48 ≤ c ∧ c ≤ 57 := by
  have e : dgC = [48, 49, 50, 51, 52, 53, 54, 55, 56, 57] := rfl
  rw [e] at h
  simp at h
  omega
theorem int_of {w : Str} {S : Sto} (h : isNum w = true) : biW true .int [.d (.str w)] S = .ok (.d (.int (numV w))) S := by
  unfold isNum at h
  obtain ⟨h1, h2⟩ := ba h
  obtain ⟨h1, h3⟩ := ba h1
  obtain ⟨h2, h4⟩ := ba h2
  have h1 := of_decide_eq_true h1
  have h3 := of_decide_eq_true h3
  exact bi10 (by omega) (dig_text (by omega) (by omega) fun c hc => dg_mem (of_decide_eq_true (List.all_eq_true.mp h2 c hc)))
theorem F7_ok (w : Str) (h : w.length ≤ 1000) : F7 [.d (.str w)] [] = .ok (.d (.bl (isHor w))) [] := by
  have c1 : ∀ e S, callF F5 [.d (.str w)] e [] S = .ok (.d (.bl (isNum w))) S := fun e S => callF_d rfl (F5_ok w h)
  unfold F7 b7 run isHor
  cases h1 : isNum w with
  | false =>
    walk_at "ev"
    rfl
  | true =>
    have c2 := @int_of w [] h1
    by_cases h2 : 1 ≤ numV w
    · walk_at "ev"
      rfl
    · walk_at "ev"
      rfl
theorem okWs.tail {a : Str} {ws : List Str} (h : okWs (a :: ws)) : okWs ws := ⟨by have := h.1; rw [List.length_cons] at this; omega, fun w hw => h.2 w (List.mem_cons_of_mem _ hw)⟩
theorem okWs.head {a : Str} {ws : List Str} (h : okWs (a :: ws)) : a.length ≤ 1000 := h.2 a List.mem_cons_self
def cmd (w0 : Str) (ws : List Str) : Bool :=
  if w0 = "task" ∨ w0 = "drop" ∨ w0 = "answer" ∨ w0 = "system" then (match ws with | [a] => isName a | _ => false)
  else if w0 = "undo" ∨ w0 = "redo" ∨ w0 = "answers" then ws.isEmpty
  else if w0 = "table" then (match ws with | a :: b :: r => isName a && (b :: r).all isNum | _ => false)
  else if w0 = "ask" then (match ws with | a :: b :: c :: r => isName a && (isHor b && (c :: r).all isName) | _ => false)
  else if w0 = "remove" then (match ws with | [a, b] => (decide (a = "task") || decide (a = "table")) && isName b | _ => false)
  else if w0 = "show" then (match ws with | [a] => decide (a = "tasks") || (decide (a = "tables") || decide (a = "questions")) | _ => false)
  else false
abbrev plT : List (Str × Int) := (["task", "end", "drop", "undo", "redo", "answer", "answers", "system"] : List Str).zip [1, 0, 1, 0, 0, 1, 0, 1]
theorem F8_plain (w0 : Str) (ws : List Str) (n : Int) (h : okWs (w0 :: ws)) (hk : plT.lookup w0 = some n) (hn : ¬ w0 = "end") : F8 [.d (wsD (w0 :: ws))] [] = .ok (.d (.bl (decide (((ws.length + 1 : Nat) : Int) = 1 + n) && ws.all isName))) [] := by
  have c1 : ∀ e S, callF F4 [.d (strsL ws)] e [] S = .ok (.d (.bl (ws.all isName))) S := fun e S => callF_d rfl (F4_ok ws h.tail)
  have k2 := fun S => @kd2 S w0 "PLAIN" _ _ n hk
  unfold F8 b8 run wsD
  by_cases h3 : ((ws.length + 1 : Nat) : Int) = 1 + n
  · walk_at "ev"
    rfl
  · walk_at "ev"
    rfl
def rest8 (w0 : Str) (ws : List Str) : Bool := match decide (w0 = "table"), decide (w0 = "ask"), decide (w0 = "remove"), decide (w0 = "show") with
  | true, _, _, _ => (match ws with | a :: b :: r => isName a && (b :: r).all isNum | _ => false)
  | false, true, _, _ => (match ws with | a :: b :: c :: r => isName a && (isHor b && (c :: r).all isName) | _ => false)
  | false, false, true, _ => (match ws with | [a, b] => (decide (a = "task") || decide (a = "table")) && isName b | _ => false)
  | false, false, false, true => (match ws with | [a] => decide (a = "tasks") || (decide (a = "tables") || decide (a = "questions")) | _ => false)
  | false, false, false, false => false
theorem in3 {a x y z : Str} {S : Sto} : cmpW .inn (.d (.str a)) (.d (.tup [.str x, .str y, .str z])) S = some (decide (a = x) || (decide (a = y) || decide (a = z))) := by
  show some (decide (x = a) || (decide (y = a) || (decide (z = a) || false))) = _
  simp only [eq_comm, Bool.or_false]
theorem in2 {a x y : Str} {S : Sto} : cmpW .inn (.d (.str a)) (.d (.tup [.str x, .str y])) S = some (decide (a = x) || decide (a = y)) := by
  show some (decide (x = a) || (decide (y = a) || false)) = _
  simp only [eq_comm, Bool.or_false]
theorem F8_rest (w0 : Str) (ws : List Str) (h : okWs (w0 :: ws)) {b1 b2 b3 b4 b5 b6 : Bool} (q1 : (plT.lookup w0).isSome = b1) (q2 : decide (w0 = "end") = b2) (q : (b1 && !b2) = false) (t1 : decide (w0 = "table") = b3) (t2 : decide (w0 = "ask") = b4) (t3 : decide (w0 = "remove") = b5) (t4 : decide (w0 = "show") = b6) : F8 [.d (wsD (w0 :: ws))] [] = .ok (.d (.bl (rest8 w0 ws))) [] := by
  have hh := h.tail
  have hn : ∀ w ∈ ws, ∀ e S, callF F3 [.d (.str w)] e [] S = .ok (.d (.bl (isName w))) S := fun w hw e S => callF_d rfl (F3_ok w (hh.2 w hw))
  have hz : ∀ w ∈ ws, ∀ e S, callF F7 [.d (.str w)] e [] S = .ok (.d (.bl (isHor w))) S := fun w hw e S => callF_d rfl (F7_ok w (hh.2 w hw))
  have tailN : ∀ n e S, callF F4 [.d (strsL (ws.drop n))] e [] S = .ok (.d (.bl ((ws.drop n).all isName))) S := fun n e S => callF_d rfl (F4_ok _ ⟨by have := hh.1; rw [List.length_drop]; omega, fun w hw => hh.2 w (List.mem_of_mem_drop hw)⟩)
  have tailM : ∀ n e S, callF F6 [.d (strsL (ws.drop n))] e [] S = .ok (.d (.bl ((ws.drop n).all isNum))) S := fun n e S => callF_d rfl (F6_ok _ ⟨by have := hh.1; rw [List.length_drop]; omega, fun w hw => hh.2 w (List.mem_of_mem_drop hw)⟩)
  unfold F8 b8 run wsD rest8
  cases b1 <;> cases b2 <;> first | (cases q; done) | skip
  all_goals
    cases b3 with
    | true =>
      rcases ws with _ | ⟨a, _ | ⟨b, r⟩⟩
      · walk_at "ev"
        rfl
      · walk_at "ev"
        rfl
      · have l1 : (2:Int) < ((r.length + 1 + 1 + 1 : Nat) : Int) := by omega
        have ha := hn a List.mem_cons_self
        have hb := tailM 1
        clear hn hz tailN tailM
        rw [List.drop_succ_cons, List.drop_zero] at hb
        cases h3 : isName a with
        | true =>
          walk_at "ev"
          rfl
        | false =>
          walk_at "ev"
          rfl
    | false =>
      cases b4 with
      | true =>
        rcases ws with _ | ⟨a, _ | ⟨b, _ | ⟨c, r⟩⟩⟩
        · walk_at "ev"
          rfl
        · walk_at "ev"
          rfl
        · walk_at "ev"
          rfl
        · have l1 : (3:Int) < ((r.length + 1 + 1 + 1 + 1 : Nat) : Int) := by omega
          have ha := hn a List.mem_cons_self
          have hc := hz b (List.mem_cons_of_mem _ List.mem_cons_self)
          have hb := tailN 2
          clear hn hz tailN tailM
          rw [List.drop_succ_cons, List.drop_succ_cons, List.drop_zero] at hb
          cases h3 : isName a with
          | true =>
            cases h4 : isHor b with
            | true =>
              walk_at "ev"
              rfl
            | false =>
              walk_at "ev"
              rfl
          | false =>
            walk_at "ev"
            rfl
      | false =>
        cases b5 with
        | true =>
          rcases ws with _ | ⟨a, _ | ⟨b, _ | ⟨c, r⟩⟩⟩
          · walk_at "ev"
            rfl
          · walk_at "ev"
            rfl
          · have hb := hn b (List.mem_cons_of_mem _ List.mem_cons_self)
            have i2 := fun S => @in2 a "task" "table" S
            clear hn hz tailN tailM
            cases h3 : (decide (a = "task") || decide (a = "table")) with
            | true =>
              walk_at "ev"
              rfl
            | false =>
              walk_at "ev"
              rfl
          · have l1 : ¬ ((r.length + 1 + 1 + 1 + 1 : Nat) : Int) = 3 := by omega
            walk_at "ev"
            rfl
        | false =>
          cases b6 with
          | true =>
            rcases ws with _ | ⟨a, _ | ⟨b, r⟩⟩
            · walk_at "ev"
              rfl
            · have i3 := fun S => @in3 a "tasks" "tables" "questions" S
              clear hn hz tailN tailM
              walk_at "ev"
              rfl
            · have l1 : ¬ ((r.length + 1 + 1 + 1 : Nat) : Int) = 2 := by omega
              walk_at "ev"
              rfl
          | false =>
            walk_at "ev"
            rfl
theorem ws1 (ws : List Str) : (decide (((ws.length + 1 : Nat) : Int) = 1 + 1) && ws.all isName) = (match ws with | [a] => isName a | _ => false) := by
  rcases ws with _ | ⟨a, _ | ⟨b, r⟩⟩
  · rfl
  · show (true && (isName a && true)) = isName a
    simp
  · have : ¬ (((a :: b :: r).length + 1 : Nat) : Int) = 1 + 1 := by
      rw [List.length_cons, List.length_cons]
      omega
    rw [decide_eq_false this]
    rfl
theorem ws0 (ws : List Str) : (decide (((ws.length + 1 : Nat) : Int) = 1 + 0) && ws.all isName) = ws.isEmpty := by
  rcases ws with _ | ⟨a, r⟩
  · rfl
  · have : ¬ (((a :: r).length + 1 : Nat) : Int) = 1 + 0 := by
      rw [List.length_cons]
      omega
    rw [decide_eq_false this]
    rfl
theorem F8_ok (w0 : Str) (ws : List Str) (h : okWs (w0 :: ws)) : F8 [.d (wsD (w0 :: ws))] [] = .ok (.d (.bl (cmd w0 ws))) [] := by
  by_cases e1 : w0 = "task"
  · subst e1
    rw [F8_plain _ ws 1 h rfl (by decide), ws1]
    rfl
  by_cases e2 : w0 = "drop"
  · subst e2
    rw [F8_plain _ ws 1 h rfl (by decide), ws1]
    rfl
  by_cases e3 : w0 = "answer"
  · subst e3
    rw [F8_plain _ ws 1 h rfl (by decide), ws1]
    rfl
  by_cases e4 : w0 = "system"
  · subst e4
    rw [F8_plain _ ws 1 h rfl (by decide), ws1]
    rfl
  by_cases e5 : w0 = "undo"
  · subst e5
    rw [F8_plain _ ws 0 h rfl (by decide), ws0]
    rfl
  by_cases e6 : w0 = "redo"
  · subst e6
    rw [F8_plain _ ws 0 h rfl (by decide), ws0]
    rfl
  by_cases e7 : w0 = "answers"
  · subst e7
    rw [F8_plain _ ws 0 h rfl (by decide), ws0]
    rfl
  have q : ((plT.lookup w0).isSome && !decide (w0 = "end")) = false := by
    by_cases e8 : w0 = "end"
    · rw [e8]; rfl
    · have bq : ∀ k : Str, ¬ w0 = k → (w0 == k) = false := fun k h => by simpa using h
      have : plT.lookup w0 = none := by
        simp [List.lookup, bq _ e1, bq _ e2, bq _ e3, bq _ e4, bq _ e5, bq _ e6, bq _ e7, bq _ e8]
      rw [this]
      rfl
  rw [F8_rest w0 ws h rfl rfl q rfl rfl rfl rfl]
  unfold cmd rest8
  simp only [e1, e2, e3, e4, e5, e6, e7, or_self, if_false]
  by_cases t1 : w0 = "table"
  · subst t1
    rfl
  · by_cases t2 : w0 = "ask"
    · subst t2
      rfl
    · by_cases t3 : w0 = "remove"
      · subst t3
        rfl
      · by_cases t4 : w0 = "show"
        · subst t4
          rfl
        · simp [t1, t2, t3, t4]
def m1 : List Str → Bool | [a] => isName a | _ => false
def m2 : List Str → Bool | a :: b :: r => isName a && (b :: r).all isNum | _ => false
def m3 : List Str → Bool | a :: b :: c :: r => isName a && (isHor b && (c :: r).all isName) | _ => false
def m4 : List Str → Bool | [a, b] => (decide (a = "task") || decide (a = "table")) && isName b | _ => false
def m5 : List Str → Bool | [a] => decide (a = "tasks") || (decide (a = "tables") || decide (a = "questions")) | _ => false
def blk (w0 : Str) (ws : List Str) : Bool :=
  if w0 = "end" then ws.isEmpty
  else if w0 = "kind" then (match ws with | [a, b, c] => isName a && (isNum b && isNum c) | _ => false)
  else if w0 = "way" then (match ws with | [a, b, c] => (isName a && isName b) && isNum c | _ => false)
  else false
theorem F17_ok (w0 : Str) (ws : List Str) (h : okWs (w0 :: ws)) : F17 [.d (wsD (w0 :: ws))] [] = .ok (.d (.bl (cmd w0 ws))) [] := by
  have hh := h.tail
  have hn : ∀ w ∈ ws, ∀ e S, callF F15 [.d (.str w)] e [] S = .ok (.d (.bl (isName w))) S := fun w hw e S => callF_d rfl (F15_ok w (hh.2 w hw))
  have hz : ∀ w ∈ ws, ∀ e S, callF F14 [.d (.str w)] e [] S = .ok (.d (.bl (isNum w))) S := fun w hw e S => callF_d rfl (F14_ok w (hh.2 w hw))
  have tl : ∀ n b e S, callF F16 [.d (strsL (ws.drop n)), .d (.bl b)] e [] S = .ok (.d (.bl ((ws.drop n).all fun w => if b then isNum w else isName w))) S := fun n b e S => callF_d rfl (F16_ok _ b ⟨by have := hh.1; rw [List.length_drop]; omega, fun w hw => hh.2 w (List.mem_of_mem_drop hw)⟩)
  have tlM : ∀ n e S, callF F16 [.d (strsL (ws.drop n)), .d (.bl true)] e [] S = .ok (.d (.bl ((ws.drop n).all isNum))) S := fun n e S => tl n true e S
  have tlN : ∀ n e S, callF F16 [.d (strsL (ws.drop n)), .d (.bl false)] e [] S = .ok (.d (.bl ((ws.drop n).all isName))) S := fun n e S => tl n false e S
  clear tl
  by_cases e1 : w0 = "undo"
  · have hc : cmd w0 ws = ws.isEmpty := by rw [e1]; rfl
    have d : decide (w0 = "undo") = true := by rw [e1]; rfl
    clear e1
    rw [hc]
    clear hc
    unfold F17 b17 run wsD
    rcases ws with _ | ⟨a, r⟩
    · walk_at "ev"
      rfl
    · have l1 : ¬ ((r.length + 1 : Nat) : Int) = 0 := by omega
      walk_at "ev"
      rfl
  by_cases e2 : w0 = "redo"
  · have hc : cmd w0 ws = ws.isEmpty := by rw [e2]; rfl
    have d : decide (w0 = "redo") = true := by rw [e2]; rfl
    clear e2
    rw [hc]
    clear hc
    unfold F17 b17 run wsD
    rcases ws with _ | ⟨a, r⟩
    · walk_at "ev"
      rfl
    · have l1 : ¬ ((r.length + 1 : Nat) : Int) = 0 := by omega
      walk_at "ev"
      rfl
  by_cases e3 : w0 = "answers"
  · have hc : cmd w0 ws = ws.isEmpty := by rw [e3]; rfl
    have d : decide (w0 = "answers") = true := by rw [e3]; rfl
    clear e3
    rw [hc]
    clear hc
    unfold F17 b17 run wsD
    rcases ws with _ | ⟨a, r⟩
    · walk_at "ev"
      rfl
    · have l1 : ¬ ((r.length + 1 : Nat) : Int) = 0 := by omega
      walk_at "ev"
      rfl
  by_cases e4 : w0 = "task"
  · have hc : cmd w0 ws = m1 ws := by rw [e4]; rfl
    have d : decide (w0 = "task") = true := by rw [e4]; rfl
    clear e4
    rw [hc]
    clear hc
    unfold F17 b17 run wsD
    rcases ws with _ | ⟨a, _ | ⟨b, r⟩⟩
    · walk_at "ev"
      rfl
    · have ha := hn a List.mem_cons_self
      clear hn hz tlN tlM
      walk_at "ev"
      rfl
    · have l1 : ¬ ((r.length + 1 + 1 : Nat) : Int) = 1 := by omega
      walk_at "ev"
      rfl
  by_cases e5 : w0 = "drop"
  · have hc : cmd w0 ws = m1 ws := by rw [e5]; rfl
    have d : decide (w0 = "drop") = true := by rw [e5]; rfl
    clear e5
    rw [hc]
    clear hc
    unfold F17 b17 run wsD
    rcases ws with _ | ⟨a, _ | ⟨b, r⟩⟩
    · walk_at "ev"
      rfl
    · have ha := hn a List.mem_cons_self
      clear hn hz tlN tlM
      walk_at "ev"
      rfl
    · have l1 : ¬ ((r.length + 1 + 1 : Nat) : Int) = 1 := by omega
      walk_at "ev"
      rfl
  by_cases e6 : w0 = "answer"
  · have hc : cmd w0 ws = m1 ws := by rw [e6]; rfl
    have d : decide (w0 = "answer") = true := by rw [e6]; rfl
    clear e6
    rw [hc]
    clear hc
    unfold F17 b17 run wsD
    rcases ws with _ | ⟨a, _ | ⟨b, r⟩⟩
    · walk_at "ev"
      rfl
    · have ha := hn a List.mem_cons_self
      clear hn hz tlN tlM
      walk_at "ev"
      rfl
    · have l1 : ¬ ((r.length + 1 + 1 : Nat) : Int) = 1 := by omega
      walk_at "ev"
      rfl
  by_cases e7 : w0 = "system"
  · have hc : cmd w0 ws = m1 ws := by rw [e7]; rfl
    have d : decide (w0 = "system") = true := by rw [e7]; rfl
    clear e7
    rw [hc]
    clear hc
    unfold F17 b17 run wsD
    rcases ws with _ | ⟨a, _ | ⟨b, r⟩⟩
    · walk_at "ev"
      rfl
    · have ha := hn a List.mem_cons_self
      clear hn hz tlN tlM
      walk_at "ev"
      rfl
    · have l1 : ¬ ((r.length + 1 + 1 : Nat) : Int) = 1 := by omega
      walk_at "ev"
      rfl
  by_cases e8 : w0 = "table"
  · have hc : cmd w0 ws = m2 ws := by rw [e8]; rfl
    have d : decide (w0 = "table") = true := by rw [e8]; rfl
    clear e8
    rw [hc]
    clear hc
    unfold F17 b17 run wsD
    rcases ws with _ | ⟨a, _ | ⟨b, r⟩⟩
    · walk_at "ev"
      first | rfl | (simp_all [m2, m3, m4, m5, trim]; done)
    · walk_at "ev"
      first | rfl | (simp_all [m2, m3, m4, m5, trim]; done)
    · have l1 : (2:Int) ≤ ((r.length + 1 + 1 : Nat) : Int) := by omega
      have ha := hn a List.mem_cons_self
      have hb := tlM 1
      clear hn hz tlN tlM
      rw [List.drop_succ_cons, List.drop_zero] at hb
      cases h3 : isName a with
      | true =>
        walk_at "ev"
        first | rfl | (simp_all [m2, m3, m4, m5, trim]; done)
      | false =>
        walk_at "ev"
        first | rfl | (simp_all [m2, m3, m4, m5, trim]; done)
  by_cases e9 : w0 = "remove"
  · have hc : cmd w0 ws = m4 ws := by rw [e9]; rfl
    have d : decide (w0 = "remove") = true := by rw [e9]; rfl
    clear e9
    rw [hc]
    clear hc
    unfold F17 b17 run wsD
    rcases ws with _ | ⟨a, _ | ⟨b, _ | ⟨c, r⟩⟩⟩
    · walk_at "ev"
      first | rfl | (simp_all [m2, m3, m4, m5, trim]; done)
    · walk_at "ev"
      first | rfl | (simp_all [m2, m3, m4, m5, trim]; done)
    · have hb := hn b (List.mem_cons_of_mem _ List.mem_cons_self)
      clear hn hz tlN tlM
      cases f1 : decide (a = "task") with
      | true =>
        walk_at "ev"
        first | rfl | (simp_all [m2, m3, m4, m5, trim]; done)
      | false =>
        cases f2 : decide (a = "table") with
        | true =>
          walk_at "ev"
          first | rfl | (simp_all [m2, m3, m4, m5, trim]; done)
        | false =>
          walk_at "ev"
          first | rfl | (simp_all [m2, m3, m4, m5, trim]; done)
    · have l1 : ¬ ((r.length + 1 + 1 + 1 : Nat) : Int) = 2 := by omega
      walk_at "ev"
      first | rfl | (simp_all [m2, m3, m4, m5, trim]; done)
  by_cases e10 : w0 = "show"
  · have hc : cmd w0 ws = m5 ws := by rw [e10]; rfl
    have d : decide (w0 = "show") = true := by rw [e10]; rfl
    clear e10
    rw [hc]
    clear hc
    unfold F17 b17 run wsD
    rcases ws with _ | ⟨a, _ | ⟨b, r⟩⟩
    · walk_at "ev"
      first | rfl | (simp_all [m2, m3, m4, m5, trim]; done)
    · clear hn hz tlN tlM
      cases f1 : decide (a = "tasks") with
      | true =>
        walk_at "ev"
        first | rfl | (simp_all [m2, m3, m4, m5, trim]; done)
      | false =>
        cases f2 : decide (a = "tables") with
        | true =>
          walk_at "ev"
          first | rfl | (simp_all [m2, m3, m4, m5, trim]; done)
        | false =>
          walk_at "ev"
          first | rfl | (simp_all [m2, m3, m4, m5, trim]; done)
    · have l1 : ¬ ((r.length + 1 + 1 : Nat) : Int) = 1 := by omega
      walk_at "ev"
      first | rfl | (simp_all [m2, m3, m4, m5, trim]; done)
  by_cases e11 : w0 = "ask"
  · have hc : cmd w0 ws = m3 ws := by rw [e11]; rfl
    have d : decide (w0 = "ask") = true := by rw [e11]; rfl
    clear e11
    rw [hc]
    clear hc
    unfold F17 b17 run wsD
    rcases ws with _ | ⟨a, _ | ⟨b, _ | ⟨c, r⟩⟩⟩
    · walk_at "ev"
      first | rfl | (simp_all [m2, m3, m4, m5, trim]; done)
    · walk_at "ev"
      first | rfl | (simp_all [m2, m3, m4, m5, trim]; done)
    · walk_at "ev"
      first | rfl | (simp_all [m2, m3, m4, m5, trim]; done)
    · have l1 : ¬ ((r.length + 1 + 1 + 1 : Nat) : Int) < 3 := by omega
      have ha := hn a List.mem_cons_self
      have hb := hz b (List.mem_cons_of_mem _ List.mem_cons_self)
      have hc := tlN 2
      clear hn hz tlN tlM
      rw [List.drop_succ_cons, List.drop_succ_cons, List.drop_zero] at hc
      cases h3 : isNum b with
      | false =>
        have h4 : isHor b = false := by unfold isHor; rw [h3]; rfl
        walk_at "ev"
        simp_all [m2, m3, m4, m5, trim]
      | true =>
        have c2 := fun S => @int_of b S h3
        have h4 : isHor b = (decide (1 ≤ numV b) && decide (numV b ≤ 1000)) := by unfold isHor; rw [h3]; rfl
        cases h5 : decide (1 ≤ numV b) with
        | false =>
          walk_at "ev"
          simp_all [m2, m3, m4, m5, trim]
        | true =>
          cases h6 : decide (numV b ≤ 1000) with
          | false =>
            walk_at "ev"
            simp_all [m2, m3, m4, m5, trim]
          | true =>
            cases h7 : isName a with
            | true =>
              walk_at "ev"
              first | rfl | (simp_all [m2, m3, m4, m5, trim]; done)
            | false =>
              walk_at "ev"
              first | rfl | (simp_all [m2, m3, m4, m5, trim]; done)
  have hc : cmd w0 ws = false := by
    unfold cmd
    simp [e1, e2, e3, e4, e5, e6, e7, e8, e9, e10, e11]
  rw [hc]
  unfold F17 b17 run wsD
  walk_at "ev"
  rfl
def kindL (w0 : Str) (ws : List Str) : Bool := decide (w0 = "kind") && (match ws with | [a, b, c] => isName a && (isNum b && isNum c) | _ => false)
def wayL (w0 : Str) (ws : List Str) : Bool := decide (w0 = "way") && (match ws with | [a, b, c] => (isName a && isName b) && isNum c | _ => false)
theorem F9_ok (w0 : Str) (ws : List Str) (h : okWs (w0 :: ws)) : F9 [.d (wsD (w0 :: ws))] [] = .ok (.d (.bl (kindL w0 ws))) [] := by
  have hh := h.tail
  have hn : ∀ w ∈ ws, ∀ e S, callF F3 [.d (.str w)] e [] S = .ok (.d (.bl (isName w))) S := fun w hw e S => callF_d rfl (F3_ok w (hh.2 w hw))
  have tailM : ∀ n e S, callF F6 [.d (strsL (ws.drop n))] e [] S = .ok (.d (.bl ((ws.drop n).all isNum))) S := fun n e S => callF_d rfl (F6_ok _ ⟨by have := hh.1; rw [List.length_drop]; omega, fun w hw => hh.2 w (List.mem_of_mem_drop hw)⟩)
  unfold F9 b9 run wsD
  have long : ∀ n, ¬ n = 3 → ws.length = n → ¬ ((ws.length + 1 : Nat) : Int) = 4 := fun n h1 h2 => by omega
  rcases ws with _ | ⟨a, _ | ⟨b, _ | ⟨c, _ | ⟨d, r⟩⟩⟩⟩
  · walk_at "ev"
    simp [kindL, trim]
  · walk_at "ev"
    simp [kindL, trim]
  · walk_at "ev"
    simp [kindL, trim]
  · have ha := hn a List.mem_cons_self
    have hb := tailM 1
    clear hn tailM long
    rw [List.drop_succ_cons, List.drop_zero] at hb
    cases f1 : decide (w0 = "kind") with
    | false =>
      walk_at "ev"
      simp [kindL, trim, f1]
    | true =>
      cases f2 : isName a with
      | false =>
        walk_at "ev"
        simp [kindL, trim, f2]
      | true =>
        walk_at "ev"
        simp [kindL, trim, f1, f2]
  · have l1 : ¬ ((r.length + 1 + 1 + 1 + 1 + 1 : Nat) : Int) = 4 := by omega
    walk_at "ev"
    simp [kindL, trim]
theorem F10_ok (w0 : Str) (ws : List Str) (h : okWs (w0 :: ws)) : F10 [.d (wsD (w0 :: ws))] [] = .ok (.d (.bl (wayL w0 ws))) [] := by
  have hh := h.tail
  have hn : ∀ w ∈ ws, ∀ e S, callF F5 [.d (.str w)] e [] S = .ok (.d (.bl (isNum w))) S := fun w hw e S => callF_d rfl (F5_ok w (hh.2 w hw))
  have tailN : ∀ n e S, callF F4 [.d (strsL (ws.take n))] e [] S = .ok (.d (.bl ((ws.take n).all isName))) S := fun n e S => callF_d rfl (F4_ok _ ⟨by have := hh.1; rw [List.length_take]; omega, fun w hw => hh.2 w (List.mem_of_mem_take hw)⟩)
  unfold F10 b10 run wsD
  rcases ws with _ | ⟨a, _ | ⟨b, _ | ⟨c, _ | ⟨d, r⟩⟩⟩⟩
  · walk_at "ev"
    simp [wayL, trim]
  · walk_at "ev"
    simp [wayL, trim]
  · walk_at "ev"
    simp [wayL, trim]
  · have ha := hn c (by simp)
    have hb := tailN 2
    clear hn tailN
    cases f1 : decide (w0 = "way") with
    | false =>
      walk_at "ev"
      simp [wayL, trim, f1]
    | true =>
      cases f2 : isName a && isName b with
      | false =>
        have f3 : [a, b].all isName = false := by simpa using f2
        have hb' : ∀ e S, callF F4 [.d (strsL (List.take 2 [a, b, c]))] e [] S = .ok (.d (.bl false)) S := fun e S => by rw [hb, show (List.take 2 [a, b, c]).all isName = _ from f3]
        clear hb
        walk_at "ev"
        simp [wayL, trim, f1, f2]
      | true =>
        have f3 : [a, b].all isName = true := by simpa using f2
        have hb' : ∀ e S, callF F4 [.d (strsL (List.take 2 [a, b, c]))] e [] S = .ok (.d (.bl true)) S := fun e S => by rw [hb, show (List.take 2 [a, b, c]).all isName = _ from f3]
        clear hb
        walk_at "ev"
        simp [wayL, trim, f1, f2]
  · have l1 : ¬ ((r.length + 1 + 1 + 1 + 1 + 1 : Nat) : Int) = 4 := by omega
    walk_at "ev"
    simp [wayL, trim]
def blkP (w0 : Str) (ws : List Str) : Bool := decide (w0 :: ws = ([("end" : Str)] : List Str)) || (kindL w0 ws || wayL w0 ws)
def okS (ws : List Str) : Prop := ∀ w ∈ ws, PyData.strOk w = true
theorem F11_ok (w0 : Str) (ws : List Str) (h : okWs (w0 :: ws)) (ho : okS (w0 :: ws)) : F11 [.d (wsD (w0 :: ws))] [] = .ok (.d (.bl (blkP w0 ws))) [] := by
  have s1 : 1 ≤ sizeLine := small (by omega)
  have hw : ∀ S, cmpW .eq (.d (strsL (w0 :: ws))) (.d (.lst [.str "end"])) S = some (decide (w0 :: ws = ([("end" : Str)] : List Str))) := fun S => wl6 (zs := ([("end" : Str)] : List Str)) ho (fun w hw => by
    rw [List.mem_singleton.mp hw]; decide +kernel)
  have c1 : ∀ e S, callF F9 [.d (strsL (w0 :: ws))] e [] S = .ok (.d (.bl (kindL w0 ws))) S := fun e S => callF_d rfl (F9_ok w0 ws h)
  have c2 : ∀ e S, callF F10 [.d (strsL (w0 :: ws))] e [] S = .ok (.d (.bl (wayL w0 ws))) S := fun e S => callF_d rfl (F10_ok w0 ws h)
  unfold F11 b11 run wsD blkP
  cases f1 : decide (w0 :: ws = ([("end" : Str)] : List Str)) with
  | true =>
    walk_at "ev"
    simp [trim]
  | false =>
    cases f2 : kindL w0 ws with
    | true =>
      walk_at "ev"
      simp [trim]
    | false =>
      walk_at "ev"
      simp [trim]
theorem F18_ok (w0 : Str) (ws : List Str) (h : okWs (w0 :: ws)) : F18 [.d (wsD (w0 :: ws))] [] = .ok (.d (.bl (blkP w0 ws))) [] := by
  have hh := h.tail
  have hn : ∀ w ∈ ws, ∀ e S, callF F15 [.d (.str w)] e [] S = .ok (.d (.bl (isName w))) S := fun w hw e S => callF_d rfl (F15_ok w (hh.2 w hw))
  have hz : ∀ w ∈ ws, ∀ e S, callF F14 [.d (.str w)] e [] S = .ok (.d (.bl (isNum w))) S := fun w hw e S => callF_d rfl (F14_ok w (hh.2 w hw))
  have tlM : ∀ n e S, callF F16 [.d (strsL (ws.drop n)), .d (.bl true)] e [] S = .ok (.d (.bl ((ws.drop n).all isNum))) S := fun n e S => callF_d rfl (F16_ok _ true ⟨by have := hh.1; rw [List.length_drop]; omega, fun w hw => hh.2 w (List.mem_of_mem_drop hw)⟩)
  have tlN : ∀ n e S, callF F16 [.d (strsL (ws.take n)), .d (.bl false)] e [] S = .ok (.d (.bl ((ws.take n).all isName))) S := fun n e S => callF_d rfl (F16_ok _ false ⟨by have := hh.1; rw [List.length_take]; omega, fun w hw => hh.2 w (List.mem_of_mem_take hw)⟩)
  by_cases e1 : w0 = "end"
  · have hc : blkP w0 ws = ws.isEmpty := by
      rw [e1]
      cases ws with
      | nil => rfl
      | cons a r =>
        have : ¬ ("end" : Str) :: a :: r = ([("end" : Str)] : List Str) := fun z => by cases z
        unfold blkP
        rw [decide_eq_false this]
        rfl
    have d : decide (w0 = "end") = true := by rw [e1]; rfl
    clear e1
    rw [hc]
    clear hc
    unfold F18 b18 run wsD
    rcases ws with _ | ⟨a, r⟩
    · walk_at "ev"
      rfl
    · have l1 : ¬ ((r.length + 1 : Nat) : Int) = 0 := by omega
      walk_at "ev"
      rfl
  · have hc : blkP w0 ws = (kindL w0 ws || wayL w0 ws) := by
      have : ¬ w0 :: ws = ([("end" : Str)] : List Str) := fun z => e1 (List.cons.inj z).1
      unfold blkP
      rw [decide_eq_false this]
      rfl
    have d : decide (w0 = "end") = false := decide_eq_false e1
    clear e1
    rw [hc]
    clear hc
    unfold F18 b18 run wsD kindL wayL
    rcases ws with _ | ⟨a, _ | ⟨b, _ | ⟨c, _ | ⟨x, r⟩⟩⟩⟩
    · walk_at "ev"
      simp [trim]
    · walk_at "ev"
      simp [trim]
    · walk_at "ev"
      simp [trim]
    · have ha := hn a (by simp)
      have hc := hz c (by simp)
      have hb := tlM 1
      have hd := tlN 2
      clear hn hz tlM tlN
      rw [List.drop_succ_cons, List.drop_zero] at hb
      by_cases e2 : w0 = "kind"
      · have d2 : decide (w0 = "kind") = true := by rw [e2]; rfl
        have d3 : decide (w0 = "way") = false := by rw [e2]; rfl
        clear e2
        cases f2 : isName a with
        | false =>
          walk_at "ev"
          simp [trim]
        | true =>
          walk_at "ev"
          simp [trim]
      · have d2 : decide (w0 = "kind") = false := decide_eq_false e2
        clear e2
        cases d3 : decide (w0 = "way") with
        | false =>
          walk_at "ev"
          simp [trim]
        | true =>
          cases f2 : isName a && isName b with
          | false =>
            have f3 : [a, b].all isName = false := by simpa using f2
            have hb' : ∀ e S, callF F16 [.d (strsL (List.take 2 [a, b, c])), .d (.bl false)] e [] S = .ok (.d (.bl false)) S := fun e S => by rw [hd, show (List.take 2 [a, b, c]).all isName = _ from f3]
            clear hd
            walk_at "ev"
            simp [trim]
          | true =>
            have f3 : [a, b].all isName = true := by simpa using f2
            have hb' : ∀ e S, callF F16 [.d (strsL (List.take 2 [a, b, c])), .d (.bl false)] e [] S = .ok (.d (.bl true)) S := fun e S => by rw [hd, show (List.take 2 [a, b, c]).all isName = _ from f3]
            clear hd
            walk_at "ev"
            simp [trim]
    · have l1 : ¬ ((r.length + 1 + 1 + 1 + 1 : Nat) : Int) = 3 := by omega
      walk_at "ev"
      simp [trim]
def inR (l : List Int) : Prop := ∀ x ∈ l, 0 ≤ x ∧ x < 1009
theorem inR_add {l : List Int} {x : Int} (h : inR l) (h1 : 0 ≤ x) (h2 : x < 1009) : inR (l ++ [x]) := fun y hy => by
  rcases List.mem_append.mp hy with hy | hy
  · exact h y hy
  · rw [List.mem_singleton.mp hy]
    exact ⟨h1, h2⟩
theorem inR_mod {l : List Int} (h : inR l) (x : Int) : inR (l ++ [x % 1009]) := inR_add h (Int.emod_nonneg _ (by decide)) (Int.emod_lt_of_pos _ (by decide))
def intsL (l : List Int) : List D := l.map .int
theorem intsL_add (l : List Int) (x : Int) : intsL l ++ [.int x] = intsL (l ++ [x]) := by
  unfold intsL
  rw [List.map_append]
  rfl
theorem intsL_len (l : List Int) : (intsL l).length = l.length := by
  unfold intsL
  rw [List.length_map]
theorem row_body (c m rest k : Int) (acc : List Int) (hr : 0 ≤ rest) (hz : acc.length < sizeLine) : ∃ rest' e x, evB t0 b0_1 [some (.d (.int c)), some (.d (.int m)), some (.m 0), some (.d (.int rest)), some (.d (.int k)), none] [some (.lst (intsL acc))] = .nx e [some (.lst (intsL (acc ++ [x % 1009])))] ∧ kill e [4, 5] = [some (.d (.int c)), some (.d (.int m)), some (.m 0), some (.d (.int rest')), none, none] ∧ 0 ≤ rest' := by
  have hm1 : ∀ i, mulOk i 48271 = true := fun i => by simp [mulOk]
  have hm2 : ∀ i, mulOk i 69621 = true := fun i => by simp [mulOk]
  have hm3 : ∀ i, mulOk i 16807 = true := fun i => by simp [mulOk]
  have hm4 : ∀ i, mulOk 271 i = true := fun i => by simp [mulOk]
  have hp : ∀ S, bin true .pow (.d (.int 10)) (.d (.int 18)) S = .ok (.d (.int (10 ^ 18))) S := fun S => rfl
  have hl : (intsL acc).length < sizeLine := by rw [intsL_len]; exact hz
  unfold b0_1
  cases hc : decide ((10:Int) ^ 18 ≤ (if c < 0 then -c else c)) with
  | true =>
    refine ⟨rest / 1009, [some (.d (.int c)), some (.d (.int m)), some (.m 0), some (.d (.int (rest / 1009))), some (.d (.int k)), none], rest, ?_, rfl, Int.ediv_nonneg hr (by decide)⟩
    rw [← intsL_add]
    walk_at "ev"
  | false =>
    refine ⟨rest, [some (.d (.int c)), some (.d (.int m)), some (.m 0), some (.d (.int rest)), some (.d (.int k)), some (.d (.int ((((rest * 48271 + (k + 1) * 69621) % 2147483647) * 16807 + 271 * (k + 3)) % 2147483629)))], (((rest * 48271 + (k + 1) * 69621) % 2147483647) * 16807 + 271 * (k + 3)) % 2147483629, ?_, rfl, hr⟩
    rw [← intsL_add]
    walk_at "ev"
theorem row_loop (c m : Int) : ∀ (ks : List Int) (rest : Int) (acc : List Int), 0 ≤ rest → inR acc → acc.length + ks.length ≤ sizeLine → ∃ rest' acc', loopF (evG (.nm 4)) (evK t0 b0_1) [4, 5] 1 (ks.map fun k => .d (.int k)) [some (.d (.int c)), some (.d (.int m)), some (.m 0), some (.d (.int rest)), none, none] [some (.lst (intsL acc))] = .nx [some (.d (.int c)), some (.d (.int m)), some (.m 0), some (.d (.int rest')), none, none] [some (.lst (intsL acc'))] ∧ acc'.length = acc.length + ks.length ∧ inR acc'
  | [], rest, acc, hr, ha, hz => ⟨rest, acc, by simp [loopF], by simp, ha⟩
  | k :: ks, rest, acc, hr, ha, hz => by
    rw [List.length_cons] at hz
    obtain ⟨rest', e, x, h1, h2, h3⟩ := row_body c m rest k acc hr (by omega)
    obtain ⟨r2, acc2, g1, g2, g3⟩ := row_loop c m ks rest' (acc ++ [x % 1009]) h3 (inR_mod ha x) (by rw [List.length_append, List.length_singleton]; omega)
    refine ⟨r2, acc2, ?_, ?_, g3⟩
    · rw [List.map_cons, loopF_stepK (e1 := [some (.d (.int c)), some (.d (.int m)), some (.m 0), some (.d (.int rest)), some (.d (.int k)), none]) (by rw [eg1]; rfl) h1 (by simp), h2, g1]
    · rw [g2, List.length_append, List.length_singleton, List.length_cons]
      omega
theorem rng_ints (n : Nat) : rngL 0 n = ((List.range n).map fun (k : Nat) => (k : Int)).map fun k => W.d (.int k) := by
  unfold rngL
  rw [List.map_map]
  refine List.map_congr_left fun k _ => ?_
  show W.d (.int (0 + (k : Int))) = W.d (.int (k : Int))
  rw [Int.zero_add]
theorem F0_ok (c m : Int) (h0 : 0 ≤ m) (h1 : m ≤ 1000) : ∃ l : List Int, F0 [.d (.int c), .d (.int m)] [] = .ok (.d (.lst (intsL l))) [] ∧ l.length = m.toNat ∧ inR l := by
  obtain ⟨r, l, g1, g2, g3⟩ := row_loop c m ((List.range m.toNat).map fun (k : Nat) => (k : Int)) (if c < 0 then -c else c) [] (by split <;> omega) (fun x hx => (List.not_mem_nil hx).elim) (by rw [List.length_map, List.length_range]; exact small (by simp; omega))
  refine ⟨l, ?_, by rw [g2, List.length_map, List.length_range]; simp, g3⟩
  have g1' : loopF (evG (.nm 4)) (evK t0 b0_1) [4, 5] 1 (rngL 0 m.toNat) [some (.d (.int c)), some (.d (.int m)), some (.m 0), some (.d (.int (if c < 0 then -c else c))), none, none] [some (.lst [])] = .nx [some (.d (.int c)), some (.d (.int m)), some (.m 0), some (.d (.int r)), none, none] [some (.lst (intsL l))] := by rw [rng_ints]; exact g1
  have rk : rngOk m = true := by
    unfold rngOk
    simp
    omega
  have z0 : 0 ≤ sizeLine := Nat.zero_le _
  unfold F0 b0 run
  walk_at "ev"
  rfl
theorem app_loop (e0 : List (Option W)) (he : e0.length = 4) (y : Option W) : ∀ (l acc : List Int), acc.length + l.length ≤ sizeLine → loopF (evG (.nm 6)) (evK t1 b1_3) [6] 1 (l.map fun k => .d (.int k)) (e0 ++ [some (.m 0), y, none]) [some (.lst (intsL acc))] = .nx (e0 ++ [some (.m 0), y, none]) [some (.lst (intsL (acc ++ l)))]
  | [], acc, hz => by simp [loopF]
  | x :: l, acc, hz => by
    rw [List.length_cons] at hz
    obtain ⟨p0, p1, p2, p3, rfl⟩ : ∃ p0 p1 p2 p3, e0 = [p0, p1, p2, p3] := by
      match e0, he with
      | [p0, p1, p2, p3], _ => exact ⟨p0, p1, p2, p3, rfl⟩
    have hl : (intsL acc).length < sizeLine := by rw [intsL_len]; omega
    have body : evB t1 b1_3 [p0, p1, p2, p3, some (.m 0), y, some (.d (.int x))] [some (.lst (intsL acc))] = .nx [p0, p1, p2, p3, some (.m 0), y, some (.d (.int x))] [some (.lst (intsL (acc ++ [x])))] := by
      unfold b1_3
      rw [← intsL_add]
      walk_at "ev"
    rw [List.map_cons]
    show loopF _ _ _ _ _ [p0, p1, p2, p3, some (.m 0), y, none] _ = _
    rw [loopF_stepK (e1 := [p0, p1, p2, p3, some (.m 0), y, some (.d (.int x))]) (by rw [eg1]; rfl) body (by simp)]
    have ih := app_loop [p0, p1, p2, p3] rfl y l (acc ++ [x]) (by rw [List.length_append, List.length_singleton]; omega)
    show loopF _ _ _ _ _ [p0, p1, p2, p3, some (.m 0), y, none] _ = _
    have ih : loopF (evG (.nm 6)) (evK t1 b1_3) [6] 1 (l.map fun k => .d (.int k)) [p0, p1, p2, p3, some (.m 0), y, none] [some (.lst (intsL (acc ++ [x])))] = _ := ih
    rw [ih, List.append_assoc]
    rfl
theorem inR_app {l m : List Int} (h : inR l) (h' : inR m) : inR (l ++ m) := fun y hy => (List.mem_append.mp hy).elim (h y) (h' y)
theorem cell_loop (p0 p1 p2 : Option W) (each : Int) (h0 : 0 ≤ each) (h1 : each ≤ 1000) : ∀ (cs acc : List Int), acc.length + cs.length * each.toNat ≤ sizeLine → inR acc → ∃ acc', loopF (evG (.nm 5)) (evK t1 b1_2) [5, 6] 1 (cs.map fun k => .d (.int k)) [p0, p1, p2, some (.d (.int each)), some (.m 0), none, none] [some (.lst (intsL acc))] = .nx [p0, p1, p2, some (.d (.int each)), some (.m 0), none, none] [some (.lst (intsL acc'))] ∧ acc'.length = acc.length + cs.length * each.toNat ∧ inR acc'
  | [], acc, hz, ha => ⟨acc, by simp [loopF], by simp, ha⟩
  | c :: cs, acc, hz, ha => by
    rw [List.length_cons, Nat.succ_mul] at hz
    obtain ⟨l, g1, g2, g3⟩ := F0_ok c each h0 h1
    have ap := app_loop [p0, p1, p2, some (.d (.int each))] rfl (some (.d (.int c))) l acc (by omega)
    have cl : ∀ e S, callF F0 [.d (.int c), .d (.int each)] e [] S = .ok (.d (.lst (intsL l))) S := fun e S => callF_d rfl g1
    have body : evB t1 b1_2 [p0, p1, p2, some (.d (.int each)), some (.m 0), some (.d (.int c)), none] [some (.lst (intsL acc))] = .nx [p0, p1, p2, some (.d (.int each)), some (.m 0), some (.d (.int c)), none] [some (.lst (intsL (acc ++ l)))] := by
      have ap : loopF (evG (.nm 6)) (evK t1 b1_3) [6] 1 ((intsL l).map .d) [p0, p1, p2, some (.d (.int each)), some (.m 0), some (.d (.int c)), none] [some (.lst (intsL acc))] = .nx [p0, p1, p2, some (.d (.int each)), some (.m 0), some (.d (.int c)), none] [some (.lst (intsL (acc ++ l)))] := by
        unfold intsL at ap ⊢
        rw [List.map_map]
        exact ap
      unfold b1_2
      walk_at "ev"
    obtain ⟨acc2, k1, k2, k3⟩ := cell_loop p0 p1 p2 each h0 h1 cs (acc ++ l) (by rw [List.length_append]; omega) (inR_app ha g3)
    refine ⟨acc2, ?_, ?_, k3⟩
    · rw [List.map_cons, loopF_stepK (e1 := [p0, p1, p2, some (.d (.int each)), some (.m 0), some (.d (.int c)), none]) (by rw [eg1]; rfl) body (by simp)]
      exact k1
    · rw [k2, List.length_append, List.length_cons, Nat.succ_mul, g2]
      omega
theorem fill_loop (p0 p2 p3 : Option W) (m : Int) (hm : m ≤ 1000) : ∀ (k fuel : Nat) (acc : List Int), m.toNat - acc.length ≤ k → k < fuel → inR acc → ∃ acc', loopW (evTK t1 (.cmp .lt (.bi true .len (.cons (.var 4) .nil)) (.var 1))) (evK t1 b1_1) [] 1 fuel [p0, some (.d (.int m)), p2, p3, some (.m 0), none, none] [some (.lst (intsL acc))] = .nx [p0, some (.d (.int m)), p2, p3, some (.m 0), none, none] [some (.lst (intsL acc'))] ∧ m.toNat ≤ acc'.length ∧ inR acc'
  | k, 0, acc, hk, hf, ha => by omega
  | k, fuel + 1, acc, hk, hf, ha => by
    have il := intsL_len acc
    by_cases hlt : (acc.length : Int) < m
    · cases k with
      | zero => omega
      | succ k =>
        have hl : acc.length < sizeLine := by exact Nat.lt_of_lt_of_le (by omega : acc.length < 10000) (small (Nat.le_refl _))
        obtain ⟨acc2, g1, g2, g3⟩ := fill_loop p0 p2 p3 m hm k fuel (acc ++ [0]) (by rw [List.length_append, List.length_singleton]; omega) (by omega) (inR_add ha (by decide) (by decide))
        refine ⟨acc2, ?_, g2, g3⟩
        have body : evB t1 b1_1 [p0, some (.d (.int m)), p2, p3, some (.m 0), none, none] [some (.lst (intsL acc))] = .nx [p0, some (.d (.int m)), p2, p3, some (.m 0), none, none] [some (.lst (intsL (acc ++ [0])))] := by
          unfold b1_1
          rw [← intsL_add]
          walk_at "ev"
        rw [loopW_stepK (by walk_at "ev") body (by simp)]
        exact g1
    · refine ⟨acc, ?_, by omega, ha⟩
      rw [loopW_endK (by walk_at "ev")]
theorem F1_ok (ns : List Int) (m : Int) (hn : ns.length ≤ 63) (h0 : 0 ≤ m) (h1 : m ≤ 900) : ∃ l : List Int, F1 [.d (.ro (ns.map .int)), .d (.int m)] [] = .ok (.d (.lst (intsL l))) [] ∧ l.length = m.toNat ∧ inR l := by
  have ht : (ns.map D.int).take 63 = ns.map D.int := List.take_of_length_le (by rw [List.length_map]; exact hn)
  obtain ⟨d, hd⟩ : ∃ d : Int, d = (if (ns.length : Int) > 1 then (ns.length : Int) else 1) := ⟨_, rfl⟩
  have d0 : 0 < d ∧ d < 1073741824 := by rw [hd]; split <;> omega
  have e0 : 0 ≤ m / d := Int.ediv_nonneg h0 (by omega)
  have e1 : m / d ≤ m := Int.ediv_le_self _ h0
  have sz : 100000 ≤ sizeLine := by rw [sizeLine_eq]; omega
  obtain ⟨a1, k1, k2, k3⟩ := cell_loop (some (.d (.ro (ns.map .int)))) (some (.d (.int m))) (some (.d (.lst (ns.map .int)))) (1 + m / d) (by omega) (by omega) ns [] (by
    have q1 : (1 + m / d).toNat ≤ 1000 := by omega
    have : ns.length * (1 + m / d).toNat ≤ 63 * 1000 := Nat.mul_le_mul hn q1
    simp only [List.length_nil]
    omega) (fun x hx => (List.not_mem_nil hx).elim)
  obtain ⟨a2, f1, f2, f3⟩ := fill_loop (some (.d (.ro (ns.map .int)))) (some (.d (.lst (ns.map .int)))) (some (.d (.int (1 + m / d)))) m (by omega) m.toNat 100000 a1 (by omega) (by omega) k3
  refine ⟨a2.take m.toNat, ?_, by rw [List.length_take]; omega, fun x hx => f3 x (List.mem_of_mem_take hx)⟩
  have k1' : loopF (evG (.nm 5)) (evK t1 b1_2) [5, 6] 1 ((ns.map D.int).map .d) [some (.d (.ro (ns.map .int))), some (.d (.int m)), some (.d (.lst (ns.map .int))), some (.d (.int (1 + m / d))), some (.m 0), none, none] [some (.lst [])] = .nx [some (.d (.ro (ns.map .int))), some (.d (.int m)), some (.d (.lst (ns.map .int))), some (.d (.int (1 + m / d))), some (.m 0), none, none] [some (.lst (intsL a1))] := by
    rw [List.map_map]
    exact k1
  have z0 : 0 ≤ sizeLine := Nat.zero_le _
  have mx : ∀ S, biW true .max [.d (.int 1), .d (.int ns.length)] S = .ok (.d (.int d)) S := fun S => by rw [hd]; rfl
  have tk : List.take m.toNat (intsL a2) = intsL (a2.take m.toNat) := by
    unfold intsL
    rw [List.map_take]
  have t63 : Int.toNat 63 = 63 := rfl
  clear k1 k2 k3 f2 f3 hd
  unfold F1 b1 run
  walk_at "ev"
  rfl
theorem F2_ok (s : Str) (h : s.length ≤ 1000) : F2 [.d (.str s)] [] = .ok (.d (strsL (wordsOf 32 s))) [] := by
  have hz : s.length ≤ sizeLine := small (by omega)
  have hm : ∀ S, meW true .split (.d (.str s)) [.d (.str " ")] S = .ok (.d (strsL (Txt.split s ⟨#[32]⟩))) S := fun S => msp ⟨by decide, small (by omega)⟩
  unfold F2 b2 run
  walk_at "ev"
  have e : (Txt.split s ⟨#[32]⟩).map (fun w => W.d (.str w)) = (Txt.split s ⟨#[32]⟩).map fun w => W.d (.str w) := rfl
  rw [loopC_sel (g := fun w : Str => W.d (.str w)) (f := fun w => .str w) (p := fun w => !decide (w = "")) (fun a ha => ⟨_, rfl, ?_, fun _ => rfl⟩) (by have := split_len s 32; exact small (by omega))]
  · walk_at "ev"
    rfl
  · walk_at "ev"
def letS : Str := "abcdefghijklmnopqrstuvwxyz0123456789"
theorem let_ok : ∀ i < 36, 48 ≤ letS.cps.toList.getD i 0 ∧ letS.cps.toList.getD i 0 ≤ 122 := by decide
def okC (w : Str) : Prop := ∀ c ∈ w.cps.toList, 48 ≤ c ∧ c ≤ 122
def okW (w : Str) : Prop := 1 ≤ w.length ∧ w.length ≤ 20 ∧ okC w
theorem len_cps (w : Str) : w.length = w.cps.toList.length := rfl
theorem joined (g : Int → Int) (hg : ∀ k, 0 ≤ g k ∧ g k < 36) (n : Nat) (hn : n ≤ 1000) : ∃ w : Str, okC w ∧ w.length = n ∧ ∀ S, meW true .join (.d (.str "")) [.d (.lst (((List.range n).map fun (k : Nat) => (k : Int)).map fun k => D.str ⟨#[letS.cps.toList.getD (g k).toNat 0]⟩))] S = .ok (.d (.str w)) S := by
  refine ⟨_, ?_, ?_, fun S => mj (allStr_map (fun k => ⟨#[letS.cps.toList.getD (g k).toNat 0]⟩) _) ?_⟩
  · rw [show ("" : Str) = ⟨#[]⟩ from rfl, join0_one]
    intro c hc
    have hc : c ∈ List.map (fun k => letS.cps.toList.getD (g k).toNat 0) ((List.range n).map fun (k : Nat) => (k : Int)) := hc
    obtain ⟨k, _, rfl⟩ := List.mem_map.mp hc
    have := hg k
    exact let_ok _ (by omega)
  · rw [show ("" : Str) = ⟨#[]⟩ from rfl, join0_one, len_cps]
    show (List.map _ _).length = n
    rw [List.length_map, List.length_map, List.length_range]
  · unfold joinLen
    rw [List.map_map, List.length_map, List.length_map, List.length_range]
    have e : ∀ l : List Int, (l.map ((fun x : Str => x.length) ∘ fun k => (⟨#[letS.cps.toList.getD (g k).toNat 0]⟩ : Str))).sum = l.length := by
      intro l
      induction l with
      | nil => rfl
      | cons a l ih =>
        rw [List.map_cons, List.sum_cons, ih, List.length_cons]
        show 1 + l.length = _
        omega
    rw [e, List.length_map, List.length_range]
    show n + n * 0 ≤ _
    omega
theorem letS_len : letS.length = 36 := rfl
def kwL : List Str := ["task", "end", "drop", "undo", "redo", "answer", "answers", "system", "table", "ask", "remove", "show"]
def kw2L : List Str := ["kind", "way", "tasks", "tables", "questions", "task", "table"]
instance (w : Str) : Decidable (okC w) := by unfold okC; infer_instance
instance (w : Str) : Decidable (okW w) := by unfold okW; infer_instance
theorem kw_ok : ∀ w ∈ kwL, okW w := by decide
theorem kw2_ok : ∀ w ∈ kw2L, okW w := by decide
theorem cutS_len_to {s : Str} {k : Int} (h : 0 ≤ k) : (cutS s none (some k)).length = min k.toNat s.length := by
  rw [len_cps, cutS_to h, List.length_take]
  rfl
theorem app_cps (a b : Str) : (a ++ b).cps.toList = a.cps.toList ++ b.cps.toList := by
  simp only [Str.cps_append, Array.toList_append]
theorem okC_app {a b : Str} (h : okC a) (h' : okC b) : okC (a ++ b) := fun c hc => by
  rw [app_cps] at hc
  exact (List.mem_append.mp hc).elim (h c) (h' c)
theorem app_len (a b : Str) : (a ++ b).length = a.length + b.length := Str.length_append a b
theorem rsz (i : Int) (h0 : 0 ≤ i) (h : i ≤ 1000) : rngOk i = true := by
  unfold rngOk
  simp
  omega
theorem F12_ok (n m : Int) (h0 : 0 ≤ n) (h1 : n < 1009) (h2 : 0 ≤ m) : ∃ w, F12 [.d (.int n), .d (.int m)] [] = .ok (.d (.str w)) [] ∧ okW w := by
  unfold F12 b12 run
  cases c0 : decide (n % 5 = 0) with
  | true =>
    obtain ⟨w, hw, he⟩ := pick (l := kwL) (f := D.str) (i := n / 5 % 12) (by omega) (by show n / 5 % 12 < 12; omega)
    have he : ∀ S, ixW (.d (.tup [.str "task", .str "end", .str "drop", .str "undo", .str "redo", .str "answer", .str "answers", .str "system", .str "table", .str "ask", .str "remove", .str "show"])) (.d (.int (n / 5 % 12))) S = .ok (.d (.str w)) S := he
    refine ⟨w, ?_, kw_ok w hw⟩
    walk_at "ev"
    rfl
  | false =>
    cases c1 : decide (n % 5 = 1) with
    | true =>
      obtain ⟨w, hw, he⟩ := pick (l := kw2L) (f := D.str) (i := n / 5 % 7) (by omega) (by show n / 5 % 7 < 7; omega)
      have he : ∀ S, ixW (.d (.tup [.str "kind", .str "way", .str "tasks", .str "tables", .str "questions", .str "task", .str "table"])) (.d (.int (n / 5 % 7))) S = .ok (.d (.str w)) S := he
      refine ⟨w, ?_, kw2_ok w hw⟩
      walk_at "ev"
      rfl
    | false =>
      have s1 : 1 ≤ (1 + n / 5 % 8).toNat := by omega
      have s2 : (1 + n / 5 % 8).toNat ≤ 8 := by omega
      have r1 := rsz (1 + n / 5 % 8) (by omega) (by omega)
      obtain ⟨w, hw1, hw2, hj⟩ := joined (fun k => 26 + (m + k * k + n / 40) % 10) (fun k => by omega) (1 + n / 5 % 8).toNat (by omega)
      have wz : w.length ≤ sizeLine := small (by omega)
      have w8 : 1 ≤ w.length ∧ w.length ≤ 8 := by omega
      clear hw2
      have lp : ∀ S, loopC (evG (.nm 7)) (evTK t12 .yes) (evEK t12 (.ix (.var 3) (.op true .add (.int 26) (.op true .mod (.op true .add (.op true .add (.var 1) (.op true .mul (.var 7) (.var 7))) (.op true .fdiv (.var 0) (.int 40))) (.int 10))))) (rngL 0 (1 + n / 5 % 8).toNat) [some (.d (.int n)), some (.d (.int m)), some (.d (.tup [.str "task", .str "end", .str "drop", .str "undo", .str "redo", .str "answer", .str "answers", .str "system", .str "table", .str "ask", .str "remove", .str "show"])), some (.d (.str "abcdefghijklmnopqrstuvwxyz0123456789")), some (.d (.int (1 + n / 5 % 8))), none, none, none] [] S = .ok (((List.range (1 + n / 5 % 8).toNat).map fun (k : Nat) => (k : Int)).map fun k => D.str ⟨#[letS.cps.toList.getD (26 + (m + k * k + n / 40) % 10).toNat 0]⟩) S := fun S => by
        rw [rng_ints, loopC_all0 (f := fun k => D.str ⟨#[letS.cps.toList.getD (26 + (m + k * k + n / 40) % 10).toNat 0]⟩) (fun a ha => ⟨_, rfl, rfl, ?_⟩) (by rw [List.length_map, List.length_range]; exact small (by omega))]
        obtain ⟨b, hb, rfl⟩ := List.mem_map.mp ha
        have hb := List.mem_range.mp hb
        have hm : mulOk (b : Int) b = true := by simp [mulOk]; omega
        have hx := fun S => ixsD (s := letS) (i := 26 + (m + (b : Int) * b + n / 40) % 10) (S := S) (by omega) (by rw [letS_len]; omega) (small (by rw [letS_len]; omega))
        have hx : ∀ S, ixW (.d (.str "abcdefghijklmnopqrstuvwxyz0123456789")) (.d (.int (26 + (m + (b : Int) * b + n / 40) % 10))) S = .ok (.d (.str ⟨#[letS.cps.toList.getD (26 + (m + (b : Int) * b + n / 40) % 10).toNat 0]⟩)) S := hx
        clear hj r1 c0 c1
        walk_at "ev"
      cases c2 : (decide (n % 5 = 2) || decide (n % 5 = 3)) with
      | true =>
        have c2' : ¬ n % 5 = 2 → n % 5 = 3 := by
          intro h
          rcases Bool.or_eq_true_iff.mp c2 with h | h
          · exact absurd (of_decide_eq_true h) (by assumption)
          · exact of_decide_eq_true h
        have sl := fun S => @sls w none (some (1 + m % 4)) true S wz
        have wl := cutS_len_to (s := w) (k := 1 + m % 4) (by omega)
        have go : ∀ b3 b4, decide (n % 5 = 2) = b3 → decide (n % 5 = 3) = b4 → (b3 || b4) = true → ∃ w, (if [W.d (.int n), .d (.int m)].length = 2 then (match evB t12 b12 ([W.d (.int n), .d (.int m)].map some ++ List.replicate (8 - [W.d (.int n), .d (.int m)].length) none) [] with
            | .nx _ S' => .ok (.d .non) (trim 0 [] S')
            | .rt w S' => .ok w (trim 0 [some w] S')
            | .ex c ns l _ S' => .ex c ns l (trim 0 [] S')
            | _ => .st) else (.st : R W)) = .ok (.d (.str w)) [] ∧ okW w := by
          intro b3 b4 e3 e4 h34
          cases c3 : decide (0 < m % 3) with
          | false =>
            refine ⟨w, ?_, by omega, by omega, hw1⟩
            unfold b12
            cases b3 <;> cases b4 <;> first | (cases h34; done) | (walk_at "ev"; rfl)
          | true =>
            cases c4 : decide (3 < (w.length : Int)) with
            | true =>
              have c4' := of_decide_eq_true c4
              refine ⟨cutS w none (some (1 + m % 4)), ?_, by omega, by omega, fun c hc => hw1 c (cutS_mem hc)⟩
              unfold b12
              cases b3 <;> cases b4 <;> first | (cases h34; done) | (walk_at "ev"; rfl)
            | false =>
              refine ⟨w, ?_, by omega, by omega, hw1⟩
              unfold b12
              cases b3 <;> cases b4 <;> first | (cases h34; done) | (walk_at "ev"; rfl)
        exact go _ _ rfl rfl c2
      | false =>
        have c3 : decide (n % 5 = 2) = false := by
          cases h : decide (n % 5 = 2) with
          | false => rfl
          | true => rw [h] at c2; cases c2
        have c4 : decide (n % 5 = 3) = false := by
          rw [c3] at c2
          exact c2
        obtain ⟨u, hu1, hu2, uj⟩ := joined (fun k => (m + 11 * k * n + k) % 36) (fun k => by omega) (1 + n / 5 % 8 + n / 40 % 6).toNat (by omega)
        have r2 := rsz (1 + n / 5 % 8 + n / 40 % 6) (by omega) (by omega)
        have uz : u.length ≤ sizeLine := small (by omega)
        have lp2 : ∀ S, loopC (evG (.nm 7)) (evTK t12 .yes) (evEK t12 (.ix (.var 3) (.op true .mod (.op true .add (.op true .add (.var 1) (.op true .mul (.op true .mul (.int 11) (.var 7)) (.var 0))) (.var 7)) (.int 36)))) (rngL 0 (1 + n / 5 % 8 + n / 40 % 6).toNat) [some (.d (.int n)), some (.d (.int m)), some (.d (.tup [.str "task", .str "end", .str "drop", .str "undo", .str "redo", .str "answer", .str "answers", .str "system", .str "table", .str "ask", .str "remove", .str "show"])), some (.d (.str "abcdefghijklmnopqrstuvwxyz0123456789")), some (.d (.int (1 + n / 5 % 8))), none, none, none] [] S = .ok (((List.range (1 + n / 5 % 8 + n / 40 % 6).toNat).map fun (k : Nat) => (k : Int)).map fun k => D.str ⟨#[letS.cps.toList.getD ((m + 11 * k * n + k) % 36).toNat 0]⟩) S := fun S => by
          rw [rng_ints, loopC_all0 (f := fun k => D.str ⟨#[letS.cps.toList.getD ((m + 11 * k * n + k) % 36).toNat 0]⟩) (fun a ha => ⟨_, rfl, rfl, ?_⟩) (by rw [List.length_map, List.length_range]; exact small (by omega))]
          obtain ⟨b, hb, rfl⟩ := List.mem_map.mp ha
          have hb := List.mem_range.mp hb
          have hm : mulOk 11 (b : Int) = true := by simp [mulOk]
          have hm2 : mulOk (11 * (b : Int)) n = true := by simp [mulOk]; omega
          have hx := fun S => ixsD (s := letS) (i := (m + 11 * (b : Int) * n + b) % 36) (S := S) (by omega) (by rw [letS_len]; omega) (small (by rw [letS_len]; omega))
          have hx : ∀ S, ixW (.d (.str "abcdefghijklmnopqrstuvwxyz0123456789")) (.d (.int ((m + 11 * (b : Int) * n + b) % 36))) S = .ok (.d (.str ⟨#[letS.cps.toList.getD ((m + 11 * (b : Int) * n + b) % 36).toNat 0]⟩)) S := hx
          clear hj r1 c0 c1 uj lp c3 c4 c2
          walk_at "ev"
        have ul : 1 ≤ u.length ∧ u.length ≤ 13 := by omega
        clear hu2
        have sl1 := fun S => @sls u none (some 2) true S uz
        have sl2 := fun S => @sls u (some 2) none true S uz
        have l1 : (cutS u none (some 2)).length ≤ 2 := by rw [cutS_len_to (by decide)]; exact Nat.min_le_left _ _
        have l2 : (cutS u (some 2) none).length ≤ u.length := cutS_length u _ _
        have a1 : (cutS u none (some 2)).length + ("_" : Str).length ≤ sizeLine := small (by show _ + 1 ≤ _; omega)
        have a2 : (cutS u none (some 2) ++ ("_" : Str)).length + (cutS u (some 2) none).length ≤ sizeLine := small (by rw [app_len]; show _ + 1 + _ ≤ _; omega)
        have a3 : u.length + ("A" : Str).length ≤ sizeLine := small (by show _ + 1 ≤ _; omega)
        clear hj lp sl2 r1
        have sl2 := fun S => @sls u (some 2) none true S uz
        cases c5 : decide (m % 7 = 0) with
        | true =>
          refine ⟨cutS u none (some 2) ++ ("_" : Str) ++ cutS u (some 2) none, ?_, by rw [app_len, app_len]; show 1 ≤ _ + 1 + _; omega, by rw [app_len, app_len]; show _ + 1 + _ ≤ _; omega, okC_app (okC_app (fun c hc => hu1 c (cutS_mem hc)) (by decide)) (fun c hc => hu1 c (cutS_mem hc))⟩
          walk_at "ev"
          rfl
        | false =>
          cases c6 : decide (m % 7 = 1) with
          | true =>
            refine ⟨u ++ ("A" : Str), ?_, by rw [app_len]; show 1 ≤ _ + 1; omega, by rw [app_len]; show _ + 1 ≤ _; omega, okC_app hu1 (by decide)⟩
            walk_at "ev"
            rfl
          | false =>
            refine ⟨u, ?_, by omega, by omega, hu1⟩
            walk_at "ev"
            rfl
def formL : List (Str × Int) := [("task", 1), ("table", 3), ("ask", 4), ("drop", 1), ("remove", 2), ("undo", 0), ("answer", 1), ("answers", 0), ("show", 1), ("system", 1), ("kind", 3), ("way", 3), ("end", 0), ("redo", 0)]
theorem form_ok : ∀ p ∈ formL, okW p.1 ∧ 0 ≤ p.2 ∧ p.2 ≤ 4 := by decide
theorem num_ok : ∀ k : Nat, k < 1009 → okW (toString (k : Int) : Str) := by
  have h : ∀ k ∈ List.range 1009, okW (toString (k : Int) : Str) := by decide +kernel
  exact fun k hk => h k (List.mem_range.mpr hk)
def goodL (zs : List Str) : Prop := zs ≠ [] ∧ zs.length ≤ 8 ∧ ∀ z ∈ zs, okW z
theorem good_set {zs : List Str} {w : Str} {i : Nat} (h : goodL zs) (hw : okW w) : goodL (zs.set i w) := by
  obtain ⟨h1, h2, h3⟩ := h
  refine ⟨fun e => h1 (by simpa using congrArg List.length e), by rw [List.length_set]; exact h2, fun z hz => ?_⟩
  rcases List.mem_or_eq_of_mem_set hz with hz | rfl
  · exact h3 z hz
  · exact hw
theorem F13_ok (ws : List Str) (n : Int) (h0 : 0 ≤ n) (h1 : n < 1009) (hw : ∀ w ∈ ws, okW w) (hl : ws.length ≤ 7) : ∃ zs, F13 [.d (strsL ws), .d (.int n)] [] = .ok (.d (strsL zs)) [] ∧ goodL zs := by
  obtain ⟨⟨a, k⟩, hp, hi⟩ := pick (l := formL) (f := fun p => D.tup [.str p.1, .int p.2]) (i := n % 14) (by omega) (by show n % 14 < 14; omega)
  obtain ⟨ha, k0, k4⟩ := form_ok _ hp
  dsimp only at ha k0 k4 hi
  have hi : ∀ S, ixW (.d (.tup [.tup [.str "task", .int 1], .tup [.str "table", .int 3], .tup [.str "ask", .int 4], .tup [.str "drop", .int 1], .tup [.str "remove", .int 2], .tup [.str "undo", .int 0], .tup [.str "answer", .int 1], .tup [.str "answers", .int 0], .tup [.str "show", .int 1], .tup [.str "system", .int 1], .tup [.str "kind", .int 3], .tup [.str "way", .int 3], .tup [.str "end", .int 0], .tup [.str "redo", .int 0]])) (.d (.int (n % 14))) S = .ok (.d (.tup [.str a, .int k])) S := hi
  have z0 : 0 ≤ sizeLine := Nat.zero_le _
  obtain ⟨l, hl0⟩ : ∃ l : List Str, l = a :: ws.take k.toNat := ⟨_, rfl⟩
  have gl : goodL l := by
    rw [hl0]
    refine ⟨by simp, by rw [List.length_cons, List.length_take]; omega, fun z hz => ?_⟩
    rcases List.mem_cons.mp hz with rfl | hz
    · exact ha
    · exact hw z (List.mem_of_mem_take hz)
  have add : bin false .add (.d (.lst [.str a])) (.d (strsL (ws.take k.toNat))) [] = .ok (.m 0) [some (.lst (l.map .str))] := by
    rw [hl0]
    refine bi12 ?_
    rw [List.length_map, List.length_take]
    exact small (by show 1 + _ ≤ _; omega)
  obtain ⟨z, hz⟩ : ∃ z : Str, z = (toString n : Str) := ⟨_, rfl⟩
  have zk : okW z := by
    rw [hz]
    obtain ⟨m, rfl⟩ := Int.eq_ofNat_of_zero_le h0
    exact num_ok m (by omega)
  have hs : ∀ S, biW true .str [.d (.int n)] S = .ok (.d (.str z)) S := fun S => by
    show (if n.natAbs.log2 < 1920 then ok1 (.str (toString n)) S else .st) = _
    rw [if_pos, hz]
    · rfl
    · exact Nat.lt_of_le_of_lt (Nat.log2_le_self _) (by omega)
  clear hl0 hp hw hz
  obtain ⟨T, hT⟩ : ∃ T : D, T = .tup [.tup [.str "task", .int 1], .tup [.str "table", .int 3], .tup [.str "ask", .int 4], .tup [.str "drop", .int 1], .tup [.str "remove", .int 2], .tup [.str "undo", .int 0], .tup [.str "answer", .int 1], .tup [.str "answers", .int 0], .tup [.str "show", .int 1], .tup [.str "system", .int 1], .tup [.str "kind", .int 3], .tup [.str "way", .int 3], .tup [.str "end", .int 0], .tup [.str "redo", .int 0]] := ⟨_, rfl⟩
  suffices h : ∃ zs S', evB t13 b13 [some (.d (strsL ws)), some (.d (.int n)), none, none, none, none] [] = .rt (.d (strsL zs)) S' ∧ goodL zs by
    obtain ⟨zs, S', h, g⟩ := h
    exact ⟨zs, run_rt rfl h, g⟩
  unfold b13
  rw [seqB (e2 := [some (.d (strsL ws)), some (.d (.int n)), some (.d (.tup [.tup [.str "task", .int 1], .tup [.str "table", .int 3], .tup [.str "ask", .int 4], .tup [.str "drop", .int 1], .tup [.str "remove", .int 2], .tup [.str "undo", .int 0], .tup [.str "answer", .int 1]])), none, none, none]) (S2 := []) (by walk_at "ev"),
    seqB (e2 := [some (.d (strsL ws)), some (.d (.int n)), some (.d T), none, none, none]) (S2 := []) (by walk_at "ev"),
    seqB (e2 := [some (.d (strsL ws)), some (.d (.int n)), some (.d T), none, some (.d (.str a)), some (.d (.int k))]) (S2 := []) (by walk_at "ev"),
    seqB (e2 := [some (.d (strsL ws)), some (.d (.int n)), some (.d T), some (.m 0), some (.d (.str a)), some (.d (.int k))]) (S2 := [some (.lst (l.map .str))]) (by walk_at "ev")]
  clear hT hi add
  obtain ⟨l1, g1, e1⟩ : ∃ l1 : List Str, goodL l1 ∧ evS t13 (.iff (.and (.cons (.cmp .eq (.var 4) (.str "remove")) (.one (.cmp .gt (.bi true .len (.cons (.var 3) .nil)) (.int 1))))) (.cons (.setIx (.var 3) (.int 1) (.ix (.tup (.cons (.str "task") (.cons (.str "table") .nil))) (.op true .mod (.op true .fdiv (.var 1) (.int 14)) (.int 2)))) .nil) .nil) [some (.d (strsL ws)), some (.d (.int n)), some (.d T), some (.m 0), some (.d (.str a)), some (.d (.int k))] [some (.lst (l.map .str))] = .nx [some (.d (strsL ws)), some (.d (.int n)), some (.d T), some (.m 0), some (.d (.str a)), some (.d (.int k))] [some (.lst (l1.map .str))] := by
    cases c1 : decide (a = "remove") with
    | false => exact ⟨l, gl, by walk_at "ev"⟩
    | true =>
      cases c2 : decide (1 < (l.length : Int)) with
      | false => exact ⟨l, gl, by walk_at "ev"⟩
      | true =>
        have c3 := of_decide_eq_true c2
        obtain ⟨w, w1, w2⟩ := pick (l := (["task", "table"] : List Str)) (f := D.str) (i := n / 14 % 2) (by omega) (by show n / 14 % 2 < 2; omega)
        have w2 : ∀ S, ixW (.d (.tup [.str "task", .str "table"])) (.d (.int (n / 14 % 2))) S = .ok (.d (.str w)) S := w2
        have lz : 1 < l.length := by omega
        refine ⟨l.set 1 w, good_set gl ((by decide : ∀ w ∈ (["task", "table"] : List Str), okW w) w w1), ?_⟩
        rw [List.map_set]
        clear c3
        walk_at "ev"
  rw [seqB e1]
  clear e1 gl
  obtain ⟨l2, g2, e2⟩ : ∃ l2 : List Str, goodL l2 ∧ evS t13 (.iff (.and (.cons (.cmp .eq (.var 4) (.str "show")) (.one (.cmp .gt (.bi true .len (.cons (.var 3) .nil)) (.int 1))))) (.cons (.setIx (.var 3) (.int 1) (.ix (.tup (.cons (.str "tasks") (.cons (.str "tables") (.cons (.str "questions") .nil)))) (.op true .mod (.op true .fdiv (.var 1) (.int 14)) (.int 3)))) .nil) .nil) [some (.d (strsL ws)), some (.d (.int n)), some (.d T), some (.m 0), some (.d (.str a)), some (.d (.int k))] [some (.lst (l1.map .str))] = .nx [some (.d (strsL ws)), some (.d (.int n)), some (.d T), some (.m 0), some (.d (.str a)), some (.d (.int k))] [some (.lst (l2.map .str))] := by
    cases c1 : decide (a = "show") with
    | false => exact ⟨l1, g1, by walk_at "ev"⟩
    | true =>
      cases c2 : decide (1 < (l1.length : Int)) with
      | false => exact ⟨l1, g1, by walk_at "ev"⟩
      | true =>
        have c3 := of_decide_eq_true c2
        obtain ⟨w, w1, w2⟩ := pick (l := (["tasks", "tables", "questions"] : List Str)) (f := D.str) (i := n / 14 % 3) (by omega) (by show n / 14 % 3 < 3; omega)
        have w2 : ∀ S, ixW (.d (.tup [.str "tasks", .str "tables", .str "questions"])) (.d (.int (n / 14 % 3))) S = .ok (.d (.str w)) S := w2
        have lz : 1 < l1.length := by omega
        refine ⟨l1.set 1 w, good_set g1 ((by decide : ∀ w ∈ (["tasks", "tables", "questions"] : List Str), okW w) w w1), ?_⟩
        rw [List.map_set]
        clear c3
        walk_at "ev"
  rw [seqB e2]
  clear e2 g1
  obtain ⟨l3, g3, e3⟩ : ∃ l3 : List Str, goodL l3 ∧ evS t13 (.iff (.and (.cons (.cmp .eq (.var 4) (.str "ask")) (.one (.cmp .gt (.bi true .len (.cons (.var 3) .nil)) (.int 2))))) (.cons (.setIx (.var 3) (.int 2) (.ix (.tup (.cons (.str "0") (.cons (.str "1") (.cons (.str "999") (.cons (.str "1000") (.cons (.str "1001") (.cons (.bi true .str (.cons (.var 1) .nil)) .nil))))))) (.op true .mod (.op true .fdiv (.var 1) (.int 14)) (.int 6)))) .nil) .nil) [some (.d (strsL ws)), some (.d (.int n)), some (.d T), some (.m 0), some (.d (.str a)), some (.d (.int k))] [some (.lst (l2.map .str))] = .nx [some (.d (strsL ws)), some (.d (.int n)), some (.d T), some (.m 0), some (.d (.str a)), some (.d (.int k))] [some (.lst (l3.map .str))] := by
    cases c1 : decide (a = "ask") with
    | false => exact ⟨l2, g2, by walk_at "ev"⟩
    | true =>
      cases c2 : decide (2 < (l2.length : Int)) with
      | false => exact ⟨l2, g2, by walk_at "ev"⟩
      | true =>
        have c3 := of_decide_eq_true c2
        obtain ⟨w, w1, w2⟩ := pick (l := (["0", "1", "999", "1000", "1001", z] : List Str)) (f := D.str) (i := n / 14 % 6) (by omega) (by show n / 14 % 6 < 6; omega)
        have w2 : ∀ S, ixW (.d (.tup [.str "0", .str "1", .str "999", .str "1000", .str "1001", .str z])) (.d (.int (n / 14 % 6))) S = .ok (.d (.str w)) S := w2
        have lz : 2 < l2.length := by omega
        have wk : okW w := by
          rcases List.mem_cons.mp w1 with rfl | w1
          · decide
          rcases List.mem_cons.mp w1 with rfl | w1
          · decide
          rcases List.mem_cons.mp w1 with rfl | w1
          · decide
          rcases List.mem_cons.mp w1 with rfl | w1
          · decide
          rcases List.mem_cons.mp w1 with rfl | w1
          · decide
          rcases List.mem_cons.mp w1 with rfl | w1
          · exact zk
          · cases w1
        refine ⟨l2.set 2 w, good_set g2 wk, ?_⟩
        rw [List.map_set]
        clear c3 w1
        walk_at "ev"
  rw [seqB e3]
  refine ⟨l3, [none], ?_, g3⟩
  walk_at "ev"
  rfl
def sp (n : Int) : Str := ⟨(List.replicate n.toNat 32).toArray⟩
theorem sp_cps (n : Int) : (sp n).cps.toList = List.replicate n.toNat 32 := rfl
theorem sp_len (n : Int) : (sp n).length = n.toNat := by
  rw [len_cps, sp_cps, List.length_replicate]
theorem sp_mul {n : Int} (h0 : 0 ≤ n) (h1 : n ≤ 1000) : ∀ S, bin true .mul (.d (.str " ")) (.d (.int n)) S = .ok (.d (.str (sp n))) S := fun S => rpt h1 (by omega)
def cpsL (ws : List Str) : List (List Nat) := ws.map fun p => p.cps.toList
theorem okW_free {w : Str} (h : okW w) : 32 ∉ w.cps.toList ∧ w.cps.toList ≠ [] := by
  obtain ⟨h1, _, h3⟩ := h
  refine ⟨fun hc => ?_, fun e => ?_⟩
  · have := h3 32 hc
    omega
  · rw [len_cps, e] at h1
    cases h1
theorem okW_str {w : Str} (h : okW w) : PyData.strOk w = true := by
  unfold PyData.strOk
  rw [← Array.all_toList]
  refine List.all_eq_true.mpr fun c hc => ?_
  have := h.2.2 c hc
  simp
  omega
theorem line_body (p0 p1 : Option W) (N : List Int) (v : Int → Int) (hv : ∀ i : Int, 0 ≤ i → i < 40 → ∀ S, ixW (.d (.lst (intsL N))) (.d (.int i)) S = .ok (.d (.int (v i))) S) (ws : List Str) (w L : Str) (k : Nat) (hk : ws[k]? = some w) (hz : L.length ≤ 500) (gw : okW w) (kz : k < 1000) :
    evB t19 b19_2 [p0, some (.d (.lst (intsL N))), some (.d (strsL ws)), some (.d (.str L)), some (.d (.int k)), none, none, none, none] [] = .nx [p0, some (.d (.lst (intsL N))), some (.d (strsL ws)), some (.d (.str (if k + 1 < ws.length then L ++ w ++ sp (1 + (v 34 + k * v 35) % 3) else L ++ w))), some (.d (.int k)), none, none, none, none] [] := by
  have h1 := fun S => @wl2 ws (k : Int) S w (atN (by omega) (by rw [Int.toNat_natCast]; exact hk))
  have w20 := gw.2.1
  have z1 : L.length + w.length ≤ sizeLine := small (by omega)
  have m1 : mulOk (k : Int) (v 35) = true := by simp [mulOk]; omega
  have sm := sp_mul (n := 1 + (v 34 + k * v 35) % 3) (by omega) (by omega)
  have z2 : (L ++ w).length + (sp (1 + (v 34 + k * v 35) % 3)).length ≤ sizeLine := by
    rw [app_len, sp_len]
    exact small (by omega)
  have v34 := hv 34 (by decide) (by decide)
  have v35 := hv 35 (by decide) (by decide)
  unfold b19_2
  clear hv hk hz gw kz w20
  by_cases c : k + 1 < ws.length
  · have c1 : decide ((k : Int) + 1 < ws.length) = true := decide_eq_true (by omega)
    rw [if_pos c]
    clear c
    walk_at "ev"
  · have c1 : decide ((k : Int) + 1 < ws.length) = false := decide_eq_false (by omega)
    rw [if_neg c]
    clear c
    walk_at "ev"
theorem line_loop (p0 : Option W) (N : List Int) (v : Int → Int) (hv : ∀ i : Int, 0 ≤ i → i < 40 → ∀ S, ixW (.d (.lst (intsL N))) (.d (.int i)) S = .ok (.d (.int (v i))) S) (ws : List Str) (gw : goodL ws) : ∀ (rest pre : List Str) (L : Str), pre ++ rest = ws → (rest ≠ [] → ∀ b, nw 32 (L.cps.toList ++ b) = cpsL pre ++ nw 32 b) → (rest = [] → ∀ m, nw 32 (L.cps.toList ++ List.replicate m 32) = cpsL ws) → L.length ≤ 2 + 30 * pre.length → ∃ L', loopF (evG (.nm 4)) (evK t19 b19_2) [4] 0 ((List.range' pre.length rest.length).map fun (k : Nat) => W.d (.int (k : Int))) [p0, some (.d (.lst (intsL N))), some (.d (strsL ws)), some (.d (.str L)), none, none, none, none, none] [] = .nx [p0, some (.d (.lst (intsL N))), some (.d (strsL ws)), some (.d (.str L')), none, none, none, none, none] [] ∧ (∀ m, nw 32 (L'.cps.toList ++ List.replicate m 32) = cpsL ws) ∧ L'.length ≤ 300
  | [], pre, L, e, hn, hm, hz => ⟨L, by simp [loopF], hm rfl, by
    have := gw.2.1
    rw [← e, List.length_append] at this
    omega⟩
  | w :: r, pre, L, e, hn, hm, hz => by
    have hl : pre.length + (r.length + 1) = ws.length := by rw [← e, List.length_append, List.length_cons]
    have h8 := gw.2.1
    have hk : ws[pre.length]? = some w := by rw [← e, List.getElem?_append_right (Nat.le_refl _), Nat.sub_self]; rfl
    have hw : okW w := gw.2.2 w (List.mem_of_getElem? hk)
    obtain ⟨f1, f2⟩ := okW_free hw
    have body := line_body p0 none N v hv ws w L pre.length hk (by omega) hw (by omega)
    have hn := hn (by simp)
    have w20 := hw.2.1
    have step : ∀ L2 : Str, (if pre.length + 1 < ws.length then L ++ w ++ sp (1 + (v 34 + (pre.length : Int) * v 35) % 3) else L ++ w) = L2 → loopF (evG (.nm 4)) (evK t19 b19_2) [4] 0 ((List.range' pre.length (w :: r).length).map fun (k : Nat) => W.d (.int (k : Int))) [p0, some (.d (.lst (intsL N))), some (.d (strsL ws)), some (.d (.str L)), none, none, none, none, none] [] = loopF (evG (.nm 4)) (evK t19 b19_2) [4] 0 ((List.range' (pre ++ [w]).length r.length).map fun (k : Nat) => W.d (.int (k : Int))) [p0, some (.d (.lst (intsL N))), some (.d (strsL ws)), some (.d (.str L2)), none, none, none, none, none] [] := fun L2 hL => by
      rw [hL] at body
      rw [List.length_cons, List.range'_succ, List.map_cons, loopF_stepK (e1 := [p0, some (.d (.lst (intsL N))), some (.d (strsL ws)), some (.d (.str L)), some (.d (.int pre.length)), none, none, none, none]) (by rw [eg1]; rfl) body (by simp), List.length_append, List.length_singleton]
      rfl
    by_cases c : pre.length + 1 < ws.length
    · rw [step _ (if_pos c)]
      have hr : r ≠ [] := fun e => by rw [e] at hl; simp at hl; omega
      refine line_loop p0 N v hv ws gw r (pre ++ [w]) _ (by rw [← e]; simp) (fun _ b => ?_) (fun e => absurd e hr) ?_
      · have hs : (1 + (v 34 + (pre.length : Int) * v 35) % 3).toNat = ((v 34 + (pre.length : Int) * v 35) % 3).toNat + 1 := by omega
        rw [app_cps, app_cps, sp_cps, List.append_assoc, List.append_assoc, hn, hs, nw_word_sp f1 f2]
        unfold cpsL
        rw [List.map_append]
        simp
      · rw [app_len, app_len, sp_len, List.length_append, List.length_singleton]
        omega
    · rw [step _ (if_neg c)]
      have hr : r = [] := by
        cases r with
        | nil => rfl
        | cons a r => rw [List.length_cons] at hl; omega
      refine line_loop p0 N v hv ws gw r (pre ++ [w]) _ (by rw [← e]; simp) (fun h => absurd hr h) (fun _ m => ?_) ?_
      · rw [app_cps, List.append_assoc, hn, nw_word_end f1 f2, ← e, hr]
        unfold cpsL
        rw [List.map_append]
        rfl
      · rw [app_len, List.length_append, List.length_singleton]
        omega
theorem F19_ok : ∀ ns : List Int, ns.length ≤ 63 → ∃ S, F19 [.d (.ro (ns.map .int))] [] = .ok (.d (.bl true)) S := by
  intro ns hns
  obtain ⟨N, hN, hN1, hN2⟩ := F1_ok ns 40 hns (by decide) (by decide)
  have c1 : ∀ e S, callF F1 [.d (.ro (ns.map .int)), .d (.int 40)] e [] S = .ok (.d (.lst (intsL N))) S := fun e S => callF_d rfl hN
  obtain ⟨v, hvd⟩ : ∃ v : Int → Int, v = fun i => N.getD i.toNat 0 := ⟨_, rfl⟩
  have hv : ∀ i : Int, 0 ≤ i → i < 40 → ∀ S, ixW (.d (.lst (intsL N))) (.d (.int i)) S = .ok (.d (.int (v i))) S := fun i h0 h1 S => by
    have hl : i.toNat < N.length := by rw [hN1]; show i.toNat < 40; omega
    rw [hvd]
    refine ixl (atI_map (atN h0 ?_))
    show N[i.toNat]? = some (N.getD i.toNat 0)
    rw [List.getD_eq_getElem?_getD, List.getElem?_eq_getElem hl]
    rfl
  have hr : ∀ i : Int, 0 ≤ i → i < 40 → 0 ≤ v i ∧ v i < 1009 := fun i h0 h1 => by
    have hl : i.toNat < N.length := by rw [hN1]; show i.toNat < 40; omega
    rw [hvd]
    show 0 ≤ N.getD i.toNat 0 ∧ N.getD i.toNat 0 < 1009
    rw [List.getD_eq_getElem?_getD, List.getElem?_eq_getElem hl]
    exact hN2 _ (List.getElem_mem hl)
  clear hvd hN hN1 hN2
  obtain ⟨Wd, hWd⟩ := Classical.axiomOfChoice (r := fun (k : Nat) (w : Str) => k < 7 → (∀ e S, callF F12 [.d (.int (v (2 * k))), .d (.int (v (2 * k + 1)))] e [] S = .ok (.d (.str w)) S) ∧ okW w) (fun k => by
    by_cases hk : k < 7
    · have a := hr (2 * k) (by omega) (by omega)
      have b := hr (2 * k + 1) (by omega) (by omega)
      obtain ⟨w, e, g⟩ := F12_ok (v (2 * k)) (v (2 * k + 1)) a.1 a.2 b.1
      exact ⟨w, fun _ => ⟨fun e' S => callF_d rfl e, g⟩⟩
    · exact ⟨"", fun h => absurd h hk⟩)
  obtain ⟨c, hc⟩ : ∃ c : Nat, ((c : Nat) : Int) = 1 + v 30 % 7 := ⟨(1 + v 30 % 7).toNat, by omega⟩
  have c7 : 1 ≤ c ∧ c ≤ 7 := by omega
  obtain ⟨W0, hW0⟩ : ∃ l : List Str, l = (List.range c).map Wd := ⟨_, rfl⟩
  have W0l : W0.length = c := by rw [hW0, List.length_map, List.length_range]
  have W0g : ∀ w ∈ W0, okW w := fun w hw => by
    rw [hW0] at hw
    obtain ⟨k, hk, rfl⟩ := List.mem_map.mp hw
    exact (hWd k (by have := List.mem_range.mp hk; omega)).2
  have v30 := hv 30 (by decide) (by decide)
  have v31 := hv 31 (by decide) (by decide)
  have v32 := hv 32 (by decide) (by decide)
  have v33 := hv 33 (by decide) (by decide)
  have v36 := hv 36 (by decide) (by decide)
  have v37 := hv 37 (by decide) (by decide)
  have s33 := sp_mul (n := v 33 % 3) (by omega) (by omega)
  have s36 := sp_mul (n := v 36 % 3) (by omega) (by omega)
  have s37 := sp_mul (n := v 37 % 4) (by omega) (by omega)
  have rk : rngOk (c : Int) = true := rsz _ (by omega) (by omega)
  have n30 : (1 + v 30 % 7) = (c : Int) := hc.symm
  have e2 : ∀ p0 S, loopC (evG (.nm 4)) (evTK t19 .yes) (evEK t19 (.call 12 (.cons (.ix (.var 1) (.op true .mul (.int 2) (.var 4))) (.cons (.ix (.var 1) (.op true .add (.op true .mul (.int 2) (.var 4)) (.int 1))) .nil)) [])) (rngL 0 c) [p0, some (.d (.lst (intsL N))), none, none, none, none, none, none, none] [] S = .ok (W0.map .str) S := fun p0 S => by
    rw [hW0, List.map_map]
    refine (loopC_all0 (g := fun k : Nat => W.d (.int (0 + (k : Int)))) (f := fun k => D.str (Wd k)) (fun a ha => ⟨_, rfl, rfl, ?_⟩) (by rw [List.length_range]; exact small (by omega)))
    have ha := List.mem_range.mp ha
    have ca := (hWd a (by omega)).1
    have m1 : mulOk 2 (0 + (a : Int)) = true := by simp [mulOk]
    have x1 := hv (2 * (a : Int)) (by omega) (by omega)
    have x2 := hv (2 * (a : Int) + 1) (by omega) (by omega)
    clear hv hr hWd hW0 W0l W0g c1
    rw [Int.zero_add] at m1 ⊢
    walk_at "ev"
  suffices h : ∃ S', evB t19 b19 [some (.d (.ro (ns.map .int))), none, none, none, none, none, none, none, none] [] = .rt (.d (.bl true)) S' by
    obtain ⟨S', h⟩ := h
    exact ⟨[], run_rt rfl h⟩
  refine ⟨[], ?_⟩
  unfold b19
  rw [seqB (e2 := [some (.d (.ro (ns.map .int))), some (.d (.lst (intsL N))), none, none, none, none, none, none, none]) (S2 := []) (by clear hWd hr hv; walk_at "ev"),
    seqB (e2 := [some (.d (.ro (ns.map .int))), some (.d (.lst (intsL N))), some (.d (strsL W0)), none, none, none, none, none, none]) (S2 := []) (by
      have e2' := e2 (some (.d (.ro (ns.map .int))))
      have tn : ((c : Int)).toNat = c := rfl
      clear hWd hr hv hc
      walk_at "ev"
      rfl)]
  clear hWd hW0 e2
  obtain ⟨ws, gw, e3⟩ : ∃ ws, goodL ws ∧ evS t19 (.iff (.cmp .gt (.op true .mod (.ix (.var 1) (.int 31)) (.int 3)) (.int 0)) (.cons (.set 2 (.call 13 (.cons (.var 2) (.cons (.ix (.var 1) (.int 32)) .nil)) [])) .nil) .nil) [some (.d (.ro (ns.map .int))), some (.d (.lst (intsL N))), some (.d (strsL W0)), none, none, none, none, none, none] [] = .nx [some (.d (.ro (ns.map .int))), some (.d (.lst (intsL N))), some (.d (strsL ws)), none, none, none, none, none, none] [] := by
    cases c3 : decide (0 < v 31 % 3) with
    | false =>
      refine ⟨W0, ⟨fun e => ?_, by omega, W0g⟩, ?_⟩
      · rw [e] at W0l
        have : 0 = c := W0l
        omega
      · clear hr hv hc
        walk_at "ev"
    | true =>
      have b := hr 32 (by decide) (by decide)
      obtain ⟨zs, e, g⟩ := F13_ok W0 (v 32) b.1 b.2 W0g (by omega)
      have ce : ∀ e S, callF F13 [.d (strsL W0), .d (.int (v 32))] e [] S = .ok (.d (strsL zs)) S := fun e' S => callF_d rfl e
      refine ⟨zs, g, ?_⟩
      clear hr hv hc
      walk_at "ev"
  rw [seqB e3]
  clear e3 W0g W0l
  have w8 := gw.2.1
  have rw8 : rngOk (ws.length : Int) = true := rsz _ (by omega) (by omega)
  obtain ⟨L, lp, hL, Lz⟩ := line_loop (some (.d (.ro (ns.map .int)))) N v hv ws gw ws [] (sp (v 33 % 3)) rfl (fun _ b => by rw [sp_cps, nw_sp]; rfl) (fun e => absurd e gw.1) (by rw [sp_len]; omega)
  have rg : (List.range' ([] : List Str).length ws.length).map (fun (k : Nat) => W.d (.int (k : Int))) = rngL 0 ws.length := by
    unfold rngL
    rw [List.length_nil, ← List.range_eq_range']
    refine List.map_congr_left fun k _ => ?_
    rw [Int.zero_add]
  rw [rg] at lp
  have tn : ((ws.length : Int)).toNat = ws.length := rfl
  have z36 : L.length + (sp (v 36 % 3)).length ≤ sizeLine := by
    rw [sp_len]
    exact small (by omega)
  have f2 : ∀ e S, callF F2 [.d (.str (L ++ sp (v 36 % 3)))] e [] S = .ok (.d (strsL ws)) S := fun e S => by
    rw [callF_d rfl (F2_ok _ (by rw [app_len, sp_len]; omega)), wordsOf_eq (by rw [app_cps, sp_cps]; exact hL _)]
  have f2' : ∀ e S, callF F2 [.d (.str (sp (v 37 % 4)))] e [] S = .ok (.d (.lst [])) S := fun e S => by
    rw [callF_d rfl (F2_ok _ (by rw [sp_len]; omega)), wordsOf_eq (ws := []) (by
      have := nw_sp 32 [] (v 37 % 4).toNat
      rw [List.append_nil] at this
      rw [sp_cps, this]
      rfl)]
    rfl
  have isl : ∀ S, isiW "list" (.d (strsL ws)) S = some true := fun S => rfl
  have sok : okS ws := fun w hw => okW_str (gw.2.2 w hw)
  have ne1 : ∀ S, cmpW .ne (.d (strsL ws)) (.d (strsL ws)) S = some false := fun S => by
    rw [wl7 sok sok]
    simp
  have ne2 : ∀ S, cmpW .ne (.d (.lst [])) (.d (.lst [])) S = some false := fun S => by
    have := @wl7 [] [] S (fun _ h => by cases h) (fun _ h => by cases h)
    exact this
  have okws : okWs ws := ⟨by omega, fun w hw => by have := (gw.2.2 w hw).2.1; omega⟩
  have scan : ∀ E : Env', E.length = 9 → E[6]? = some none → loopF (evG (.nm 6)) (evK t19 b19_1) [6] 0 (ws.map fun w => W.d (.str w)) E [] = .nx E [] := fun E hE h6 => by
    rw [loopF_scan (p := fun _ => true) (out := .rt (.d (.bl false)) []) (.inl ⟨_, _, rfl⟩) (by simp) (fun a ha => ⟨E.set 6 (some (.d (.str a))), by rw [eg1, if_pos (by omega)], ?_⟩) (fun a e1 q => ?_)]
    · rw [if_pos (List.all_eq_true.mpr fun _ _ => rfl)]
    · have ca : ∀ e S, callF F5 [.d (.str a)] e [] S = .ok (.d (.bl (isNum a))) S := fun e S => callF_d rfl (F5_ok a (okws.2 a ha))
      have cb : ∀ e S, callF F14 [.d (.str a)] e [] S = .ok (.d (.bl (isNum a))) S := fun e S => callF_d rfl (F14_ok a (okws.2 a ha))
      have g6 : getE (E.set 6 (some (.d (.str a)))) 6 [] = .ok (.d (.str a)) [] := by
        unfold getE
        rw [List.getElem?_set_self (by omega)]
      have dn : decide (isNum a = isNum a) = true := by simp
      rw [if_pos rfl]
      unfold b19_1
      clear c1 f2 f2' lp rg isl ne1 ne2 hL okws sok gw hr hv h6
      walk_at "ev"
    · rw [eg1, if_pos (by omega)] at q
      have q := Option.some.inj q
      rw [← q]
      show (E.set 6 (some (.d (.str a)))).set 6 none = E
      rw [List.set_set]
      refine List.ext_getElem? fun i => ?_
      by_cases hi : i = 6
      · subst hi
        rw [List.getElem?_set_self (by omega), h6]
      · rw [List.getElem?_set_ne (by omega)]
  obtain ⟨w0, r, hws⟩ : ∃ w0 r, ws = w0 :: r := by
    cases ws with
    | nil => exact absurd rfl gw.1
    | cons a r => exact ⟨a, r, rfl⟩
  have c8 : ∀ e S, callF F8 [.d (strsL ws)] e [] S = .ok (.d (.bl (cmd w0 r))) S := fun e S => by rw [hws]; exact callF_d rfl (F8_ok w0 r (hws ▸ okws))
  have c11 : ∀ e S, callF F11 [.d (strsL ws)] e [] S = .ok (.d (.bl (blkP w0 r))) S := fun e S => by rw [hws]; exact callF_d rfl (F11_ok w0 r (hws ▸ okws) (hws ▸ sok))
  have c17 : ∀ e S, callF F17 [.d (strsL ws)] e [] S = .ok (.d (.bl (cmd w0 r))) S := fun e S => by rw [hws]; exact callF_d rfl (F17_ok w0 r (hws ▸ okws))
  have c18 : ∀ e S, callF F18 [.d (strsL ws)] e [] S = .ok (.d (.bl (blkP w0 r))) S := fun e S => by rw [hws]; exact callF_d rfl (F18_ok w0 r (hws ▸ okws))
  have ib : ∀ b S, isiW "bool" (.d (.bl b)) S = some true := fun b S => rfl
  have d1 : decide (cmd w0 r = cmd w0 r) = true := by simp
  have d2 : decide (blkP w0 r = blkP w0 r) = true := by simp
  have sc := fun (x : Str) (y : D) => scan [some (.d (.ro (ns.map .int))), some (.d (.lst (intsL N))), some (.d (strsL ws)), some (.d (.str x)), none, some (.d y), none, none, none] rfl rfl
  clear hv hr hws okws sok gw hL scan rg c7
  walk_at "ev"
end En.K95
namespace En.K95
open PySem PySem.Spec PyProof.Rows L2 En
def top (i : Nat) : Stmt := PySem.Challenge.pw_neverlate_k95_words_of_a_session.main.body.getD i (.Pass ⟨0, 0, 0, 0⟩)
def mkD (n : Str) (s : Stmt) : He.DefD := ⟨(n, none), n, n, defArgs s, defBody s, defScope s, [], []⟩
def d0 : He.DefD := mkD "_law_row" (top 21)
def d1 : He.DefD := mkD "_law_numbers" (top 22)
def d2 : He.DefD := mkD "split_words" (top 11)
def d3 : He.DefD := mkD "is_name" (top 3)
def d4 : He.DefD := mkD "are_names" (top 13)
def d5 : He.DefD := mkD "is_number" (top 12)
def d6 : He.DefD := mkD "are_numbers" (top 14)
def d7 : He.DefD := mkD "is_horizon" (top 18)
def d8 : He.DefD := mkD "is_command" (top 19)
def d9 : He.DefD := mkD "is_kind_line" (top 15)
def d10 : He.DefD := mkD "is_way_line" (top 16)
def d11 : He.DefD := mkD "is_block_line" (top 17)
def d12 : He.DefD := mkD "_law_word" (top 23)
def d13 : He.DefD := mkD "_law_formed" (top 24)
def d14 : He.DefD := mkD "_law_is_number" (top 26)
def d15 : He.DefD := mkD "_law_is_name" (top 25)
def d16 : He.DefD := mkD "_law_all" (top 27)
def d17 : He.DefD := mkD "_law_command" (top 28)
def d18 : He.DefD := mkD "_law_block" (top 29)
def d19 : He.DefD := mkD "law" (top 30)
def fn : List He.DefD := [d0, d1, d2, d3, d4, d5, d6, d7, d8, d9, d10, d11, d12, d13, d14, d15, d16, d17, d18, d19]
def fa : List He.Fa := [.glo "_law_row", .glo "_law_numbers", .glo "split_words", .glo "is_name", .glo "are_names", .glo "is_number", .glo "are_numbers", .glo "is_horizon", .glo "is_command", .glo "is_kind_line", .glo "is_way_line", .glo "is_block_line", .glo "_law_word", .glo "_law_formed", .glo "_law_is_number", .glo "_law_is_name", .glo "_law_all", .glo "_law_command", .glo "_law_block", .glo "law"]
def fr : List He.Fa := fnames.map .free
def g0 : Gs := ⟨[], ["MOST_NAME_CHARS", "NAME_CHARS", "MOST_DIGITS", "DIGITS", "MOST_HORIZON", "PLAIN", "REMOVED", "SHOWN"]⟩
def g1 : Gs := ⟨[⟨"_law_row", 2⟩], g0.cons⟩
def g2 : Gs := ⟨[⟨"_law_row", 2⟩, ⟨"_law_numbers", 2⟩], g0.cons⟩
def g3 : Gs := ⟨[⟨"_law_row", 2⟩, ⟨"_law_numbers", 2⟩, ⟨"split_words", 1⟩], g0.cons⟩
def g4 : Gs := ⟨[⟨"_law_row", 2⟩, ⟨"_law_numbers", 2⟩, ⟨"split_words", 1⟩, ⟨"is_name", 1⟩], g0.cons⟩
def g5 : Gs := ⟨[⟨"_law_row", 2⟩, ⟨"_law_numbers", 2⟩, ⟨"split_words", 1⟩, ⟨"is_name", 1⟩, ⟨"are_names", 1⟩], g0.cons⟩
def g6 : Gs := ⟨[⟨"_law_row", 2⟩, ⟨"_law_numbers", 2⟩, ⟨"split_words", 1⟩, ⟨"is_name", 1⟩, ⟨"are_names", 1⟩, ⟨"is_number", 1⟩], g0.cons⟩
def g7 : Gs := ⟨[⟨"_law_row", 2⟩, ⟨"_law_numbers", 2⟩, ⟨"split_words", 1⟩, ⟨"is_name", 1⟩, ⟨"are_names", 1⟩, ⟨"is_number", 1⟩, ⟨"are_numbers", 1⟩], g0.cons⟩
def g8 : Gs := ⟨[⟨"_law_row", 2⟩, ⟨"_law_numbers", 2⟩, ⟨"split_words", 1⟩, ⟨"is_name", 1⟩, ⟨"are_names", 1⟩, ⟨"is_number", 1⟩, ⟨"are_numbers", 1⟩, ⟨"is_horizon", 1⟩], g0.cons⟩
def g9 : Gs := ⟨[⟨"_law_row", 2⟩, ⟨"_law_numbers", 2⟩, ⟨"split_words", 1⟩, ⟨"is_name", 1⟩, ⟨"are_names", 1⟩, ⟨"is_number", 1⟩, ⟨"are_numbers", 1⟩, ⟨"is_horizon", 1⟩, ⟨"is_command", 1⟩], g0.cons⟩
def g10 : Gs := ⟨[⟨"_law_row", 2⟩, ⟨"_law_numbers", 2⟩, ⟨"split_words", 1⟩, ⟨"is_name", 1⟩, ⟨"are_names", 1⟩, ⟨"is_number", 1⟩, ⟨"are_numbers", 1⟩, ⟨"is_horizon", 1⟩, ⟨"is_command", 1⟩, ⟨"is_kind_line", 1⟩], g0.cons⟩
def g11 : Gs := ⟨[⟨"_law_row", 2⟩, ⟨"_law_numbers", 2⟩, ⟨"split_words", 1⟩, ⟨"is_name", 1⟩, ⟨"are_names", 1⟩, ⟨"is_number", 1⟩, ⟨"are_numbers", 1⟩, ⟨"is_horizon", 1⟩, ⟨"is_command", 1⟩, ⟨"is_kind_line", 1⟩, ⟨"is_way_line", 1⟩], g0.cons⟩
def g12 : Gs := ⟨[⟨"_law_row", 2⟩, ⟨"_law_numbers", 2⟩, ⟨"split_words", 1⟩, ⟨"is_name", 1⟩, ⟨"are_names", 1⟩, ⟨"is_number", 1⟩, ⟨"are_numbers", 1⟩, ⟨"is_horizon", 1⟩, ⟨"is_command", 1⟩, ⟨"is_kind_line", 1⟩, ⟨"is_way_line", 1⟩, ⟨"is_block_line", 1⟩], g0.cons⟩
def g13 : Gs := ⟨[⟨"_law_row", 2⟩, ⟨"_law_numbers", 2⟩, ⟨"split_words", 1⟩, ⟨"is_name", 1⟩, ⟨"are_names", 1⟩, ⟨"is_number", 1⟩, ⟨"are_numbers", 1⟩, ⟨"is_horizon", 1⟩, ⟨"is_command", 1⟩, ⟨"is_kind_line", 1⟩, ⟨"is_way_line", 1⟩, ⟨"is_block_line", 1⟩, ⟨"_law_word", 2⟩], g0.cons⟩
def g14 : Gs := ⟨[⟨"_law_row", 2⟩, ⟨"_law_numbers", 2⟩, ⟨"split_words", 1⟩, ⟨"is_name", 1⟩, ⟨"are_names", 1⟩, ⟨"is_number", 1⟩, ⟨"are_numbers", 1⟩, ⟨"is_horizon", 1⟩, ⟨"is_command", 1⟩, ⟨"is_kind_line", 1⟩, ⟨"is_way_line", 1⟩, ⟨"is_block_line", 1⟩, ⟨"_law_word", 2⟩, ⟨"_law_formed", 2⟩], g0.cons⟩
def g15 : Gs := ⟨[⟨"_law_row", 2⟩, ⟨"_law_numbers", 2⟩, ⟨"split_words", 1⟩, ⟨"is_name", 1⟩, ⟨"are_names", 1⟩, ⟨"is_number", 1⟩, ⟨"are_numbers", 1⟩, ⟨"is_horizon", 1⟩, ⟨"is_command", 1⟩, ⟨"is_kind_line", 1⟩, ⟨"is_way_line", 1⟩, ⟨"is_block_line", 1⟩, ⟨"_law_word", 2⟩, ⟨"_law_formed", 2⟩, ⟨"_law_is_number", 1⟩], g0.cons⟩
def g16 : Gs := ⟨[⟨"_law_row", 2⟩, ⟨"_law_numbers", 2⟩, ⟨"split_words", 1⟩, ⟨"is_name", 1⟩, ⟨"are_names", 1⟩, ⟨"is_number", 1⟩, ⟨"are_numbers", 1⟩, ⟨"is_horizon", 1⟩, ⟨"is_command", 1⟩, ⟨"is_kind_line", 1⟩, ⟨"is_way_line", 1⟩, ⟨"is_block_line", 1⟩, ⟨"_law_word", 2⟩, ⟨"_law_formed", 2⟩, ⟨"_law_is_number", 1⟩, ⟨"_law_is_name", 1⟩], g0.cons⟩
def g17 : Gs := ⟨[⟨"_law_row", 2⟩, ⟨"_law_numbers", 2⟩, ⟨"split_words", 1⟩, ⟨"is_name", 1⟩, ⟨"are_names", 1⟩, ⟨"is_number", 1⟩, ⟨"are_numbers", 1⟩, ⟨"is_horizon", 1⟩, ⟨"is_command", 1⟩, ⟨"is_kind_line", 1⟩, ⟨"is_way_line", 1⟩, ⟨"is_block_line", 1⟩, ⟨"_law_word", 2⟩, ⟨"_law_formed", 2⟩, ⟨"_law_is_number", 1⟩, ⟨"_law_is_name", 1⟩, ⟨"_law_all", 2⟩], g0.cons⟩
def g18 : Gs := ⟨[⟨"_law_row", 2⟩, ⟨"_law_numbers", 2⟩, ⟨"split_words", 1⟩, ⟨"is_name", 1⟩, ⟨"are_names", 1⟩, ⟨"is_number", 1⟩, ⟨"are_numbers", 1⟩, ⟨"is_horizon", 1⟩, ⟨"is_command", 1⟩, ⟨"is_kind_line", 1⟩, ⟨"is_way_line", 1⟩, ⟨"is_block_line", 1⟩, ⟨"_law_word", 2⟩, ⟨"_law_formed", 2⟩, ⟨"_law_is_number", 1⟩, ⟨"_law_is_name", 1⟩, ⟨"_law_all", 2⟩, ⟨"_law_command", 1⟩], g0.cons⟩
def g19 : Gs := ⟨[⟨"_law_row", 2⟩, ⟨"_law_numbers", 2⟩, ⟨"split_words", 1⟩, ⟨"is_name", 1⟩, ⟨"are_names", 1⟩, ⟨"is_number", 1⟩, ⟨"are_numbers", 1⟩, ⟨"is_horizon", 1⟩, ⟨"is_command", 1⟩, ⟨"is_kind_line", 1⟩, ⟨"is_way_line", 1⟩, ⟨"is_block_line", 1⟩, ⟨"_law_word", 2⟩, ⟨"_law_formed", 2⟩, ⟨"_law_is_number", 1⟩, ⟨"_law_is_name", 1⟩, ⟨"_law_all", 2⟩, ⟨"_law_command", 1⟩, ⟨"_law_block", 1⟩], g0.cons⟩
def g20 : Gs := ⟨[⟨"_law_row", 2⟩, ⟨"_law_numbers", 2⟩, ⟨"split_words", 1⟩, ⟨"is_name", 1⟩, ⟨"are_names", 1⟩, ⟨"is_number", 1⟩, ⟨"are_numbers", 1⟩, ⟨"is_horizon", 1⟩, ⟨"is_command", 1⟩, ⟨"is_kind_line", 1⟩, ⟨"is_way_line", 1⟩, ⟨"is_block_line", 1⟩, ⟨"_law_word", 2⟩, ⟨"_law_formed", 2⟩, ⟨"_law_is_number", 1⟩, ⟨"_law_is_name", 1⟩, ⟨"_law_all", 2⟩, ⟨"_law_command", 1⟩, ⟨"_law_block", 1⟩, ⟨"law", 1⟩], g0.cons⟩
theorem chk0 : chkD g0 N0 2 d0.scope b0 d0.body = true := by decide +kernel
theorem chk1 : chkD g1 N1 2 d1.scope b1 d1.body = true := by decide +kernel
theorem chk2 : chkD g2 N2 1 d2.scope b2 d2.body = true := by decide +kernel
theorem chk3 : chkD g3 N3 1 d3.scope b3 d3.body = true := by decide +kernel
theorem chk4 : chkD g4 N4 1 d4.scope b4 d4.body = true := by decide +kernel
theorem chk5 : chkD g5 N5 1 d5.scope b5 d5.body = true := by decide +kernel
theorem chk6 : chkD g6 N6 1 d6.scope b6 d6.body = true := by decide +kernel
theorem chk7 : chkD g7 N7 1 d7.scope b7 d7.body = true := by decide +kernel
theorem chk8 : chkD g8 N8 1 d8.scope b8 d8.body = true := by decide +kernel
theorem chk9 : chkD g9 N9 1 d9.scope b9 d9.body = true := by decide +kernel
theorem chk10 : chkD g10 N10 1 d10.scope b10 d10.body = true := by decide +kernel
theorem chk11 : chkD g11 N11 1 d11.scope b11 d11.body = true := by decide +kernel
theorem chk12 : chkD g12 N12 2 d12.scope b12 d12.body = true := by decide +kernel
theorem chk13 : chkD g13 N13 2 d13.scope b13 d13.body = true := by decide +kernel
theorem chk14 : chkD g14 N14 1 d14.scope b14 d14.body = true := by decide +kernel
theorem chk15 : chkD g15 N15 1 d15.scope b15 d15.body = true := by decide +kernel
theorem chk16 : chkD g16 N16 2 d16.scope b16 d16.body = true := by decide +kernel
theorem chk17 : chkD g17 N17 1 d17.scope b17 d17.body = true := by decide +kernel
theorem chk18 : chkD g18 N18 1 d18.scope b18 d18.body = true := by decide +kernel
theorem chk19 : chkD g19 N19 1 d19.scope b19 d19.body = true := by decide +kernel
def tabs : List He.Tab := [(fun K => He.ga K "PLAIN", ["task", "end", "drop", "undo", "redo", "answer", "answers", "system"])]
def exB (K : PySem.W.Frag) : Bool := (fr.all fun f => f.ok K) && ((([("MOST_NAME_CHARS", .int (12)), ("NAME_CHARS", .str "abcdefghijklmnopqrstuvwxyz0123456789"), ("MOST_DIGITS", .int (7)), ("DIGITS", .str "0123456789"), ("MOST_HORIZON", .int (1000)), ("REMOVED", .tup [.str "task", .str "table"]), ("SHOWN", .tup [.str "tasks", .str "tables", .str "questions"])] : List (Str × D)).all fun p => conB K p) && ([kdB K "PLAIN" ["task", "end", "drop", "undo", "redo", "answer", "answers", "system"] [1, 0, 1, 0, 0, 1, 0, 1]] : List Bool).all id)
def loose0 : List PySem.Str := ["NAME_CHARS", "MOST_NAME_CHARS", "is_name", "DIGITS", "MOST_DIGITS", "MOST_HORIZON", "PLAIN", "SHOWN", "REMOVED", "split_words", "is_number", "are_names", "are_numbers", "is_kind_line", "is_way_line", "is_block_line", "is_horizon", "is_command", "_law_row", "_law_numbers"]
def loose1 : List PySem.Str := ["_law_word", "_law_formed", "_law_is_name", "_law_is_number", "_law_all", "_law_command", "_law_block"]
def loose : List PySem.Str := loose0 ++ loose1
abbrev R : PySem.W.OpenRow := PySem.W.OpenLaw.row PySem.Challenge.rw_neverlate_k95_words_of_a_session
abbrev hk : PySem.W.Hook := He.hookX 5 fa fn tabs [] exB
def ob (s : PySem.W.SharedT) : He.AlX := He.obsX 5 fa fn tabs [] exB (HandSHeadRun.getT s)
theorem ob_eq (s : PySem.W.SharedT) : ob s = hk.obs s.abs := He.obsX_eq (HandSHeadRun.getT_eq s)
theorem head_run (w : World) : HandSHeadRun.RunEq R (PySem.W.view R.prog [30]) hk ob 4000 loose w := by
  refine PySem.W.byRow2 "special-get-raises" (P := fun w => HandSHeadRun.RunEq R (PySem.W.view R.prog [30]) hk ob 4000 loose w) (fun w => ?_) (fun w => ?_) w
  · intro os
    kernel_rfl
  · intro os
    kernel_rfl
section
variable {P : Program} {w : World} {K : PySem.W.Frag} {h : Heap} {mg : Str → Option Value} {base : Heap}
theorem tops (X : K.In h) (G : h.Ns mainGlobals mg) (c : He.SaysX fa fn tabs [] exB w h K) : Tops P w K mg base g19 t19 19 := by
  obtain ⟨e1, e2⟩ := ba c.more
  obtain ⟨e2, e3⟩ := ba e2
  have T0 : Tops P w K mg base ⟨[], []⟩ ⟨[], []⟩ 0 := Tops.nil fun x hx => He.free_ok X G (List.all_eq_true.mp e1 _ (List.mem_map_of_mem hx))
  have T1 := T0.con (conB_ok (x := "MOST_NAME_CHARS") (d := .int (12)) X G (List.all_eq_true.mp e2 _ (List.mem_of_getElem? (i := 0) rfl)))
  have T2 := T1.con (conB_ok (x := "NAME_CHARS") (d := .str "abcdefghijklmnopqrstuvwxyz0123456789") X G (List.all_eq_true.mp e2 _ (List.mem_of_getElem? (i := 1) rfl)))
  have T3 := T2.con (conB_ok (x := "MOST_DIGITS") (d := .int (7)) X G (List.all_eq_true.mp e2 _ (List.mem_of_getElem? (i := 2) rfl)))
  have T4 := T3.con (conB_ok (x := "DIGITS") (d := .str "0123456789") X G (List.all_eq_true.mp e2 _ (List.mem_of_getElem? (i := 3) rfl)))
  have T5 := T4.con (conB_ok (x := "MOST_HORIZON") (d := .int (1000)) X G (List.all_eq_true.mp e2 _ (List.mem_of_getElem? (i := 4) rfl)))
  have T6 := T5.con (kdB_ok (x := "PLAIN") (ks := ["task", "end", "drop", "undo", "redo", "answer", "answers", "system"]) (l := [1, 0, 1, 0, 0, 1, 0, 1]) X G (List.all_eq_true.mp e3 _ (List.mem_of_getElem? (i := 0) rfl)) (c.t.tab 0 rfl))
  have T7 := T6.con (conB_ok (x := "REMOVED") (d := .tup [.str "task", .str "table"]) X G (List.all_eq_true.mp e2 _ (List.mem_of_getElem? (i := 5) rfl)))
  have T8 := T7.con (conB_ok (x := "SHOWN") (d := .tup [.str "tasks", .str "tables", .str "questions"]) X G (List.all_eq_true.mp e2 _ (List.mem_of_getElem? (i := 6) rfl)))
  have U0 : Tops P w K mg base g0 t0 0 := T8
  have U1 : Tops P w K mg base g1 t1 1 := by
    obtain ⟨fd, F⟩ := c.t.d.def_ 0 (d := d0) rfl
    exact U0.def_ F chk0 (He.glo_ok X G (c.t.d.fact 0 (f := .glo "_law_row") rfl)) rfl (fun _ _ _ _ _ _ us hl => match us, hl with | [_, _], _ => rfl)
  have U2 : Tops P w K mg base g2 t2 2 := by
    obtain ⟨fd, F⟩ := c.t.d.def_ 1 (d := d1) rfl
    exact U1.def_ F chk1 (He.glo_ok X G (c.t.d.fact 1 (f := .glo "_law_numbers") rfl)) rfl (fun _ _ _ _ _ _ us hl => match us, hl with | [_, _], _ => rfl)
  have U3 : Tops P w K mg base g3 t3 3 := by
    obtain ⟨fd, F⟩ := c.t.d.def_ 2 (d := d2) rfl
    exact U2.def_ F chk2 (He.glo_ok X G (c.t.d.fact 2 (f := .glo "split_words") rfl)) rfl (fun _ _ _ _ _ _ us hl => match us, hl with | [_], _ => rfl)
  have U4 : Tops P w K mg base g4 t4 4 := by
    obtain ⟨fd, F⟩ := c.t.d.def_ 3 (d := d3) rfl
    exact U3.def_ F chk3 (He.glo_ok X G (c.t.d.fact 3 (f := .glo "is_name") rfl)) rfl (fun _ _ _ _ _ _ us hl => match us, hl with | [_], _ => rfl)
  have U5 : Tops P w K mg base g5 t5 5 := by
    obtain ⟨fd, F⟩ := c.t.d.def_ 4 (d := d4) rfl
    exact U4.def_ F chk4 (He.glo_ok X G (c.t.d.fact 4 (f := .glo "are_names") rfl)) rfl (fun _ _ _ _ _ _ us hl => match us, hl with | [_], _ => rfl)
  have U6 : Tops P w K mg base g6 t6 6 := by
    obtain ⟨fd, F⟩ := c.t.d.def_ 5 (d := d5) rfl
    exact U5.def_ F chk5 (He.glo_ok X G (c.t.d.fact 5 (f := .glo "is_number") rfl)) rfl (fun _ _ _ _ _ _ us hl => match us, hl with | [_], _ => rfl)
  have U7 : Tops P w K mg base g7 t7 7 := by
    obtain ⟨fd, F⟩ := c.t.d.def_ 6 (d := d6) rfl
    exact U6.def_ F chk6 (He.glo_ok X G (c.t.d.fact 6 (f := .glo "are_numbers") rfl)) rfl (fun _ _ _ _ _ _ us hl => match us, hl with | [_], _ => rfl)
  have U8 : Tops P w K mg base g8 t8 8 := by
    obtain ⟨fd, F⟩ := c.t.d.def_ 7 (d := d7) rfl
    exact U7.def_ F chk7 (He.glo_ok X G (c.t.d.fact 7 (f := .glo "is_horizon") rfl)) rfl (fun _ _ _ _ _ _ us hl => match us, hl with | [_], _ => rfl)
  have U9 : Tops P w K mg base g9 t9 9 := by
    obtain ⟨fd, F⟩ := c.t.d.def_ 8 (d := d8) rfl
    exact U8.def_ F chk8 (He.glo_ok X G (c.t.d.fact 8 (f := .glo "is_command") rfl)) rfl (fun _ _ _ _ _ _ us hl => match us, hl with | [_], _ => rfl)
  have U10 : Tops P w K mg base g10 t10 10 := by
    obtain ⟨fd, F⟩ := c.t.d.def_ 9 (d := d9) rfl
    exact U9.def_ F chk9 (He.glo_ok X G (c.t.d.fact 9 (f := .glo "is_kind_line") rfl)) rfl (fun _ _ _ _ _ _ us hl => match us, hl with | [_], _ => rfl)
  have U11 : Tops P w K mg base g11 t11 11 := by
    obtain ⟨fd, F⟩ := c.t.d.def_ 10 (d := d10) rfl
    exact U10.def_ F chk10 (He.glo_ok X G (c.t.d.fact 10 (f := .glo "is_way_line") rfl)) rfl (fun _ _ _ _ _ _ us hl => match us, hl with | [_], _ => rfl)
  have U12 : Tops P w K mg base g12 t12 12 := by
    obtain ⟨fd, F⟩ := c.t.d.def_ 11 (d := d11) rfl
    exact U11.def_ F chk11 (He.glo_ok X G (c.t.d.fact 11 (f := .glo "is_block_line") rfl)) rfl (fun _ _ _ _ _ _ us hl => match us, hl with | [_], _ => rfl)
  have U13 : Tops P w K mg base g13 t13 13 := by
    obtain ⟨fd, F⟩ := c.t.d.def_ 12 (d := d12) rfl
    exact U12.def_ F chk12 (He.glo_ok X G (c.t.d.fact 12 (f := .glo "_law_word") rfl)) rfl (fun _ _ _ _ _ _ us hl => match us, hl with | [_, _], _ => rfl)
  have U14 : Tops P w K mg base g14 t14 14 := by
    obtain ⟨fd, F⟩ := c.t.d.def_ 13 (d := d13) rfl
    exact U13.def_ F chk13 (He.glo_ok X G (c.t.d.fact 13 (f := .glo "_law_formed") rfl)) rfl (fun _ _ _ _ _ _ us hl => match us, hl with | [_, _], _ => rfl)
  have U15 : Tops P w K mg base g15 t15 15 := by
    obtain ⟨fd, F⟩ := c.t.d.def_ 14 (d := d14) rfl
    exact U14.def_ F chk14 (He.glo_ok X G (c.t.d.fact 14 (f := .glo "_law_is_number") rfl)) rfl (fun _ _ _ _ _ _ us hl => match us, hl with | [_], _ => rfl)
  have U16 : Tops P w K mg base g16 t16 16 := by
    obtain ⟨fd, F⟩ := c.t.d.def_ 15 (d := d15) rfl
    exact U15.def_ F chk15 (He.glo_ok X G (c.t.d.fact 15 (f := .glo "_law_is_name") rfl)) rfl (fun _ _ _ _ _ _ us hl => match us, hl with | [_], _ => rfl)
  have U17 : Tops P w K mg base g17 t17 17 := by
    obtain ⟨fd, F⟩ := c.t.d.def_ 16 (d := d16) rfl
    exact U16.def_ F chk16 (He.glo_ok X G (c.t.d.fact 16 (f := .glo "_law_all") rfl)) rfl (fun _ _ _ _ _ _ us hl => match us, hl with | [_, _], _ => rfl)
  have U18 : Tops P w K mg base g18 t18 18 := by
    obtain ⟨fd, F⟩ := c.t.d.def_ 17 (d := d17) rfl
    exact U17.def_ F chk17 (He.glo_ok X G (c.t.d.fact 17 (f := .glo "_law_command") rfl)) rfl (fun _ _ _ _ _ _ us hl => match us, hl with | [_], _ => rfl)
  have U19 : Tops P w K mg base g19 t19 19 := by
    obtain ⟨fd, F⟩ := c.t.d.def_ 18 (d := d18) rfl
    exact U18.def_ F chk18 (He.glo_ok X G (c.t.d.fact 18 (f := .glo "_law_block") rfl)) rfl (fun _ _ _ _ _ _ us hl => match us, hl with | [_], _ => rfl)
  exact U19
end
/-- the plain law -/
def Plain : Prop := ∀ ns : List Int, ns.length ≤ 63 → ∃ S, F19 [.d (.ro (ns.map .int))] [] = .ok (.d (.bl true)) S
open PySem PySem.W PySem.Calls PyProof.Rows
theorem holds (plain : Plain) : PySem.Challenge.rw_neverlate_k95_words_of_a_session.Holds := by
  w_on; o_law
  refine HandSHeadRun.head_any (r := OpenLaw.row PySem.Challenge.rw_neverlate_k95_words_of_a_session) (q := view (OpenLaw.row PySem.Challenge.rw_neverlate_k95_words_of_a_session).prog [30]) (H := hk) (ob := ob) (M := 4000) (loose := loose) (d := HandSHeadRun.topDef (OpenLaw.row PySem.Challenge.rw_neverlate_k95_words_of_a_session).prog 30) (kwd := []) ob_eq
    (by kernel_rfl) (fun s => by kernel_rfl) head_run (by kernel_rfl) (by kernel_rfl) (by kernel_rfl) (by rfl) (by first | assumption | decide +kernel) (by decide +kernel) ⟨rfl, rfl, rfl, rfl, rfl, by decide +kernel⟩ ?hw ?hc
  case hw => w_witness2
  case hc =>
    refine L2.walk_ofE (l := PySem.Challenge.rw_neverlate_k95_words_of_a_session) (n := 63) (k := 20) (x := "_law_script") (CX := CXa) rfl (by decide) (by kernel_rfl) ⟨rfl, by decide, by decide⟩ ?F CXa_no
    intro w mg fa h Y G hmg0
    obtain ⟨K, KX, c⟩ := Y
    have hmg : mg ("law" : PySem.Str) = some (.ref fa) := by
      have e : (HandSHeadRun.topDef (OpenLaw.row PySem.Challenge.rw_neverlate_k95_words_of_a_session).prog 30).name = ("law" : PySem.Str) := by kernel_rfl
      rw [← e]
      exact hmg0
    obtain ⟨fd, F⟩ := c.t.d.def_ 19 (d := d19) rfl
    have e := hmg.symm.trans (He.glo_ok KX G (c.t.d.fact 19 (f := .glo "law") rfl))
    cases e
    refine ⟨K, fd, spF ⟨K, w⟩ F19, KX, fun s v => F.bindsA (ps := ["_law_script"]) (fun _ _ _ _ _ _ us hl => match us, hl with | [_], _ => rfl) s [v] rfl, fun H a ns hl _ hS => law_sp (plain ns hl) (Nat.le_trans hl (by decide)) hS, fun base KB GB => ?_⟩
    exact fn_any (fn_ok F chk19 (tops (base := base) KX G c).t)
end En.K95
theorem PySem.Challenge.cw_neverlate_k95_words_of_a_session_holds : PySem.Challenge.rw_neverlate_k95_words_of_a_session.Holds := by
  exact En.K95.holds En.K95.F19_ok
#print axioms PySem.Challenge.cw_neverlate_k95_words_of_a_session_holds
