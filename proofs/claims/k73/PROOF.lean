import PyProof.Rows.All
import Wide.All
import OpenK.AllK
import Wide.FinOn
import HandS.ForMost
import HandS.Exc
import HandS.ExcOwn
import HandS.WordsExc
import HandS.Defaults
import HandS.HeadHook4
import HandS.More
import HandS.IsInst
import HandS.SortInts
import HandS.Gcd
import HandS.StrMore
import HandS.FStr
import HandS.MakeKw
import HandS.MakeKwOnly
import KE.KExcSuper
import HandS.Nested
import HandS.ExcInit
import HandS.HeadWalk
import HandS.SortKw
import PyProof.MinMaxWalk
import HandS.TryMany
import HandS.ExcField
import HandS.ExcIs
import KE.KExcIs
import HandS.TupAny
import HandS.Property
import KE.GoesEnum
import HandS.Small
import HandS.Head2
import HandS.Head3
import HandS.HeadEnd
import KE.KStateDown
import PySem.Challenge.RW_neverlate_k73_demand_table
set_option Elab.async false
set_option linter.all false
set_option maxRecDepth 100000
set_option maxHeartbeats 0
namespace En
open PySem PySem.Spec PyProof.Rows L2

/-- the written part, the world -/
structure KW where
  K : PySem.W.Frag
  w : World
/-! ### data -/
inductive D where
  | non | bl (b : Bool) | int (i : Int) | str (s : Str)
  | tup (l : List D) | lst (l : List D) | ro (l : List D)
  | ins (c : Str) (ns : List Str) (l : List D)
  | dk (ks : List Key) (l : List D)
  | kd (x : Str) (ks : List Str) (l : List Int)
/-- what a name holds: data, or a thing that may change -/
inductive W where
  | d (x : D) | m (i : Nat)
inductive Ob where
  | lst (l : List D) | mat (l : List Nat) | ins (c : Str) (ns : List Str) (l : List W) | dk (ks : List Key) (l : List D)
abbrev Sto := List (Option Ob)
inductive R (α : Type) where
  | ok (a : α) (S : Sto) | ex (c : Str) (ns : List Str) (l : List D) (S : Sto) | st
def R.bind {α γ : Type} : R α → (α → Sto → R γ) → R γ
  | .ok a S, f => f a S
  | .ex c ns l S, _ => .ex c ns l S
  | .st, _ => .st
abbrev Env' := List (Option W)

/-- a written dict of the module's name x: texts to ints -/
def KTab (K : KW) (x : Str) (ks : List Str) (l : List Int) : Prop := (∃ es n, KDict K.K K.w (He.ga K.K x) es n) ∧ ∀ z, ∃ r, PySem.W.nsIn K.K (He.ga K.K x) z = some r ∧ match (ks.zip l).lookup z with
  | some i => ∃ t, r = some (.int i t)
  | none => r = none
section
variable (K : KW)
mutual
def Rep (G : Hp) : D → V → Prop
  | .non, v => v = .non
  | .bl b, v => v = .bl b
  | .int i, v => v = .int i
  | .str s, v => v = .str s
  | .tup l, v => ∃ a vs, v = .ref a ∧ SqT K.K G a vs ∧ vs.length ≤ sizeLine ∧ RepL G l vs
  | .lst l, v => ∃ a vs, v = .ref a ∧ G a = some (.lst vs) ∧ vs.length ≤ sizeLine ∧ RepL G l vs
  | .ro l, v => ∃ a vs, v = .ref a ∧ SqL K.K G a vs ∧ vs.length ≤ sizeLine ∧ RepL G l vs
  | .ins c ns l, v => ∃ a dx vs, v = .ref a ∧ G a = some (.ins (He.ga K.K c) dx (ns.zip vs)) ∧ ns.length = vs.length ∧ RepL G l vs
  | .dk ks l, v => ∃ a vs, v = .ref a ∧ G a = some (.dK (ks.zip vs)) ∧ ks.length = vs.length ∧ RepL G l vs
  | .kd x ks l, v => v = .ref (He.ga K.K x) ∧ KTab K x ks l
def RepL (G : Hp) : List D → List V → Prop
  | [], vs => vs = []
  | d :: ds, vs => ∃ v r, vs = v :: r ∧ Rep G d v ∧ RepL G ds r
end
end

def Sub (G G' : Hp) : Prop := ∀ a o, G a = some o → G' a = some o
theorem Sub.refl (G : Hp) : Sub G G := fun _ _ h => h
theorem Sub.trans {G G1 G2 : Hp} (h : Sub G G1) (h' : Sub G1 G2) : Sub G G2 := fun a o e => h' a o (h a o e)
theorem Sub.new {G : Hp} {p : Addr} {o : HO} (h : G p = none) : Sub G (upd G p o) := fun a u e => by
  rw [upd_ne (ne_of_none e h)]
  exact e
theorem sub_rd {G G' : Hp} {a : Addr} {u : HO} (s : Sub G G') (h : Rd G a u) : Rd G' a u := by
  rcases h with h | ⟨o, h⟩
  · exact Or.inl (s a _ h)
  · exact Or.inr ⟨o, s a _ h⟩
theorem sub_l {K : PySem.W.Frag} {G G' : Hp} {a : Addr} {xs : List V} (s : Sub G G') (h : SqL K G a xs) : SqL K G' a xs := by
  rcases h with h | h
  · exact Or.inl (sub_rd s h)
  · exact Or.inr h
theorem sub_t {K : PySem.W.Frag} {G G' : Hp} {a : Addr} {xs : List V} (s : Sub G G') (h : SqT K G a xs) : SqT K G' a xs := by
  rcases h with h | h
  · exact Or.inl (sub_rd s h)
  · exact Or.inr h

mutual
theorem Rep.mono {K : KW} {G G' : Hp} (s : Sub G G') : ∀ (d : D) (v : V), Rep K G d v → Rep K G' d v
  | .non, v, h => by simpa only [Rep] using h
  | .bl b, v, h => by simpa only [Rep] using h
  | .int i, v, h => by simpa only [Rep] using h
  | .str z, v, h => by simpa only [Rep] using h
  | .tup l, v, h => by
    simp only [Rep] at h ⊢
    obtain ⟨a, vs, e, h1, h2, h3⟩ := h
    exact ⟨a, vs, e, sub_t s h1, h2, RepL.mono s l vs h3⟩
  | .lst l, v, h => by
    simp only [Rep] at h ⊢
    obtain ⟨a, vs, e, h1, h2, h3⟩ := h
    exact ⟨a, vs, e, s _ _ h1, h2, RepL.mono s l vs h3⟩
  | .ro l, v, h => by
    simp only [Rep] at h ⊢
    obtain ⟨a, vs, e, h1, h2, h3⟩ := h
    exact ⟨a, vs, e, sub_l s h1, h2, RepL.mono s l vs h3⟩
  | .ins c ns l, v, h => by
    simp only [Rep] at h ⊢
    obtain ⟨a, dx, vs, e, h1, h2, h3⟩ := h
    exact ⟨a, dx, vs, e, s _ _ h1, h2, RepL.mono s l vs h3⟩
  | .dk ks l, v, h => by
    simp only [Rep] at h ⊢
    obtain ⟨a, vs, e, h1, h2, h3⟩ := h
    exact ⟨a, vs, e, s _ _ h1, h2, RepL.mono s l vs h3⟩
  | .kd x ks l, v, h => by simpa only [Rep] using h
theorem RepL.mono {K : KW} {G G' : Hp} (s : Sub G G') : ∀ (l : List D) (vs : List V), RepL K G l vs → RepL K G' l vs
  | [], vs, h => by simpa only [RepL] using h
  | d :: ds, vs, h => by
    simp only [RepL] at h ⊢
    obtain ⟨v, r, e, h1, h2⟩ := h
    exact ⟨v, r, e, Rep.mono s d v h1, RepL.mono s ds r h2⟩
end

theorem RepL.length {K : KW} {G : Hp} : ∀ {l : List D} {vs : List V}, RepL K G l vs → l.length = vs.length
  | [], vs, h => by
    simp only [RepL] at h
    rw [h]
    rfl
  | d :: ds, vs, h => by
    simp only [RepL] at h
    obtain ⟨v, r, e, _, h2⟩ := h
    rw [e]
    simp [RepL.length h2]
theorem RepL.append {K : KW} {G : Hp} : ∀ {l l' : List D} {vs vs' : List V}, RepL K G l vs → RepL K G l' vs' → RepL K G (l ++ l') (vs ++ vs')
  | [], l', vs, vs', h, h' => by
    simp only [RepL] at h
    rw [h]
    exact h'
  | d :: ds, l', vs, vs', h, h' => by
    simp only [RepL] at h
    obtain ⟨v, r, e, h1, h2⟩ := h
    rw [e]
    exact ⟨v, r ++ vs', rfl, h1, RepL.append h2 h'⟩
theorem RepL.get {K : KW} {G : Hp} : ∀ {l : List D} {vs : List V} {i : Nat} {d : D}, RepL K G l vs → l[i]? = some d → ∃ v, vs[i]? = some v ∧ Rep K G d v
  | [], vs, i, d, h, e => by simp at e
  | x :: ds, vs, 0, d, h, e => by
    simp only [RepL] at h
    obtain ⟨v, r, ev, h1, h2⟩ := h
    simp at e
    subst e
    exact ⟨v, by rw [ev]; rfl, h1⟩
  | x :: ds, vs, i + 1, d, h, e => by
    simp only [RepL] at h
    obtain ⟨v, r, ev, h1, h2⟩ := h
    obtain ⟨u, e1, e2⟩ := RepL.get (i := i) h2 (by simpa using e)
    exact ⟨u, by rw [ev]; simpa using e1, e2⟩
theorem RepL.drop {K : KW} {G : Hp} : ∀ {l : List D} {vs : List V} (n : Nat), RepL K G l vs → RepL K G (l.drop n) (vs.drop n)
  | l, vs, 0, h => h
  | [], vs, n + 1, h => by
    simp only [RepL] at h
    rw [h]
    simp [RepL]
  | d :: ds, vs, n + 1, h => by
    simp only [RepL] at h
    obtain ⟨v, r, e, h1, h2⟩ := h
    rw [e]
    exact RepL.drop n h2
theorem RepL.take {K : KW} {G : Hp} : ∀ {l : List D} {vs : List V} (n : Nat), RepL K G l vs → RepL K G (l.take n) (vs.take n)
  | l, vs, 0, h => by simp [RepL]
  | [], vs, n + 1, h => by
    simp only [RepL] at h
    rw [h]
    simp [RepL]
  | d :: ds, vs, n + 1, h => by
    simp only [RepL] at h
    obtain ⟨v, r, e, h1, h2⟩ := h
    rw [e]
    exact ⟨v, r.take n, rfl, h1, RepL.take n h2⟩
theorem RepL.set {K : KW} {G : Hp} {d : D} {v : V} (hd : Rep K G d v) : ∀ {l : List D} {vs : List V} (n : Nat), RepL K G l vs → RepL K G (l.set n d) (vs.set n v)
  | [], vs, n, h => by
    simp only [RepL] at h
    rw [h]
    simp [RepL]
  | x :: ds, vs, 0, h => by
    simp only [RepL] at h
    obtain ⟨u, r, e, h1, h2⟩ := h
    rw [e]
    exact ⟨v, r, rfl, hd, h2⟩
  | x :: ds, vs, n + 1, h => by
    simp only [RepL] at h
    obtain ⟨u, r, e, h1, h2⟩ := h
    rw [e]
    exact ⟨u, r.set n v, rfl, h1, RepL.set hd n h2⟩

/-! ### the state -/
def RepW (K : KW) (G : Hp) (B : List Addr) : W → V → Prop
  | .d x, v => Rep K G x v
  | .m i, v => ∃ a, B[i]? = some a ∧ v = .ref a
def RepWs (K : KW) (G : Hp) (B : List Addr) : List W → List V → Prop
  | [], vs => vs = []
  | w :: ws, vs => ∃ v r, vs = v :: r ∧ RepW K G B w v ∧ RepWs K G B ws r
/-- more is known -/
structure Ext (G : Hp) (B : List Addr) (G' : Hp) (B' : List Addr) : Prop where
  sub : Sub G G'
  pre : ∃ t, B' = B ++ t
theorem Ext.refl (G : Hp) (B : List Addr) : Ext G B G B := ⟨Sub.refl G, [], by simp⟩
theorem Ext.trans {G G1 G2 : Hp} {B B1 B2 : List Addr} (h : Ext G B G1 B1) (h' : Ext G1 B1 G2 B2) : Ext G B G2 B2 := by
  obtain ⟨s, t, e⟩ := h
  obtain ⟨s', t', e'⟩ := h'
  exact ⟨s.trans s', t ++ t', by rw [e', e, List.append_assoc]⟩
theorem pre_get {B t : List Addr} {i : Nat} {a : Addr} (h : B[i]? = some a) : (B ++ t)[i]? = some a := by
  rw [List.getElem?_append_left (List.getElem?_eq_some_iff.mp h).1]
  exact h
theorem RepW.mono {K : KW} {G G' : Hp} {B B' : List Addr} (e : Ext G B G' B') : ∀ {w : W} {v : V}, RepW K G B w v → RepW K G' B' w v
  | .d x, v, h => Rep.mono e.sub x v h
  | .m i, v, h => by
    obtain ⟨a, h1, h2⟩ := h
    obtain ⟨t, e2⟩ := e.pre
    exact ⟨a, by rw [e2]; exact pre_get h1, h2⟩
theorem RepWs.mono {K : KW} {G G' : Hp} {B B' : List Addr} (e : Ext G B G' B') : ∀ {ws : List W} {vs : List V}, RepWs K G B ws vs → RepWs K G' B' ws vs
  | [], vs, h => h
  | w :: ws, vs, h => by
    obtain ⟨v, r, e1, h1, h2⟩ := h
    exact ⟨v, r, e1, h1.mono e, RepWs.mono e h2⟩
theorem RepWs.length {K : KW} {G : Hp} {B : List Addr} : ∀ {ws : List W} {vs : List V}, RepWs K G B ws vs → ws.length = vs.length
  | [], vs, h => by
    have h : vs = [] := h
    rw [h]
    rfl
  | w :: ws, vs, h => by
    obtain ⟨v, r, e1, h1, h2⟩ := h
    rw [e1]
    simp [RepWs.length h2]

/-- addresses of the things that may change -/
def Ats (B : List Addr) : List Nat → List V → Prop
  | [], vs => vs = []
  | i :: r, vs => ∃ a t, vs = .ref a :: t ∧ B[i]? = some a ∧ Ats B r t
def ObR (K : KW) (G : Hp) (B : List Addr) (H : Hp) (a : Addr) : Ob → Prop
  | .lst l => ∃ vs, H a = some (.lst vs) ∧ vs.length ≤ sizeLine ∧ RepL K G l vs
  | .mat l => ∃ vs, H a = some (.lst vs) ∧ vs.length ≤ sizeLine ∧ Ats B l vs
  | .ins c ns l => ∃ dx vs, H a = some (.ins (He.ga K.K c) dx (ns.zip vs)) ∧ ns.length = vs.length ∧ RepWs K G B l vs
  | .dk ks l => ∃ vs, H a = some (.dK (ks.zip vs)) ∧ ks.length = vs.length ∧ RepL K G l vs
/-- what stood at the entry: the heap, what is still, the things that may change -/
structure Ent where
  H : Hp
  G : Hp
  L : Addr → Prop
  B : List Addr
structure SimH (K : KW) (E : Ent) (G : Hp) (B : List Addr) (S : Sto) (H : Hp) : Prop where
  gh : Sub G H
  len : B.length = S.length
  ob : ∀ (i : Nat) (o : Ob), S[i]? = some (some o) → ∃ a, B[i]? = some a ∧ G a = none ∧ ObR K G B H a o ∧ (E.L a ∨ E.H a = none)
  inj : ∀ (i j : Nat) (o u : Ob) (a : Addr), S[i]? = some (some o) → S[j]? = some (some u) → B[i]? = some a → B[j]? = some a → i = j
  fr : ∀ a o, E.H a = some o → ¬ E.L a → H a = some o
  fg : ∀ a, E.H a ≠ none → ¬ E.L a → G a = E.G a
  mono : Sub E.G G
  dom : ∀ a, E.H a ≠ none → H a ≠ none
  pre : ∃ t, B = E.B ++ t
def Slots (K : KW) (G : Hp) (B : List Addr) : Env' → List (Option V) → Prop
  | [], σ => σ = []
  | none :: e, σ => ∃ x r, σ = x :: r ∧ Slots K G B e r
  | some w :: e, σ => ∃ v r, σ = some v :: r ∧ RepW K G B w v ∧ Slots K G B e r
structure Sim (K : KW) (E : Ent) (G : Hp) (B : List Addr) (e : Env') (S : Sto) (σ : List (Option V)) (H : Hp) : Prop where
  h : SimH K E G B S H
  s : Slots K G B e σ
theorem Slots.mono {K : KW} {G G' : Hp} {B B' : List Addr} (x : Ext G B G' B') : ∀ {e : Env'} {σ : List (Option V)}, Slots K G B e σ → Slots K G' B' e σ
  | [], σ, h => h
  | none :: e, σ, h => by
    obtain ⟨u, r, e1, h2⟩ := h
    exact ⟨u, r, e1, Slots.mono x h2⟩
  | some w :: e, σ, h => by
    obtain ⟨v, r, e1, h1, h2⟩ := h
    exact ⟨v, r, e1, h1.mono x, Slots.mono x h2⟩
theorem Slots.get {K : KW} {G : Hp} {B : List Addr} : ∀ {e : Env'} {σ : List (Option V)} {i : Nat} {w : W}, Slots K G B e σ → e[i]? = some (some w) → ∃ v, σ[i]? = some (some v) ∧ RepW K G B w v
  | [], σ, i, w, h, q => by simp at q
  | none :: e, σ, 0, w, h, q => by simp at q
  | none :: e, σ, i + 1, w, h, q => by
    obtain ⟨u, r, e1, h2⟩ := h
    obtain ⟨v, a, b⟩ := Slots.get (i := i) h2 (by simpa using q)
    exact ⟨v, by rw [e1]; simpa using a, b⟩
  | some y :: e, σ, 0, w, h, q => by
    obtain ⟨v, r, e1, h1, h2⟩ := h
    simp at q
    subst q
    exact ⟨v, by rw [e1]; rfl, h1⟩
  | some y :: e, σ, i + 1, w, h, q => by
    obtain ⟨u, r, e1, h1, h2⟩ := h
    obtain ⟨v, a, b⟩ := Slots.get (i := i) h2 (by simpa using q)
    exact ⟨v, by rw [e1]; simpa using a, b⟩
theorem Slots.set {K : KW} {G : Hp} {B : List Addr} {w : W} {v : V} (hw : RepW K G B w v) : ∀ {e : Env'} {σ : List (Option V)} {i : Nat}, Slots K G B e σ → Slots K G B (e.set i (some w)) (σ.set i (some v))
  | [], σ, i, h => by
    have h : σ = [] := h
    rw [h]
    simp [Slots]
  | none :: e, σ, 0, h => by
    obtain ⟨u, r, e1, h2⟩ := h
    rw [e1]
    exact ⟨v, r, rfl, hw, h2⟩
  | none :: e, σ, i + 1, h => by
    obtain ⟨u, r, e1, h2⟩ := h
    rw [e1]
    exact ⟨u, r.set i (some v), rfl, Slots.set hw h2⟩
  | some y :: e, σ, 0, h => by
    obtain ⟨u, r, e1, h1, h2⟩ := h
    rw [e1]
    exact ⟨v, r, rfl, hw, h2⟩
  | some y :: e, σ, i + 1, h => by
    obtain ⟨u, r, e1, h1, h2⟩ := h
    rw [e1]
    exact ⟨u, r.set i (some v), rfl, h1, Slots.set hw h2⟩
theorem Slots.none {K : KW} {G : Hp} {B : List Addr} {x : Option V} : ∀ {e : Env'} {σ : List (Option V)} {i : Nat}, Slots K G B e σ → Slots K G B (e.set i Option.none) (σ.set i x)
  | [], σ, i, h => by
    have h : σ = [] := h
    rw [h]
    simp [Slots]
  | Option.none :: e, σ, 0, h => by
    obtain ⟨u, r, e1, h2⟩ := h
    rw [e1]
    exact ⟨x, r, rfl, h2⟩
  | Option.none :: e, σ, i + 1, h => by
    obtain ⟨u, r, e1, h2⟩ := h
    rw [e1]
    exact ⟨u, r.set i x, rfl, Slots.none h2⟩
  | some y :: e, σ, 0, h => by
    obtain ⟨u, r, e1, h1, h2⟩ := h
    rw [e1]
    exact ⟨x, r, rfl, h2⟩
  | some y :: e, σ, i + 1, h => by
    obtain ⟨u, r, e1, h1, h2⟩ := h
    rw [e1]
    exact ⟨u, r.set i x, rfl, h1, Slots.none h2⟩
/-- forgotten in what is known alone -/
theorem Slots.drop {K : KW} {G : Hp} {B : List Addr} : ∀ {e : Env'} {σ : List (Option V)} {i : Nat}, Slots K G B e σ → Slots K G B (e.set i Option.none) σ
  | [], σ, i, h => by simpa using h
  | Option.none :: e, σ, 0, h => h
  | Option.none :: e, σ, i + 1, h => by
    obtain ⟨u, r, e1, h2⟩ := h
    exact ⟨u, r, e1, Slots.drop h2⟩
  | some y :: e, σ, 0, h => by
    obtain ⟨u, r, e1, h1, h2⟩ := h
    exact ⟨some u, r, e1, h2⟩
  | some y :: e, σ, i + 1, h => by
    obtain ⟨u, r, e1, h1, h2⟩ := h
    exact ⟨u, r, e1, h1, Slots.drop h2⟩
theorem Slots.length {K : KW} {G : Hp} {B : List Addr} : ∀ {e : Env'} {σ : List (Option V)}, Slots K G B e σ → e.length = σ.length
  | [], σ, h => by
    have h : σ = [] := h
    rw [h]
    rfl
  | Option.none :: e, σ, h => by
    obtain ⟨u, r, e1, h2⟩ := h
    rw [e1]
    simp [Slots.length h2]
  | some y :: e, σ, h => by
    obtain ⟨u, r, e1, h1, h2⟩ := h
    rw [e1]
    simp [Slots.length h2]
end En

namespace En
open PySem PySem.Spec PyProof.Rows L2 NdefX
theorem mcallB {o : Expr} {m : Str} {apos pos : Pos} {args : List Expr} {env : Env} (hst : methodCallForm (args.length + ([] : List Keyword).length) (backTo pos (starEach args env)) (backToKw pos (keywordEach [] env)) = true) (hl : (apos.endLine == pos.line) = true) :
    eval (.Call (.Attribute o m apos) args [] pos) env = (do
      let ov ← attributeBase o m env (eval o env)
      standAt apos.atName
      let (f, first) ← holding [ov] (getMethod ov m (plainOf o env))
      callWith pos f first (backTo pos (starEach args env)) []) := by
  rw [arm_eval_Call]
  have e : (fun ov => methodCall o m apos pos env ov (args.length + ([] : List Keyword).length) (backTo pos (starEach args env)) (backToKw pos (keywordEach [] env))) = fun ov => (do
      let (f, first) ← holding [ov] (getMethod ov m (plainOf o env))
      callWith pos f first (backTo pos (starEach args env)) []) := funext fun ov => mcall_line hst hl
  exact congrArg (fun k : Value → Sem Value => (do
      let ov ← attributeBase o m env (eval o env)
      standAt apos.atName
      k ov)) e
/-! ### own exceptions whose __init__ says super().__init__('m') and then stores its parameters -/
/-- what the written part says of the class at C, its __init__ at fI being F -/
structure SxC (P : Program) (K : PySem.W.Frag) (C fI : Addr) (F : NF) : Prop where
  oex : OexC K C
  init : PySem.W.findIn K (.ref C) "__init__" = some (some (.ref fI))
  tI : PySem.W.typeIn K (.ref fI) = some (.type "function")
  fn : ∃ oc od dV kV doc pm an ct osl, K.lookup fI = some ⟨oc, od, .func (PySem.W.fnX F.name F.qual F.params F.body F.scope F.cl dV kV doc pm an (.ref F.c) ct), osl⟩
  cd : PySem.W.codeIn K (.ref F.c) F.qual = true
  code : ∃ ccl cdd vs ccs file tf, K.lookup F.c = some ⟨ccl, cdd, .fields vs, ccs⟩ ∧ vs[2]? = some (.str file tf) ∧ ((P.main.file : Str) == file) = true
  cl : ∃ cc cl cld csl, F.cl = [(("__class__" : Str), cc)] ∧ K.lookup cc = some ⟨cl, cld, .cell (some (.ref C)), csl⟩
  cls : ∃ cd, PySem.W.clsIn K C = some cd
  sup : PySem.W.ks_superIn K C C "__init__" = some (some (.builtin "ValueError.__init__"))
  mro : PySem.W.mroIn K C (.ref C) = some true
  vE : PySem.W.subIn K (.ref C) (.type "ValueError") = some true
  any : PySem.W.nsIn K cStatics "thirdparty.any" = some none
section
variable {P : Program} {w : World} {K : PySem.W.Frag} {mg : Str → Option Value} {base : Heap} {C fI : Addr} {F : NF} {N ps : List Str} {A : Around} {outer : List Env} {s0 : Shared} {H0 : Hp} {E : XK}
/-- super().__init__('m'), the object being made -/
theorem super_init {s : Shared} {H : Hp} {σ : L2.St} {a : Addr} {ar : Arg} {p0 p1 p2 p3 p4 p5 : Pos} {m : Str} {j : Nat} {Q : Flow → Shared → Prop}
    (S : NScope N ps ["__class__"] F.scope) (X : SxC P K C fI F) (hp : (F.params.posonlyargs ++ F.params.args).head? = some ar) (h0 : ps[0]? = some ar.arg)
    (hks : F.scope.names.lookup ("super" : Str) = some .globalImplicit) (hm : mg "super" = none) (htop : (P.main.scope.names.lookup ("super" : Str)).isSome = false)
    (I : Inv (ncx (L2.CX P w) P w K mg base N F fI A outer s0 H0 E) [] σ H s) (hN0 : N[0]? = some ar.arg) (ha : σ[0]? = some (some (.ref a))) (hC : ∀ cc, F.cl = [(("__class__" : Str), cc)] → s.heap.IsCell cc (some (.ref C))) (ea : H a = some (exo a C none)) (hline : (p2.endLine == p4.line) = true)
    (q : ∀ s', Inv (ncx (L2.CX P w) P w K mg base N F fI A outer s0 H0 E) [] σ H s' → Q .next s') :
    _root_.PySem.wpAt (model P w) (A.deeper (envF F fI s0.heap.objs.size)) (.func F.body (envF F fI s0.heap.objs.size)) (exec (.Expr (.Call (.Attribute (.Call (.Name "super" p0) [] [] p1) "__init__" p2) [.Constant (.str m) j p3] [] p4) p5) (envF F fI s0.heap.objs.size)) Q
      (ncx (L2.CX P w) P w K mg base N F fI A outer s0 H0 E).xe s := by
  obtain ⟨oc, od, dV, kV, doc, pm, an, ct, osl, lk⟩ := X.fn
  obtain ⟨ccl, cdd, vs, ccs, file, tf, lc, hvs, hfile⟩ := X.code
  obtain ⟨cc, cl, cld, csl, ecl, lcc⟩ := X.cl
  obtain ⟨cd, hcd⟩ := X.cls
  obtain ⟨nm, qn, N', bs, bm, sn, sub, ab, col, dd, k0, k1, k2, k3, k5, hCo, hbm⟩ := X.oex.cls
  have hcell := hC cc ecl
  have kIn : K.In s.heap := I.kIn
  obtain ⟨ns, hns, hl⟩ := I.loc
  have vis0 : F.scope.names.lookup ar.arg = some .local := S.par _ (List.mem_of_getElem? h0)
  obtain ⟨u, ru, lu⟩ := hl 0 ar.arg (.ref a) hN0 ha (.inl vis0)
  obtain rfl : u = Value.ref a := ru
  obtain ⟨t1, ho⟩ := exo_at I.hok ea
  refine PySem.ks_wpAt_Expr_any (hi := I.quiet) (PySem.ks_wpAt_MethodCall (he := mcallB (by rfl) hline) (PySem.ks_wpAt_super_base (env := envF F fI s0.heap.objs.size) hks (S.frk _ List.mem_cons_self) (by decide) rfl (kIn _ _ lk) rfl hp rfl (kIn _ _ lc) rfl hvs hfile htop ?_))
  obtain ⟨mb, hb1, hb2⟩ := I.mod.blt
  refine PySem.W.ks_loadName_global (env := envF F fI s0.heap.objs.size) S.kind hks (PySem.Calls.loadGlobal_builtin (env := envF F fI s0.heap.objs.size) (I.mod.glob.keeps I.bk) hm (hb1.keeps I.bk) ((hb2 _ (by decide)).trans (by decide +kernel : bootBuiltins "super" = some (.type "super"))) ⟨rfl, ?_⟩)
  refine wpAny_loadName_free S.kind (S.frk _ List.mem_cons_self) (c := cc) (by show F.cl.lookup _ = _; rw [ecl]; rfl) hcell ?_
  have lu' : ns ar.arg = some (.ref a) := by
    rcases lu with ⟨_, h⟩ | ⟨h, _⟩
    · exact h
    · have h : F.scope.names.lookup ar.arg = some .cell ∨ F.scope.names.lookup ar.arg = some .free := h
      rw [vis0] at h
      rcases h with h | h <;> cases h
  refine wpAny_loadName_local S.kind vis0 hns lu' ?_
  obtain ⟨hh, g, d, t, os⟩ := s
  obtain ⟨oD, hD1, hD2⟩ : ∃ oD, hh.get? C = some oD ∧ oD.data = .cls cd := by
    unfold PySem.W.clsIn at hcd
    split at hcd
    · rename_i c d cd' sl ho
      cases hcd
      exact ⟨_, kIn _ _ ho, rfl⟩
    · cases hcd
  refine PySem.ks_wpAny_isType_cls hD1 hD2 ⟨rfl, ?_⟩
  have haC : a ≠ C := fun z => by
    rw [z] at ho
    rw [ho] at hD1
    cases hD1
    cases hD2
  refine PySem.ks_wpAny_call_super hD1 hD2 ho rfl (fun c e => by cases e) (PySem.W.looks_mroIn kIn X.mro) (fun h1 e1 k1 => ?_)
  have I1 : Inv (ncx (L2.CX P w) P w K mg base N F fI A outer s0 H0 E) [] σ H ⟨h1, g, d, t, os⟩ := I.kept (t' := t) k1
  have ho1 := k1 _ _ ho
  have hsup := X.sup
  unfold PySem.W.ks_superIn at hsup
  rw [hcd] at hsup
  refine PySem.W.kxs_getMethod PySem.W.kxs_ValueError e1 (PySem.W.looks_opaque I1.kIn X.any) (l₀ := cd.mro) (fun A Q E s k q => wpAny_bind ((PySem.W.looks_clsIn I1.kIn hcd) A _ E s k (wpAny_pure q))) rfl I1.kIn hsup ?_ haC (by decide) ?_
  · exact (show PySem.W.InstAt h1 a _ C none from ⟨ho1, rfl, rfl, trivial⟩).type.andThen (PySem.W.looks_subIn I1.kIn X.vE)
  · have k2 : ∀ b o, h1.get? b = some o → (h1.push (PySem.W.kxs_mw "ValueError.__init__" a)).get? b = some o := fun b o e => Heap.get?_push_of_some _ e
    have I2 : Inv (ncx (L2.CX P w) P w K mg base N F fI A outer s0 H0 E) [] σ H ⟨h1.push (PySem.W.kxs_mw "ValueError.__init__" a), g, d, t + 1, os⟩ := I1.kept (t' := t + 1) k2
    have hu : (h1.push (PySem.W.kxs_mw "ValueError.__init__" a)).get? h1.objs.size = some (PySem.W.kxs_mw "ValueError.__init__" a) := Heap.get?_push_at rfl rfl
    have pa : PA (ncx (L2.CX P w) P w K mg base N F fI A outer s0 H0 E) [.Constant (.str m) j p3] (tCons (tC (.str m)) tNil) := pa_cons pe_str pa_nil
    refine PySem.W.kxs_callWith (i := "ValueError.__init__") (x := a) rfl (PySem.Calls.evalArgs_plain (wpAny_mono (pa.run p4 [(h1.objs.size, PySem.W.kxs_mw "ValueError.__init__" a)] _ σ H (fun vs H1 => vs = [V.str m] ∧ H = H1) (I2.pins_of ?_) ⟨rfl, rfl⟩) (fun us s1 hh => ?_) fun _ _ z => z))
    · intro p hp
      rw [List.mem_singleton] at hp
      subst hp
      refine ⟨hu, I1.hok.fresh (Nat.le_refl _), ?_, I1.nofs (Nat.le_refl _), fun v e => by cases e⟩
      exact Ne.symm (Nat.ne_of_lt I1.lt)
    · obtain ⟨vs, H1, I3, r1, ev, eH⟩ := hh
      subst ev
      subst eH
      obtain ⟨hu3, _⟩ := I3.pin _ (List.mem_append_right _ List.mem_cons_self)
      refine ⟨hu3, ?_⟩
      cases r1 with
      | cons ru rn =>
        rename_i u us'
        cases rn
        have I3' := I3.weak (σ' := σ) rfl fun _ _ h => h
        obtain ⟨hh3, g3, d3, t3, os3⟩ := s1
        obtain ⟨t1', ho3⟩ := exo_at I3.hok ea
        refine wpAny_call (codeAny_of_tree ?_)
        show wpAny _ (A.deeper (envF F fI s0.heap.objs.size)).in1 (callAny (.ref h1.objs.size) ⟨[u], []⟩) _ _ _
        simp only [callAny]
        refine wpAny_bind (wpAny_load hu3 ?_)
        simp only [PySem.W.kxs_mw, show (Value.type "method-wrapper" == Value.type "method" || Value.type "method-wrapper" == Value.type "builtin_function_or_method" || Value.type "method-wrapper" == Value.type "method-wrapper") = true by decide, if_true]
        refine PySem.W.KFB.if_so (by decide) ?_
        refine wpAny_bind (PySem.W.check_bound_init PySem.F.excBase_ValueError.toExcCallFacts (I3.kIn _ _ hCo) ho3 rfl ?_)
        refine wpAny_bind (wpAny_pure (wpAny_pure ?_))
        refine ⟨plainId_quiet PySem.F.excBase_ValueError.init.plain _, codeAny_builtin PySem.F.excBase_ValueError.initEntry ?_⟩
        have hz : [u].length ≤ sizeLine := by show 1 ≤ sizeLine; decide
        refine PySem.W.exc_init_tree (cls := .ref C) (t0 := t1') (dv := none) (c2 := .none) (c3 := .none) (b4 := .bool false) ho3 hz fun h' k e' _ => ?_
        have J := I3.write (t' := t3) (x := a) (e := a) (o := exo a C none) (by rw [ea]; exact True.intro) (.inl rfl) k ⟨_, e'⟩ (exo_ok e')
        have eu : upd H a (exo a C none) = H := by
          funext b
          by_cases hb : b = a
          · rw [hb, upd_same, ea]
          · rw [upd_ne hb]
        rw [eu] at J
        exact q _ ⟨J.ok, J.os, J.bare, J.base, J.loc, J.cell, J.free, J.freeC, fun p hp => J.pin p (by simpa using Or.inl hp), J.hok, J.len⟩
/-- self.f = p, one behind another: the i-th statement stores the i-th parameter -/
def asgB (N : List Str) (sc : Scope) : List Stmt → List Str → Nat → Bool
  | [], [], _ => true
  | .Assign [.Attribute (.Name s _) f _] (.Name x _) _ :: l, f' :: r, i => (decide (N[0]? = some s) && decide (f = f')) && ((decide (N[i]? = some x) && (decide (sc.names.lookup s = some .local) && decide (sc.names.lookup x = some .local))) && ((decide (s ≠ "__classdict__") && decide (x ≠ "__classdict__")) && ((decide (s ≠ "__debug__") && decide (x ≠ "__debug__")) && asgB N sc l r (i + 1))))
  | _, _, _ => false
def tSlot (i : Nat) : TE := fun σ H Q => ∃ v, σ[i]? = some (some v) ∧ Q v H
def tAsg (K : PySem.W.Frag) : List Str → Nat → TS
  | [], _ => tNext
  | f :: r, i => tSeq (tOst K f (tSlot 0) (tSlot i)) (tAsg K r (i + 1))
theorem asg_ps {X : Cx} : ∀ (l : List Stmt) (r : List Str) (i : Nat), asgB X.N X.env.scope l r i = true → PSs X l (tAsg X.K r i)
  | [], [], _, _ => pss_nil
  | [], _ :: _, _, h => by cases (show false = true from h)
  | st :: l, [], i, h => by
    unfold asgB at h
    split at h <;> first
      | contradiction
      | cases h
  | st :: l, f :: r, i, h => by
    cases st <;> first
      | (cases (show false = true from h); done)
      | skip
    rename_i ts v p4
    rcases ts with _ | ⟨y, _ | ⟨y2, ts⟩⟩
    · cases (show false = true from h)
    · cases y <;> first
        | (cases (show false = true from h); done)
        | skip
      rename_i o f0 p2
      cases o <;> first
        | (cases (show false = true from h); done)
        | skip
      rename_i s p1
      cases v <;> first
        | (cases (show false = true from h); done)
        | skip
      rename_i x p3
      simp only [asgB, Bool.and_eq_true, decide_eq_true_eq] at h
      obtain ⟨⟨a1, a2⟩, ⟨a3, a4, a5⟩, ⟨a6, a7⟩, ⟨a8, a9⟩, a10⟩ := h
      subst a2
      have e1 : PE X (.Name s p1) (tSlot 0) := pe_var a1 (.inl a4) (by simpa using a8) (by simpa using a6)
      have e2 : PE X (.Name x p3) (tSlot i) := pe_var a3 (.inl a5) (by simpa using a9) (by simpa using a7)
      exact pss_cons (ps_ost e1 e2) (asg_ps l r (i + 1) a10)
    · cases y <;> first
        | (cases (show false = true from h); done)
        | (rename_i o f0 p2
           cases o <;> cases (show false = true from h))
/-- the dict behind the statements -/
def addF : List Str → List V → List (Str × V) → List (Str × V)
  | f :: r, v :: vs, fs => addF r vs ((f, v) :: fs)
  | _, _, fs => fs
theorem tAsg_old {D : Ends} {σ : L2.St} {a C d : Addr} (T : OexC K C) (ha : σ[0]? = some (some (.ref a))) (hda : d ≠ a) : ∀ (r : List Str) (vs : List V) (i : Nat) (fs : List (Str × V)) (H : Hp), vs.length = r.length → (∀ j v, vs[j]? = some v → σ[i + j]? = some (some v)) → (∀ f ∈ r, PySem.W.findIn K (.ref C) f = some none) →
    H a = some (exo a C (some d)) → H d = some (exd d fs) → fs.length + r.length ≤ 900 → D.nx σ (upd H d (exd d (addF r vs fs))) → tAsg K r i D σ H
  | [], vs, i, fs, H, hl, hv, hr, h1, h2, h3, q => by
    have e : upd H d (exd d fs) = H := by
      funext b
      by_cases hb : b = d
      · rw [hb, upd_same, h2]
      · rw [upd_ne hb]
    have q : D.nx σ (upd H d (exd d fs)) := by
      cases vs <;> exact q
    rw [e] at q
    exact q
  | f :: r, [], i, fs, H, hl, hv, hr, h1, h2, h3, q => by cases hl
  | f :: r, v :: vs, i, fs, H, hl, hv, hr, h1, h2, h3, q => by
    rw [List.length_cons] at h3
    refine ⟨v, hv 0 v rfl, .ref a, ha, a, C, rfl, T, hr f List.mem_cons_self, .inr ⟨d, fs, h1, h2, by omega, ?_⟩⟩
    refine tAsg_old T ha hda r vs (i + 1) ((f, v) :: fs) _ (by simpa using hl) (fun j x hx => ?_) (fun g hg => hr g (List.mem_cons_of_mem _ hg)) (by rw [upd_ne (Ne.symm hda)]; exact h1) upd_same (by rw [List.length_cons]; omega) ?_
    · have := hv (j + 1) x (by simpa using hx)
      rw [show i + 1 + j = i + (j + 1) by omega]
      exact this
    · have e : upd (upd H d (exd d ((f, v) :: fs))) d (exd d (addF r vs ((f, v) :: fs))) = upd H d (exd d (addF r vs ((f, v) :: fs))) := by
        funext b
        by_cases hb : b = d
        · rw [hb, upd_same, upd_same]
        · rw [upd_ne hb, upd_ne hb, upd_ne hb]
      rw [e]
      exact q
/-- what such an __init__ promises -/
def spSx (C : Addr) (ns : List Str) : Sp := fun vs H Q _ => ∃ a us, vs = .ref a :: us ∧ us.length = ns.length ∧ H a = some (exo a C none) ∧ ∀ d, H d = none → d ≠ a → Q .non (upd (upd H a (exo a C (some d))) d (exd d (addF ns us [])))
theorem sx_fn {k : Nat} {ar : Arg} {p0 p1 p2 p3 p4 p5 : Pos} {m : Str} {j : Nat} {rest : List Stmt} {ns : List Str} (S : NScope N ps ["__class__"] F.scope) (X : SxC P K C fI F) (hp : (F.params.posonlyargs ++ F.params.args).head? = some ar) (h0 : ps[0]? = some ar.arg)
    (hks : F.scope.names.lookup ("super" : Str) = some .globalImplicit) (hm : mg "super" = none) (htop : (P.main.scope.names.lookup ("super" : Str)).isSome = false) (hline : (p2.endLine == p4.line) = true)
    (hbody : F.body = .Expr (.Call (.Attribute (.Call (.Name "super" p0) [] [] p1) "__init__" p2) [.Constant (.str m) j p3] [] p4) p5 :: rest)
    (hasg : asgB N F.scope rest ns 1 = true) (hlen : ps.length = ns.length + 1) (hns : ns ≠ []) (hz : ns.length ≤ 900) (hno : ∀ f ∈ ns, PySem.W.findIn K (.ref C) f = some none) :
    ∃ oc od dV kV doc pm an ct osl, K.lookup fI = some ⟨oc, od, .func (PySem.W.fnX F.name F.qual F.params F.body F.scope F.cl dV kV doc pm an (.ref F.c) ct), osl⟩ ∧ FnOk P w K mg base (L2.CX P w) (k + 1) fI (PySem.W.fnX F.name F.qual F.params F.body F.scope F.cl dV kV doc pm an (.ref F.c) ct) ps (spSx C ns) := by
  obtain ⟨oc, od, dV, kV, doc, pm, an, ct, osl, lk⟩ := X.fn
  refine ⟨oc, od, dV, kV, doc, pm, an, ct, osl, lk, fun vs H Q E h => ?_, fun A outer s H args us vs Q E hr e0 hb r hsp => ?_⟩
  · obtain ⟨a, us, rfl, h1, _⟩ := h
    rw [List.length_cons, h1, hlen]
  obtain ⟨a, vs', ev, hl, ea, q⟩ := hsp
  have hlv : vs.length = ps.length := by rw [ev, List.length_cons, hl, hlen]
  have KX : K.In s.heap := e0.mod.kin.keeps fun b o e => (e0.bs b o e).1
  have lim : s.heap.NoLimit := e0.mod.nolimit.keeps fun b o e => (e0.bs b o e).1
  obtain ⟨cc, cl, cld, csl, ecl, lcc⟩ := X.cl
  have hcc := e0.bs _ _ (e0.mod.kin _ _ lcc)
  have CA : CellsAt F.cl ["__class__"] [some (.ref C)] s.heap H := by
    rw [ecl]
    refine ⟨rfl, fun y c e => ?_, fun x y c e1 e2 => ?_, fun i y e => ?_⟩
    · have e : (match y == ("__class__" : Str) with | true => some cc | false => none) = some c := e
      split at e <;> cases e
      exact ⟨hcc.2, _, _, hcc.1, rfl⟩
    · have e1 : (match x == ("__class__" : Str) with | true => some cc | false => none) = some c := e1
      have e2 : (match y == ("__class__" : Str) with | true => some cc | false => none) = some c := e2
      split at e1 <;> cases e1
      split at e2 <;> cases e2
      rename_i q1 _ q2
      exact (beq_iff_eq.mp q1).trans (beq_iff_eq.mp q2).symm
    · cases i with
      | zero =>
        simp at e
        subst e
        exact ⟨cc, rfl, fun v hv => by
          simp at hv
          subst hv
          exact ⟨.ref C, rfl, _, hcc.1, rfl⟩⟩
      | succ i => simp at e
  refine codeAny_call_function hr.depth (KX _ _ lk) rfl S.co S.gen rfl (PySem.W.codeRec_of KX X.cd) (hb _ _ _ _ ?_)
  refine wpAny_newFunctionEnv S.nocell (fun ⟨n, _⟩ hy => S.par n (List.of_mem_zip hy).1) (fun h₁ hns1 hsb => ⟨lim.fresh _ hsb, ?_⟩) S.kind
  have kp : ∀ b o, s.heap.get? b = some o → h₁.get? b = some o := fun b o e => hsb.extBut b o (Nat.ne_of_lt (Heap.lt_size e)) (Heap.get?_push_of_some _ e)
  have I : Inv (ncx (L2.CX P w) P w K mg base N F fI A outer s H E) [] (startF N vs [some (.ref C)]) H { s with heap := h₁, toks := s.toks + (ps.zip us).length } := inv_startN S hr.hd e0 hlv r CA hns1 kp
  refine PySem.ks_codeAny_funcAt ?_
  show _root_.PySem.wpAt (model P w) (A.deeper (envF F fI s.heap.objs.size)) (.func F.body (envF F fI s.heap.objs.size)) (execs F.body (envF F fI s.heap.objs.size)) _ _ _
  have hx : ∀ b, execs F.body b = execs (.Expr (.Call (.Attribute (.Call (.Name "super" p0) [] [] p1) "__init__" p2) [.Constant (.str m) j p3] [] p4) p5 :: rest) b := fun b => by rw [hbody]
  rw [hx]
  have hN0 : N[0]? = some ar.arg := by
    have := S.pre
    rw [← h0]
    have h2 : (N.take (ps.length + 1))[0]? = (ps ++ [("__class__" : Str)])[0]? := congrArg (fun l : List Str => l[0]?) this
    rw [List.getElem?_take_of_lt (by omega), List.getElem?_append_left (by omega)] at h2
    exact h2
  have s0 : (startF N vs [some (.ref C)])[0]? = some (some (.ref a)) := by rw [ev]; rfl
  refine PySem.ks_wpAt_execs_cons (super_init S X hp h0 hks hm htop I hN0 s0 (fun cc' e => ?_) ea hline fun s' J => ?_)
  · rw [ecl] at e
    cases e
    exact ⟨_, kp _ _ hcc.1, rfl⟩
  · refine wpAt_of_wpAny ?_
    have ps' := asg_ps (X := ncx (L2.CX P w) P w K mg base N F fI A outer s H E) rest ns 1 hasg
    have fin : ∀ {σ' : L2.St} {H' : Hp} {v : V} {u : Value} {s' : Shared}, Inv (ncx (L2.CX P w) P w K mg base N F fI A outer s H E) [] σ' H' s' → L2.RelV v u → Q v H' → CE outer P w H s Q u s' :=
      fun {σ' H' v u s'} J rv q => ⟨v, H', J.os, J.bare, J.base, J.hok, rv, q⟩
    refine wpAny_mono (ps'.run [] s' _ H { nx := fun _ H' => Q .non H', rt := Q } J ?_) (fun fl s' hs => ?_) fun e s' hs => hs
    · obtain ⟨f, r, rfl⟩ : ∃ f r, ns = f :: r := by
        cases ns with
        | nil => exact absurd rfl hns
        | cons f r => exact ⟨f, r, rfl⟩
      obtain ⟨v, us', rfl⟩ : ∃ v us', vs' = v :: us' := by
        cases vs' with
        | nil => cases hl
        | cons v us' => exact ⟨v, us', rfl⟩
      have hv : ∀ j x, (v :: us')[j]? = some x → (startF N vs [some (.ref C)])[1 + j]? = some (some x) := fun j x hx => by
        rw [ev]
        unfold startF
        have lt : j < (v :: us').length := (List.getElem?_eq_some_iff.mp hx).1
        rw [List.getElem?_append_left (by rw [List.length_map, List.length_cons]; omega), List.getElem?_map, show 1 + j = j + 1 by omega, List.getElem?_cons_succ, hx]
        rfl
      refine ⟨v, hv 0 v rfl, .ref a, s0, a, C, rfl, X.oex, hno f List.mem_cons_self, .inl ⟨ea, fun dx h1 h2 => ?_⟩⟩
      refine tAsg_old (a := a) (d := dx) X.oex s0 h2 r us' 2 [(f, v)] _ (by simpa using hl) (fun j x hx => ?_) (fun g hg => hno g (List.mem_cons_of_mem _ hg)) upd_same (by rw [upd_ne h2, upd_same]) (by rw [List.length_cons] at hz; show 1 + r.length ≤ 900; omega) ?_
      · have := hv (j + 1) x (by simpa using hx)
        rw [show 2 + j = 1 + (j + 1) by omega]
        exact this
      · have e : upd (upd (upd H dx (exd dx [(f, v)])) a (exo a C (some dx))) dx (exd dx (addF r us' [(f, v)])) = upd (upd H a (exo a C (some dx))) dx (exd dx (addF r us' [(f, v)])) := by
          funext b
          by_cases hb : b = dx
          · rw [hb, upd_same, upd_same]
          · rw [upd_ne hb, upd_ne hb]
            by_cases hb2 : b = a
            · rw [hb2, upd_same, upd_same]
            · rw [upd_ne hb2, upd_ne hb2, upd_ne hb]
        show Q .non _
        rw [e]
        exact q dx h1 h2
    · cases fl with
      | ret u =>
        obtain ⟨v, σ', H', J, rv, q⟩ := hs
        exact fin J rv q
      | next =>
        obtain ⟨σ', H', J, q⟩ := hs
        exact fin (v := V.non) (u := Value.none) J rfl q
      | brk =>
        obtain ⟨_, _, _, q⟩ := hs
        exact False.elim q
      | cont =>
        obtain ⟨_, _, _, q⟩ := hs
        exact False.elim q
end
theorem PMk.imp {X : Cx} {e : Expr} {t t' : L2.St → Hp → XK → Prop} (h : PMk X e t) (k : ∀ σ H Q, t' σ H Q → t σ H Q) : PMk X e t' := fun pins s σ H Q I q => h pins s σ H Q I (k σ H Q q)
/-- what a call of the class leaves -/
def tSx (C : Addr) (ns : List Str) (ta : TA) : L2.St → Hp → XK → Prop := fun σ H Q => ta σ H fun vs H1 => vs.length = ns.length ∧ ∀ d, H1 d = none → Q (.ref C) (some d) (upd H1 d (.xd (addF ns vs [])))
/-- what the top says of such a class -/
structure SxOk (P : Program) (w : World) (K : PySem.W.Frag) (mg : Str → Option Value) (base : Heap) (k : Nat) (c : Str) (C : Addr) (ns : List Str) : Prop where
  oex : OexC K C
  gl : mg c = some (.ref C)
  len : ns.length ≤ 900
  ex : ∃ fI fd ps, PySem.W.findIn K (.ref C) "__init__" = some (some (.ref fI)) ∧ PySem.W.typeIn K (.ref fI) = some (.type "function") ∧ FnOk P w K mg base (L2.CX P w) k fI fd ps (spSx C ns) ∧ L2.Binds K fd ps []
theorem pmk_sx {X : Cx} {k : Nat} {c : Str} {C : Addr} {ns : List Str} {e : Expr} {es : List Expr} {ta : TA} {p pos : Pos} (T : SxOk X.prog X.w X.K X.mg X.base k c C ns) (hr : Room (k + 1) X.A) (hg : Gl X c) (ha : PA X (e :: es) ta) (hmo : ∀ σ H (Q Q' : List V → Hp → Prop), (∀ vs H, Q vs H → Q' vs H) → ta σ H Q → ta σ H Q')
    (hdb : (c == ("__debug__" : Str)) = false) (he : starEach (e :: es) X.env = (false, eval e X.env) :: starEach es X.env) (hpl : (backTo pos (starEach es X.env)).any (·.1) = false) :
    PMk X (.Call (.Name c p) (e :: es) [] pos) (tSx C ns ta) := by
  obtain ⟨fI, fd, ps, h1, h2, h3, h4⟩ := T.ex
  refine PMk.imp (pmk_oex (CX := L2.CX X.prog X.w) (sp := spSx C ns) (ds := []) (dvs := []) T.oex h1 h2 h3 hr h4 .nil passL hg T.gl ha hdb he hpl) fun σ H Q h => ?_
  refine hmo σ H _ _ (fun vs H1 h => ?_) h
  obtain ⟨hl, h⟩ := h
  refine ⟨by have := T.len; omega, fun a ha => ?_⟩
  rw [List.append_nil]
  refine ⟨a, vs, rfl, hl, upd_same, fun d hd hne => ⟨rfl, d, addF ns vs [], ?_, upd_same, ?_, ?_⟩⟩
  · rw [upd_ne (Ne.symm hne), upd_same]
  · rw [upd_ne hne] at hd
    exact hd
  · rw [upd_ne hne] at hd
    have e : upd (L2.del (upd (upd (upd H1 a (exo a C none)) a (exo a C (some d))) d (exd d (addF ns vs []))) a) d (.xd (addF ns vs [])) = upd H1 d (.xd (addF ns vs [])) := by
      funext b
      by_cases hb : b = d
      · rw [hb, upd_same, upd_same]
      · rw [upd_ne hb, upd_ne hb]
        by_cases hb2 : b = a
        · rw [hb2, L2.del_same, ha]
        · rw [L2.del_ne hb2, upd_ne hb, upd_ne hb2, upd_ne hb2]
    rw [e]
    exact h d hd
theorem addF_len : ∀ (ns : List Str) (vs : List V) (fs : List (Str × V)), ns.length = vs.length → addF ns vs fs = (ns.zip vs).reverse ++ fs
  | [], [], fs, _ => rfl
  | f :: ns, v :: vs, fs, h => by
    show addF ns vs ((f, v) :: fs) = _
    rw [addF_len ns vs _ (by simpa using h), List.zip_cons_cons, List.reverse_cons, List.append_assoc]
    rfl
theorem zip_rev : ∀ (ns : List Str) (vs : List V), ns.length = vs.length → (ns.zip vs).reverse = ns.reverse.zip vs.reverse
  | [], [], _ => rfl
  | f :: ns, v :: vs, h => by
    have h : ns.length = vs.length := by simpa using h
    rw [List.zip_cons_cons, List.reverse_cons, List.reverse_cons, List.reverse_cons, zip_rev ns vs h, List.zip_append (by simp [h])]
    rfl
end En

namespace En
open PySem PySem.Spec PyProof.Rows L2
/-! ### max(xs, default=d) of a list of ints -/
/-- the loop's arguments beside the iterator and the best so far -/
def dfA (I S : Addr) (dv : Value) : Args := ⟨[.ref I, .none, .ref S], [("default", dv)]⟩
section
variable {prog : Program} {w : World} {A : Around} {R : Result → Shared → Prop} {I S : Addr} {fp wr : List Addr} {n : Nat} {P : Nat → Value → Prop} {St : Nat → Heap → Prop} {dv : Value}
theorem nm_loop : (toString "max" ++ toString ".loop" : String) = "max.loop" := by decide
/-- from the second item on: k items are left -/
theorem maxd_rest (W : Walks prog w A.in1 I fp wr n P St) (bt : Nat → Nat → Bool) (cm : CmpOf prog w A.in1 .Gt P bt) (nS : S ∉ fp) : ∀ (k j : Nat) (s : Shared) (v : Value) (c : Nat), n = j + 1 + k → St (j + 1) s.heap → P (argBest bt j) v →
    s.heap.get? S = some ⟨.type "list", none, .seq #[v, v] c, #[]⟩ → (∀ v' h' tk, P (argBest bt (n - 1)) v' → (∀ b o, b ∉ wr → b ≠ S → s.heap.get? b = some o → h'.get? b = some o) → R (.ok (.ret v')) { s with heap := h', toks := tk }) →
    codeAny (model prog w) A (.builtin "max.loop" (dfA I S dv)) R s
  | 0, j, s, v, c, hn, st, pv, hS, q => by
    refine codeAny_builtin PySem.F.entry_max_loop (Around.under_plainId PySem.F.plain_max_loop _ ▸ ?_)
    show wpAny _ A.in1 (seqItems? (.ref S) >>= _) _ _ s
    refine wpAny_bind (wpAny_seqItems hS rfl ?_)
    show wpAny _ A.in1 (tryCatch (pyNext (.ref I)) _ >>= _) _ _ s
    refine wpAny_bind (wpAny_tryCatch (W.done s _ _ ((show j + 1 = n by omega) ▸ st) fun h1 t1 k1 => ?_))
    have hS1 := k1 S _ (fun m => nS (W.sub _ m)) hS
    show wpAny _ A.in1 (updateSeq S (fun _ => #[]) >>= _) _ _ _
    refine wpAny_bind (wpAny_updateSeq hS1 rfl (wpAny_bind (wpAny_letGo (wpAny_pure (q v _ t1 ?_ fun b o b1 b2 e => ?_)))))
    · rw [show n - 1 = j by omega]
      exact pv
    · rw [Heap.get?_update_other _ _ (Ne.symm b2)]
      exact k1 b o b1 e
  | k + 1, j, s, v, c, hn, st, pv, hS, q => by
    refine codeAny_builtin PySem.F.entry_max_loop (Around.under_plainId PySem.F.plain_max_loop _ ▸ ?_)
    show wpAny _ A.in1 (seqItems? (.ref S) >>= _) _ _ s
    refine wpAny_bind (wpAny_seqItems hS rfl ?_)
    show wpAny _ A.in1 (tryCatch (pyNext (.ref I)) _ >>= _) _ _ s
    refine wpAny_bind (wpAny_tryCatch (W.item (j + 1) s _ _ (by omega) st fun u h1 t1 pu st1 k1 => ?_))
    have hS1 := k1 S _ (fun m => nS (W.sub _ m)) hS
    show wpAny _ A.in1 (tryCatch (holding [u, u] (richCompare .Gt u v >>= _)) _ >>= _) _ _ _
    refine wpAny_bind (wpAny_tryCatch (wpAny_holding (wpAny_bind (cm (j + 1) (argBest bt j) u v _ _ _ pu pv (wpAny_bind (wpAny_holding (wpAny_truthy_bool (wpAny_bind (wpAny_letGo (wpAny_pure ?_))))))))))
    cases hb : bt (j + 1) (argBest bt j) with
    | true =>
      rw [if_pos rfl]
      refine wpAny_bind (wpAny_updateSeq hS1 rfl (wpAny_bind (wpAny_letGo ?_)))
      rw [nm_loop]
      refine wpAny_pure ⟨plainId_quiet PySem.F.plain_max_loop _, maxd_rest W bt cm nS k (j + 1) _ u _ (by omega) (W.frame _ _ _ st1 fun b hb' o e => ?_) (by rw [argBest, hb]; exact pu) (Heap.get?_update_self _ hS1 rfl) fun v' h2 t2 p2 k2 => q v' h2 t2 p2 fun b o b1 b2 e => k2 b o b1 b2 ?_⟩
      · rw [Heap.get?_update_other _ _ (fun z : S = b => nS (z ▸ hb'))]
        exact e
      · rw [Heap.get?_update_other _ _ (Ne.symm b2)]
        exact k1 b o b1 e
    | false =>
      rw [if_neg Bool.false_ne_true]
      refine wpAny_bind (wpAny_letGo ?_)
      rw [nm_loop]
      exact wpAny_pure ⟨plainId_quiet PySem.F.plain_max_loop _, maxd_rest W bt cm nS k (j + 1) _ v c (by omega) st1 (by rw [argBest, hb]; exact pv) hS1 fun v' h2 t2 p2 k2 => q v' h2 t2 p2 fun b o b1 b2 e => k2 b o b1 b2 (k1 b o b1 e)⟩
/-- the whole loop: the best item, the default where there is none -/
theorem maxd_loop (W : Walks prog w A.in1 I fp wr n P St) (bt : Nat → Nat → Bool) (cm : CmpOf prog w A.in1 .Gt P bt) (nS : S ∉ fp) {s : Shared} {c : Nat} (st : St 0 s.heap) (hS : s.heap.get? S = some ⟨.type "list", none, .seq #[] c, #[]⟩)
    (q : ∀ v' h' tk, (n = 0 ∧ v' = dv ∨ 0 < n ∧ P (argBest bt (n - 1)) v') → (∀ b o, b ∉ wr → b ≠ S → s.heap.get? b = some o → h'.get? b = some o) → R (.ok (.ret v')) { s with heap := h', toks := tk }) :
    codeAny (model prog w) A (.builtin "max.loop" (dfA I S dv)) R s := by
  refine codeAny_builtin PySem.F.entry_max_loop (Around.under_plainId PySem.F.plain_max_loop _ ▸ ?_)
  show wpAny _ A.in1 (seqItems? (.ref S) >>= _) _ _ s
  refine wpAny_bind (wpAny_seqItems hS rfl ?_)
  show wpAny _ A.in1 (tryCatch (pyNext (.ref I)) _ >>= _) _ _ s
  cases n with
  | zero =>
    refine wpAny_bind (wpAny_tryCatch (W.done s _ _ st fun h1 t1 k1 => ?_))
    refine wpAny_bind (wpAny_rule (wpAny_pure (q dv h1 t1 (.inl ⟨rfl, rfl⟩) fun b o b1 b2 e => k1 b o b1 e)))
  | succ n =>
    refine wpAny_bind (wpAny_tryCatch (W.item 0 s _ _ (Nat.succ_pos _) st fun u h1 t1 pu st1 k1 => ?_))
    have hS1 := k1 S _ (fun m => nS (W.sub _ m)) hS
    show wpAny _ A.in1 (updateSeq S (fun _ => #[u, u]) >>= _) _ _ _
    refine wpAny_bind (wpAny_updateSeq hS1 rfl ?_)
    rw [nm_loop]
    refine wpAny_pure ⟨plainId_quiet PySem.F.plain_max_loop _, maxd_rest W bt cm nS n 0 _ u _ (by omega) (W.frame _ _ _ st1 fun b hb' o e => ?_) pu (Heap.get?_update_self _ hS1 rfl) fun v' h2 t2 p2 k2 => q v' h2 t2 (.inr ⟨Nat.succ_pos _, p2⟩) fun b o b1 b2 e => k2 b o b1 b2 ?_⟩
    · rw [Heap.get?_update_other _ _ (fun z : S = b => nS (z ▸ hb'))]
      exact e
    · rw [Heap.get?_update_other _ _ (Ne.symm b2)]
      exact k1 b o b1 e
end
theorem args_maxd (x d : Value) : argsOk "max" ⟨[x], [("default", d)]⟩ := by unfold argsOk; kernel_rfl
section
variable {X : Cx}
/-- xs, d -/
def rMaxd (K : PySem.W.Frag) : List V → List V → Hp → VK → Prop := fun vs zs H Q => ∃ (a : Addr) (ns : List Int) (d : V), vs = [V.ref a] ∧ zs = [d] ∧ SqL K H a (ns.map V.int) ∧ (ns = [] → Q d H) ∧ ∀ m, m ∈ ns → (∀ y, y ∈ ns → y ≤ m) → Q (.int m) H
theorem call_maxd (hc : X.calm = true) : CallRK X (.builtin "max") ["default"] (rMaxd X.K) := by
  intro pins s σ H vs zs us ws Q I r rz h
  obtain ⟨a, ns, d, rfl, rfl, hs, q0, q⟩ := h
  obtain ⟨its, rv, hl, _⟩ := I.list hs
  rw [Vals.ref1 r]
  obtain ⟨dv, rfl, rd⟩ : ∃ dv, ws = [dv] ∧ RelV d dv := by
    cases rz with
    | cons rx t =>
      cases t
      exact ⟨_, rfl, rx⟩
  have hi := rv.ints
  obtain ⟨xs, e⟩ := hi.allInts.items
  have hn : numsOf (intItems xs).toList = ns := by rw [← e]; exact hi.numsOf
  rw [nums_intItems] at hn
  subst hn
  have hl := hl.isList
  rw [e] at hl
  show wpAny _ _ (call (.builtin "max") [.ref a] [("default", dv)]) _ _ _
  have hch : checkBuiltinCall "max" ⟨[.ref a], [("default", dv)]⟩ = pure () := by
    simp only [checkBuiltinCall, PySem.F.kind_max]
    have ha := args_maxd (.ref a) dv
    cases hsig : Manifest.signature? "max" with
    | none => rfl
    | some sig =>
      simp only [argsOk, hsig] at ha
      exact ha
  refine wpAny_call (codeAny_call_builtin PySem.F.plain_max PySem.F.entry_max ?_)
  rw [hch]
  refine wpAny_pure ?_
  show wpAny _ X.A.in1 (Builtin.Builtins.bindParams "max" ["key", "default"] 0 ⟨[], [("default", dv)]⟩ >>= _) _ _ s
  refine wpAny_bind (wpAny_of_eq (show Builtin.Builtins.bindParams "max" ["key", "default"] 0 ⟨[], [("default", dv)]⟩ = pure [none, some dv] from rfl) ?_)
  refine wpAny_bind (wpAny_pure (wpAny_bind (iter_intList hl fun s2 e2 st hfp hlI => ?_)))
  subst e2
  refine wpAny_bind (wpAny_newObj_type ?_)
  rw [nm_loop]
  have nS : (s.heap.push { cls := .type "list_iterator", data := .fields #[.ref a, .int 0 0] }).objs.size ∉ [s.heap.objs.size, a] := fun m => Nat.lt_irrefl _ (hfp _ m)
  refine wpAny_pure ⟨plainId_quiet PySem.F.plain_max_loop _, maxd_loop (Walks.list (A := X.A.in1) (I.ok.hd hc) _ a hlI (intItems xs)) _ (CmpOf.ints_gt (numAt xs) (fun _ _ => intItems_at)) nS ?_ (Heap.get?_push_size _ rfl) fun v' h' tk hv hk => ?_⟩
  · exact (Walks.list (prog := X.prog) (w := X.w) (A := X.A.in1) (I.ok.hd hc) _ a hlI (intItems xs)).frame _ _ _ st fun b _ o e => Heap.get?_push_of_some _ e
  · have kk : ∀ b o, s.heap.get? b = some o → h'.get? b = some o := fun b o e => by
      have lt := Heap.lt_size e
      have sz : (s.heap.push { cls := .type "list_iterator", data := .fields #[.ref a, .int 0 0] }).objs.size = s.heap.objs.size + 1 := Heap.size_push ..
      refine hk b o (fun m => ?_) (fun z => ?_) (Heap.get?_push_of_some _ (Heap.get?_push_of_some _ e))
      · rw [List.mem_singleton] at m
        rw [m] at lt
        exact Nat.lt_irrefl _ lt
      · rw [z, sz] at lt
        exact Nat.lt_irrefl _ (Nat.lt_of_succ_lt lt)
    rcases hv with ⟨h0, rfl⟩ | ⟨h0, hv⟩
    · have h0 : (intItems xs).size = 0 := h0
      have : xs.toList.map (·.1) = [] := by
        have : xs.size = 0 := by simpa [intItems] using h0
        rw [Array.eq_empty_of_size_eq_zero this]
        rfl
      exact ⟨d, H, I.kept kk, rd, q0 this⟩
    · have hv : (intItems xs)[argBest (fun i j => decide (numAt xs i > numAt xs j)) ((intItems xs).size - 1)]? = some v' := hv
      obtain ⟨t, rfl⟩ := intItems_at hv
      have h0 : 0 < xs.size := by simpa [intItems] using h0
      have sz : (intItems xs).size - 1 = xs.size - 1 := by simp [intItems]
      rw [sz] at hv ⊢
      obtain ⟨h1, h2⟩ := argBest_gt (numAt xs) (xs.size - 1)
      refine ⟨.int _, H, I.kept kk, ⟨_, rfl⟩, q _ ?_ fun y hy => ?_⟩
      · rw [numAt_eq]
        exact PySem.getD_mem (by rw [List.length_map, Array.length_toList]; omega)
      · obtain ⟨j, hj, rfl⟩ := mem_getD hy
        rw [List.length_map, Array.length_toList] at hj
        rw [← numAt_eq]
        exact h2 j (by omega)
end
end En

namespace En
open PySem PySem.Spec PyProof.Rows L2
/-! ### try with several clauses, named or not -/
abbrev TSx : Type := Addr → Value → Option Addr → TS
/-- the ends of a suite whose name i goes away behind it -/
def goneD (i : Nat) (D : Ends) : Ends := { nx := fun σ H => D.nx (σ.set i none) H, rt := D.rt, bk := fun σ H => D.bk (σ.set i none) H, ct := fun σ H => D.ct (σ.set i none) H }
def tsAt (i : Option Nat) (ts : TSx) (a : Addr) (cls : Value) (d : Option Addr) : TS := fun D σ H => match i with
  | none => ts a cls d D σ H
  | some i => ts a cls d (goneD i D) (σ.set i (some (.ref a))) H
/-- what the clauses wish of an exception of the body -/
def wMix (K : PySem.W.Frag) (Wout : WX) (D : Ends) : List (Value × Option Nat × TSx) → WX
  | [] => Wout
  | (c, i, ts) :: r => fun cls d σ H => ∃ b, PySem.W.exmOne K cls c = some b ∧ (b = true → ∀ a, H a = none → tsAt i ts a cls d D σ H) ∧ (b = false → wMix K Wout D r cls d σ H)
def NameAt (X : Cx) : Option Nat → Option Str → Prop
  | none, none => True
  | some i, some n => X.N[i]? = some n ∧ X.env.kindOf n = some .local
  | _, _ => False
inductive Clauses (X : Cx) : List ExceptHandler → List (Value × Option Nat × TSx) → Prop
  | nil : Clauses X [] []
  | cons {x : Str} {c : Value} {i : Option Nat} {n : Option Str} {ts : TSx} {b₀ : Stmt} {suite : List Stmt} {np hp : Pos} {hds : List ExceptHandler} {l : List (Value × Option Nat × TSx)} (hc : Names X x c) (hi : NameAt X i n)
      (su : ∀ (a : Addr) (oe : Obj) (cls : Value) (d : Option Addr) (pn : List (Addr × Obj)), Zc cls d oe → (∃ vs, oe.data = .fields vs) → PSs (X.suite a ((a, oe) :: pn)) (b₀ :: suite) (ts a cls d)) (r : Clauses X hds l) :
      Clauses X (.ExceptHandler (some (.Name x np)) n (b₀ :: suite) hp :: hds) ((c, i, ts) :: l)
section
variable {X : Cx} {body : List Stmt} {h₀ : ExceptHandler} {hds : List ExceptHandler} {l : List (Value × Option Nat × TSx)} {pos : Pos} {tb : WX → TS} {Wout : WX}
theorem ps_try_mix (hs : X.stack = X.env :: X.outer) (hf : X.env.frame = some X.env.locals) (hN : X.N.Nodup) (tk : Takes X Wout)
    (hb : ∀ (W : WX) (pn : List (Addr × Obj)) (xe : Value → Shared → Prop), Takes (X.tr pn xe) W → PassesOwn (model X.prog X.w) X.A X.env xe → PSs (X.tr pn xe) body (tb W))
    (hh : Clauses X (h₀ :: hds) l) : PS X (.Try body (h₀ :: hds) [] [] pos) (fun D σ H => tb (wMix X.K Wout D l) D σ H) := ⟨fun pins s σ H D I h => by
  have ok := I.ok
  have fr : X.A.frames = some (X.env :: X.outer) := ok.frames.trans (congrArg some hs)
  refine wpAny_Try_except (wpAny_mono ((hb (wMix X.K Wout D l) (X.pn ++ pins) (fun e s1 => wpAny (model X.prog X.w) X.A (noteFrame e X.env) (fun _ s2 => wpAny (model X.prog X.w) X.A (setFlight e none) (fun _ s3 =>
    wpAny (model X.prog X.w) X.A (handleBy e X.env (h₀ :: hds)) (SP X pins D) X.xe s3) X.xe s2) X.xe s1) (fun u s' xx => ?_) PassesOwn.looking).run [] s σ H D (I.toTry _) h) (fun f s1 hsp => ?_) (fun e s1 he => he))
  · obtain ⟨a, B, sI, pins', σ1, H1, cls, d, rfl, J0, nb, up, sky, na, os, ag, w⟩ := xx
    have J : Inv X pins σ1 H1 sI := J0.ofTry ok
    rw [hs] at sky
    show wpAny (model X.prog X.w) X.A (noteFrame (.ref a) X.env) _ _ _
    refine Sky.land Zc.steady fr hf sky fun h3 fl3 up3 => ?_
    have J3 : Inv X pins σ1 H1 { s' with heap := h3 } := J.landed nb fl3.1 (up.trans up3) os ag
    obtain ⟨oe3, vs3, he3, hz3, hd3⟩ := fl3.there
    have nf : a ∉ frs (X.env :: X.outer) := fun m => by
      obtain ⟨_, o, e, q⟩ := fl3.2.2.1.mem m
      rw [he3] at e
      cases e
      exact q _ hd3
    have nL : a ≠ X.env.locals := fun z => nf (List.mem_filterMap.mpr ⟨X.env, List.mem_cons_self, by rw [hf, z]⟩)
    have nF : a ∉ X.fs := fun m => by
      obtain ⟨e, he, q⟩ := List.mem_filterMap.mp m
      exact nf (List.mem_filterMap.mpr ⟨e, List.mem_cons_of_mem _ he, q⟩)
    have S3 := J3.suite he3 hd3 na nL nF
    have LT : PySem.W.Looks (model X.prog X.w) h3 (typeOf (.ref a)) cls := fun A Q E s k q => wpAny_typeOf_ref (k _ _ he3) (by rw [hz3.1]; exact q)
    suffices go : ∀ {hds' : List ExceptHandler} {l' : List (Value × Option Nat × TSx)}, Clauses X hds' l' → wMix X.K Wout D l' cls d σ1 H1 → wpAny (model X.prog X.w) X.A (handleBy (.ref a) X.env hds') (SP X pins D) X.xe { s' with heap := h3 } from go hh w
    intro hds' l' hk
    induction hk with
    | nil =>
      intro w
      refine wpAny_handleBy_nil ?_
      obtain ⟨_, _, _, oe, vs, T, oT, ts, he, hz, hd, h1, hr⟩ := id fl3
      unfold PySem.passOn
      refine wpAny_bind (wpAny_field he hd h1 ?_)
      rw [if_neg (show ¬ ((Value.ref T == Value.none) = true) from by simp)]
      have fin : wpAny (model X.prog X.w) X.A (setFlight (.ref a) X.env.frame) (fun _ s4 => wpAny (model X.prog X.w) X.A (throw (.ref a) : Sem Flow) (SP X pins D) X.xe s4) X.xe { s' with heap := h3 } := by
        rw [hf]
        exact HandSPX.setFlight_upZ fl3 fun h4 hh4 up4 => wpAny_throw (tk _ _ ⟨a, B, sI, pins, σ1, H1, cls, d, rfl, J, nb, (up.trans up3).trans up4, .inr (.inr (by rw [hs]; exact hh4)), na, os, ag, w⟩)
      first
        | exact wpAny_bind (wpAny_pure (wpAny_bind fin))
        | exact wpAny_bind fin
    | @cons x c i n ts b₀ suite np hp hds2 l2 hc hi su r ih =>
      intro w
      obtain ⟨b, hb1, yes, no⟩ := w
      have LM := PySem.W.exm_one (M := model X.prog X.w) J3.kIn LT hb1
      have test : ∀ {Q : Value → Shared → Prop} {E : Value → Shared → Prop}, Q c { s' with heap := h3 } → wpAny (model X.prog X.w) (X.A.mark (some (.ref a))) (eval (.Name x np) X.env) Q E { s' with heap := h3 } := fun {Q E} q => by
        obtain ⟨hg, hdbg, hm | ⟨hm, hv, hnn⟩⟩ := hc
        · exact ld_glob (X := X.suite a ((a, oe3) :: (X.pn ++ pins))) S3 hg hm q hdbg
        · exact ld_blt (X := X.suite a ((a, oe3) :: (X.pn ++ pins))) S3 hg hm hv q hnn hdbg
      refine wpAny_handleBy_cons (codeAny_handlers_test (test (LM.here ?_))) (by intro q; cases q)
      cases b with
      | false => exact ih (no rfl)
      | true =>
        cases i with
        | none =>
          cases n with
          | some n => exact hi.elim
          | none =>
            refine codeAny_handlers_suite (HandSPX.lands_againZ fl3 fun h4 fl4 up4 => ?_)
            have J4 : Inv X pins σ1 H1 { s' with heap := h4 } := J.landed nb fl4.1 ((up.trans up3).trans up4) os ag
            obtain ⟨oe4, vs4, he4, hz4, hd4⟩ := fl4.there
            refine wpAny_mono ((su a oe4 cls d (X.pn ++ pins) hz4 ⟨_, hd4⟩).run [] _ _ H1 _ (J4.suite he4 hd4 na nL nF) (yes rfl a na)) (fun f s6 hsp => ?_) (fun _ _ z => False.elim z)
            cases f with
            | ret u =>
              obtain ⟨v6, σ6, H6, S6, r6, q6⟩ := hsp
              exact ⟨_, _, _, S6.unsuite ok, r6, q6⟩
            | _ =>
              obtain ⟨σ6, H6, S6, q6⟩ := hsp
              exact ⟨_, _, S6.unsuite ok, q6⟩
        | some i =>
          cases n with
          | none => exact hi.elim
          | some n =>
            obtain ⟨hi, hln⟩ := hi
            refine codeAny_handlers_suite_as (HandSPX.lands_againZ fl3 fun h4 fl4 up4 => ?_)
            have J4 : Inv X pins σ1 H1 { s' with heap := h4 } := J.landed nb fl4.1 ((up.trans up3).trans up4) os ag
            obtain ⟨oe4, vs4, he4, hz4, hd4⟩ := fl4.there
            refine store_ok (X := X.suite a ((a, oe4) :: (X.pn ++ pins))) (v := .ref a) (J4.suite he4 hd4 na nL nF) hN hi (.inl hln) rfl (fun s5 S5 => ?_) (.inr hln)
            refine wpAny_mono ((su a oe4 cls d (X.pn ++ pins) hz4 ⟨_, hd4⟩).run [] s5 _ H1 _ S5 (yes rfl a na)) (fun f s6 hsp => ?_) (fun _ _ z => False.elim z)
            have bye : ∀ {σ6 : L2.St} {H6 : Hp} {Q : Shared → Prop}, Inv (X.suite a ((a, oe4) :: (X.pn ++ pins))) [] σ6 H6 s6 → (∀ s7, Inv X pins (σ6.set i none) H6 s7 → Q s7) →
                wpAny (model X.prog X.w) X.A (do bindName X.env n .none; unbindBehindTheSuite X.env n hp) (fun _ s7 => Q s7) X.xe s6 := fun {σ6 H6 Q} S6 hq => gone_ok (S6.unsuite ok) hN hi hln hq
            cases f with
            | ret u =>
              obtain ⟨v6, σ6, H6, S6, r6, q6⟩ := hsp
              exact bye S6 fun s7 J7 => ⟨_, _, _, J7, r6, q6⟩
            | next =>
              obtain ⟨σ6, H6, S6, q6⟩ := hsp
              exact bye S6 fun s7 J7 => ⟨_, _, J7, q6⟩
            | brk =>
              obtain ⟨σ6, H6, S6, q6⟩ := hsp
              exact bye S6 fun s7 J7 => ⟨_, _, J7, q6⟩
            | cont =>
              obtain ⟨σ6, H6, S6, q6⟩ := hsp
              exact bye S6 fun s7 J7 => ⟨_, _, J7, q6⟩
  · cases f with
    | next =>
      obtain ⟨σ1, H1, J1, q⟩ := hsp
      exact wpAny_execs_nil ⟨σ1, H1, J1.ofTry ok, q⟩
    | ret u =>
      obtain ⟨v, σ1, H1, J1, r, q⟩ := hsp
      exact ⟨v, σ1, H1, J1.ofTry ok, r, q⟩
    | brk =>
      obtain ⟨σ1, H1, J1, q⟩ := hsp
      exact ⟨σ1, H1, J1.ofTry ok, q⟩
    | cont =>
      obtain ⟨σ1, H1, J1, q⟩ := hsp
      exact ⟨σ1, H1, J1.ofTry ok, q⟩⟩
end
/-! ### isinstance of the exception in hand -/
/-- e, c: e the exception of class D with the dict d that the suite holds -/
def rIsX (K : PySem.W.Frag) (D a : Addr) (d : Option Addr) : List V → Hp → VK → Prop := fun xs H Q => ∃ (c : V) (cv : Value) (b : Bool), xs = [.ref a, c] ∧ (∀ u, RelV c u → u = cv) ∧ (d = none ∨ ∃ dd fs, d = some dd ∧ H dd = some (.xd fs)) ∧ PySem.W.kitOne K (.ref D) cv = some b ∧ Q (.bl b) H
theorem call_isX {X : Cx} {a D : Addr} {oe : Obj} {pn : List (Addr × Obj)} {d : Option Addr} (C : ExcC X.K D) (hz : Zc (.ref D) d oe) (hf : ∃ vs, oe.data = .fields vs) : CallR (X.suite a ((a, oe) :: pn)) (.builtin "isinstance") (rIsX X.K D a d) := by
  intro pins s σ H xs us Q I r h
  obtain ⟨c, cv, b, rfl, hcv, hd, e, q⟩ := h
  cases r with
  | cons rx rr =>
    cases rr with
    | cons rt rr =>
      cases rr
      cases rx
      have ec := hcv _ rt
      subst ec
      obtain ⟨hget, _⟩ := I.pin (a, oe) (List.mem_append.mpr (.inl List.mem_cons_self))
      obtain ⟨vs, hv⟩ := hf
      obtain ⟨od, J⟩ : ∃ od, PySem.W.InstAt s.heap a oe D od := by
        obtain ⟨oc, od, oda, osl⟩ := oe
        obtain ⟨h1, h2⟩ := hz
        dsimp only at h1 h2 hv
        subst h1 hv
        rcases hd with hd | ⟨dd, fs, hd, hx⟩
        · rw [hd] at h2
          subst h2
          exact ⟨none, hget, rfl, rfl, trivial⟩
        · rw [hd] at h2
          subst h2
          obtain ⟨mA, hns, _⟩ := (show ObjOk X.prog X.w H s.heap dd (.xd fs) from I.hok dd _ hx)
          obtain ⟨o, ho, _⟩ := lookIn_ns hns
          exact ⟨some o, hget, rfl, rfl, ho⟩
      obtain ⟨cd, hcd⟩ : ∃ cd, PySem.W.clsIn X.K D = some cd := by
        obtain ⟨cd, hc, _⟩ := PySem.W.any_some C.hd
        exact ⟨cd, hc⟩
      exact PySem.W.kia_one (PySem.W.kitx_exc (by rw [hcd]; rfl) C.hg C.hk C.hs C.ha C.hn C.ht C.hm) I.kIn J e (fun z => nomatch z) fun tk => ⟨.bl b, H, I.kept (t' := tk) fun _ _ z => z, rfl, q⟩
end En

namespace En
open PySem PySem.Spec PyProof.Rows L2

abbrev Fn := List W → Sto → R W
/-- where a parameter's value comes from: a positional value, a keyword, a default -/
inductive Src where
  | pos (i : Nat) | kw (j : Nat) | dfl (d : D)
structure Tb where
  fn : List Fn
  cn : List D
  kc : List (Fn × List Src) := []
  mt : List (Fn × List Src) := []
  nw : List (Fn × List Src) := []
  pr : List Fn := []
  sup : List (Str × List Str) := []
  exn : List (Str × List Str) := []
  xc : Option (Nat × Str × List Str × List D) := none

inductive Bop where | add | sub | mul | mod | fdiv | pow
inductive Cop where | eq | ne | lt | le | gt | ge | isN | notN | inn | notIn
/-- built-in functions by name -/
inductive Bf where | len | abs | max | min | sum | all | any | str | int | isInst | list | tuple | sorted | divmod
  deriving DecidableEq
/-- asked where an exception is handled, too -/
def Bf.cold : Bf → Bool
  | .len => true | .abs => true | .str => true | .int => true | .list => true | .tuple => true | .divmod => true | .sorted => true | _ => false
/-- methods of built-in types -/
inductive Mf where | append | join | split | index | pop | ljust | rjust | rstrip
  deriving DecidableEq
abbrev Pl := Nat × List Str

mutual
inductive E where
  | var (i : Nat) | int (i : Int) | str (s : Str) | bl (b : Bool) | non | glo (n : Nat)
  | op (z : Bool) (o : Bop) (a b : E) | neg (a : E)
  | cmp (o : Cop) (a b : E) | chn (o o' : Cop) (a b c : E)
  | and (l : EL) | or (l : EL) | not (a : E) | ite (t : T) (a b : E)
  | tup (l : A) | lst (z : Bool) (l : A)
  | ix (a b : E) | sl (z : Bool) (a : E) (lo hi : O)
  | call (n : Nat) (l : A) (ps : List Pl)
  | bi (z : Bool) (f : Bf) (l : A)
  | isi (a : E) (ty : String)
  | me (z : Bool) (m : Mf) (o : E) (l : A)
  | lc (z : Bool) (own : List (Str × Nat)) (g : G) (s : Sc) (t : T) (e : E)
  | frz (i : Nat)
  | fld (c f : Str) (a : E)
  | kc (q : Nat) (l k : A) (ps : List Pl)
  | mth (q : Nat) (c m : Str) (o : E) (l k : A) (ps : List Pl)
  | mk (q : Nat) (c : Str) (l k : A)
  | fst (l : A) | fmt (a : E) | me0 (z : Bool) (m : Mf) (o : E)
  | gcd (a b : E)
  | prop (q : Nat) (c f : Str) (a : E)
  | mxd (a d : E)
  | xf (i : Nat) (f : Str) | xis (i : Nat) (x : Str)
inductive EL where
  | one (e : E) | cons (e : E) (l : EL)
inductive A where
  | nil | cons (e : E) (l : A)
inductive O where
  | no | so (e : E)
inductive T where
  | yes | val (e : E) | tru (e : E) | cmp (o : Cop) (a b : E) | chn (o o' : Cop) (a b c : E) | and (l : TL) | or (l : TL) | not (t : T)
inductive TL where
  | one (t : T) | cons (t : T) (l : TL)
/-- what is walked -/
inductive Sc where
  | seq (e : E) | rng1 (a : E) | rng2 (a b : E) | enm (e : E) | chars (e : E) | rng3 (a b c : E)
/-- a target -/
inductive G where
  | nm (i : Nat) | tup (l : GL) | two (a b : Nat)
inductive GL where
  | nil | cons (g : G) (l : GL)
end
mutual
inductive S where
  | set (i : Nat) (e : E) | asg (g : G) (e : E) | aug (i : Nat) (o : Bop) (e : E)
  | setIx (o i e : E)
  | ex (e : E) | ret (e : E) | retN | iff (t : T) (a b : B)
  | fo (g : G) (s : Sc) (b : B) (ks : List Nat) | wh (t : T) (b : B) (ks : List Nat)
  | brk | cont | pass | nop (ks : List Nat)
  | setF (c f : Str) (o e : E) | fz (i : Nat) | dead
  | augIx (o j : E) (p : Bop) (e : E)
  | raise (c : Str) (l : A) (z : Bool)
  | tr (b : B) (h : HL)
inductive B where
  | nil | cons (s : S) (b : B)
/-- handlers: the class, the name, the suite -/
inductive HL where
  | nil | cons (c : Str) (i : Option Nat) (b : B) (l : HL)
end

/-! ### operations on values -/
def ok1 (d : D) (S : Sto) : R W := .ok (.d d) S
def mkL (z : Bool) (l : List D) (S : Sto) : R W := if z then .ok (.d (.lst l)) S else .ok (.m S.length) (S ++ [some (.lst l)])
/-- the items of a list -/
def lv (S : Sto) : W → Option (List D)
  | .d (.lst l) => some l
  | .m i => (match S[i]? with
    | some (some (.lst l)) => some l
    | _ => none)
  | _ => none
/-- the items of a list or tuple that is read -/
def sv (S : Sto) : W → Option (List D)
  | .d (.lst l) => some l
  | .d (.tup l) => some l
  | .d (.ro l) => some l
  | .m i => (match S[i]? with
    | some (some (.lst l)) => some l
    | _ => none)
  | _ => none
/-- the items of a list that is read -/
def qv (S : Sto) : W → Option (List D)
  | .d (.lst l) => some l
  | .d (.ro l) => some l
  | .m i => (match S[i]? with
    | some (some (.lst l)) => some l
    | _ => none)
  | _ => none
def mulOk (i j : Int) : Bool := decide (i.natAbs < 2 ^ 64 ∨ j.natAbs < 2 ^ 64)
def bin (z : Bool) : Bop → W → W → Sto → R W
  | .add, .d (.int i), .d (.int j), S => ok1 (.int (i + j)) S
  | .add, .d (.str s), .d (.str t), S => if s.length + t.length ≤ sizeLine then ok1 (.str (s ++ t)) S else .st
  | .add, .d (.tup l), .d (.tup m), S => if l.isEmpty || m.isEmpty then .st else if l.length + m.length ≤ sizeLine then ok1 (.tup (l ++ m)) S else .st
  | .add, a, b, S => (match lv S a, lv S b with
    | some l, some m => if l.length + m.length ≤ sizeLine then mkL z (l ++ m) S else .st
    | _, _ => .st)
  | .sub, .d (.int i), .d (.int j), S => ok1 (.int (i - j)) S
  | .mul, .d (.int i), .d (.int j), S => if mulOk i j then ok1 (.int (i * j)) S else .st
  | .mul, .d (.str s), .d (.int n), S => if s.length = 1 ∧ n ≤ 1000 ∧ -1000 ≤ n then ok1 (.str ⟨(List.replicate n.toNat s.cps.toList).flatten.toArray⟩) S else .st
  | .mod, .d (.int i), .d (.int j), S => if 0 < j then ok1 (.int (i % j)) S else .st
  | .fdiv, .d (.int i), .d (.int j), S => if 0 < j ∧ j < 1073741824 then ok1 (.int (i / j)) S else .st
  | .pow, .d (.int i), .d (.int j), S => if 0 ≤ j ∧ j ≤ 1000000 ∧ i.natAbs < 2 ^ 64 then ok1 (.int (i ^ j.toNat)) S else .st
  | _, _, _, _ => .st
/-- two values of one scalar kind, or one of them None -/
def sceq : D → D → Option Bool
  | .int i, .int j => some (decide (i = j))
  | .str s, .str t => some (decide (s = t))
  | .bl a, .bl b => some (decide (a = b))
  | .non, .non => some true
  | .non, .int _ => some false
  | .int _, .non => some false
  | .non, .str _ => some false
  | .str _, .non => some false
  | .non, .bl _ => some false
  | .bl _, .non => some false
  | _, _ => none
mutual
/-- data that == reads -/
def toPy : D → Option PyData
  | .non => some .none
  | .bl b => some (.bool b)
  | .int i => some (.int i)
  | .str s => some (.str s)
  | .lst l => (toPys l).map .list
  | .tup l => (toPys l).map .tuple
  | _ => none
def toPys : List D → Option (List PyData)
  | [] => some []
  | a :: l => (match toPy a, toPys l with
    | some x, some xs => some (x :: xs)
    | _, _ => none)
end
/-- == of data -/
def deq (a b : D) : Option Bool := match sceq a b with
  | some r => some r
  | none => (match toPy a, toPy b with
    | some p, some q => if SeqAt.shaped p && SeqAt.shaped q then some (PyData.eqv p q) else none
    | _, _ => none)
/-- the data that a value is -/
def pk (S : Sto) : W → Option D
  | .d x => some x
  | .m i => (match S[i]? with
    | some (some (.lst l)) => some (.lst l)
    | _ => none)
def flatD : D → Bool
  | .non => true | .bl _ => true | .int _ => true | .str _ => true | _ => false
def feq : D → D → Bool
  | .int i, .int j => decide (i = j)
  | .str s, .str t => decide (s = t)
  | .bl a, .bl b => decide (a = b)
  | .bl a, .int j => decide ((if a then 1 else 0) = j)
  | .int i, .bl b => decide (i = (if b then 1 else 0))
  | .non, .non => true
  | _, _ => false
def inOf (x : D) (l : List D) : Bool := l.any fun y => feq y x
def cmpI (o : Cop) (i j : Int) : Option Bool := match o with
  | .lt => some (decide (i < j))
  | .le => some (decide (i ≤ j))
  | .gt => some (decide (j < i))
  | .ge => some (decide (j ≤ i))
  | _ => none
def cmpW (o : Cop) (a b : W) (S : Sto) : Option Bool := match o with
  | .eq => (match pk S a, pk S b with
    | some x, some y => deq x y
    | _, _ => none)
  | .ne => (match pk S a, pk S b with
    | some x, some y => (deq x y).map not
    | _, _ => none)
  | .isN => (match a, b with
    | .d .non, .d .non => some true
    | _, .d .non => some false
    | _, _ => none)
  | .notN => (match a, b with
    | .d .non, .d .non => some false
    | _, .d .non => some true
    | _, _ => none)
  | .inn => (match a, b with
    | .d (.str c), .d (.str s) => if c.length = 1 then some (decide (c.cps[0]! ∈ s.cps.toList)) else none
    | .d (.str k), .d (.kd _ ks l) => some (((ks.zip l).lookup k).isSome)
    | .d x, w => (match sv S w with
      | some l => if flatD x && l.all flatD then some (inOf x l) else none
      | none => none)
    | _, _ => none)
  | .notIn => (match a, b with
    | .d (.str c), .d (.str s) => if c.length = 1 then some (!decide (c.cps[0]! ∈ s.cps.toList)) else none
    | .d (.str k), .d (.kd _ ks l) => some (!((ks.zip l).lookup k).isSome)
    | .d x, w => (match sv S w with
      | some l => if flatD x && l.all flatD then some (!inOf x l) else none
      | none => none)
    | _, _ => none)
  | o => (match a, b with
    | .d (.int i), .d (.int j) => cmpI o i j
    | _, _ => none)
/-- truth -/
def tru (S : Sto) : W → Option Bool
  | .d .non => some false
  | .d (.bl b) => some b
  | .d (.int i) => some (i != 0)
  | .d (.str s) => if s.length ≤ sizeLine then some (s.length != 0) else none
  | w => (sv S w).map fun l => !l.isEmpty
def optR (o : Option D) (S : Sto) : R W := match o with
  | some d => ok1 d S
  | none => .st
def ixW (a b : W) (S : Sto) : R W := match a, b with
  | .d (.str s), .d (.int i) => if s.length ≤ sizeLine then (match atI s.cps.toList i with
    | some c => ok1 (.str ⟨#[c]⟩) S
    | none => .st) else .st
  | .d (.kd _ ks l), .d (.str k) => optR (((ks.zip l).lookup k).map .int) S
  | w, .d (.int i) => (match sv S w with
    | some l => (match atI l i with
      | some x => ok1 x S
      | none => .st)
    | none => .st)
  | _, _ => .st
def cutD (xs : List D) (lo hi : Option Int) : List D := (xs.drop (HT.sIx xs.length 0 lo)).take (HT.sIx xs.length xs.length hi - HT.sIx xs.length 0 lo)
def slW (z : Bool) (a : W) (lo hi : Option Int) (S : Sto) : R W := match a with
  | .d (.str s) => if s.length ≤ sizeLine then ok1 (.str (cutS s lo hi)) S else .st
  | .d (.ro l) => mkL z (cutD l lo hi) S
  | .d (.tup l) => ok1 (.tup (cutD l lo hi)) S
  | w => (match lv S w with
    | some l => mkL z (cutD l lo hi) S
    | none => .st)
def allInt : List D → Option (List Int)
  | [] => some []
  | .int i :: l => (allInt l).map (i :: ·)
  | _ :: _ => none
def allBl : List D → Option (List Bool)
  | [] => some []
  | .bl i :: l => (allBl l).map (i :: ·)
  | _ :: _ => none
def allStr : List D → Option (List Str)
  | [] => some []
  | .str i :: l => (allStr l).map (i :: ·)
  | _ :: _ => none
def maxL : List Int → Int
  | [] => 0
  | [a] => a
  | a :: l => if a < maxL l then maxL l else a
def minL : List Int → Int
  | [] => 0
  | [a] => a
  | a :: l => if minL l < a then minL l else a
def insI (a : Int) : List Int → List Int
  | [] => [a]
  | b :: l => if a ≤ b then a :: b :: l else b :: insI a l
def sortI : List Int → List Int
  | [] => []
  | a :: l => insI a (sortI l)
def b2i (b : Bool) : Int := if b then 1 else 0
def biW (z : Bool) (f : Bf) (ws : List W) (S : Sto) : R W := match f, ws with
  | .len, [.d (.str s)] => if s.length ≤ sizeLine then ok1 (.int s.length) S else .st
  | .len, [w] => optR ((sv S w).map fun l => .int l.length) S
  | .abs, [.d (.int i)] => ok1 (.int (if i < 0 then -i else i)) S
  | .max, [.d (.int i), .d (.int j)] => ok1 (.int (if j > i then j else i)) S
  | .min, [.d (.int i), .d (.int j)] => ok1 (.int (if j < i then j else i)) S
  | .max, [w] => (match (qv S w).bind allInt with
    | some (a :: l) => ok1 (.int (maxL (a :: l))) S
    | _ => .st)
  | .min, [w] => (match (qv S w).bind allInt with
    | some (a :: l) => ok1 (.int (minL (a :: l))) S
    | _ => .st)
  | .divmod, [.d (.int i), .d (.int j)] => if 0 < j ∧ j < 1073741824 then ok1 (.tup [.int (i / j), .int (i % j)]) S else .st
  | .sorted, [w] => (match (qv S w).bind allInt with
    | some l => if l.length ≤ sizeLine then mkL z ((sortI l).map .int) S else .st
    | _ => .st)
  | .tuple, [w] => (match lv S w with
    | some l => ok1 (.tup l) S
    | none => (match w with
      | .d (.tup l) => ok1 (.tup l) S
      | .d (.ro l) => ok1 (.tup l) S
      | _ => .st))
  | .all, [w] => optR (((qv S w).bind allBl).map fun l => .bl (l.all id)) S
  | .any, [w] => optR (((qv S w).bind allBl).map fun l => .bl (l.any id)) S
  | .sum, [w] => optR (((sv S w).bind allInt).map fun l => .int l.sum) S
  | .str, [.d (.int i)] => if i.natAbs.log2 < 1920 then ok1 (.str (toString i)) S else .st
  | .int, [.d (.int i)] => ok1 (.int i) S
  | .int, [.d (.bl b)] => ok1 (.int (b2i b)) S
  | .int, [.d (.str s)] => if s.length ≤ 640 then optR ((PySem.intText? s).map .int) S else .st
  | .list, [w] => (match sv S w with
    | some l => mkL z l S
    | none => .st)
  | _, _ => .st
/-- isinstance against a built-in class -/
def isiW (ty : String) (w : W) (S : Sto) : Option Bool := match w with
  | .d (.bl _) => if ty = "bool" then some true else if ty = "list" then some false else if ty = "int" then some true else none
  | .d (.int _) => if ty = "bool" then some false else if ty = "list" then some false else if ty = "int" then some true else none
  | .d (.lst _) => if ty = "list" then some true else if ty = "bool" then some false else none
  | .m i => (match S[i]? with
    | some (some (.lst _)) => if ty = "list" then some true else if ty = "bool" then some false else none
    | _ => none)
  | _ => none
def joinLen (a : Str) (ys : List Str) : Nat := (ys.map (·.length)).sum + ys.length * a.length
def meW (z : Bool) (m : Mf) (o : W) (ws : List W) (S : Sto) : R W := match m, o, ws with
  | .append, .m i, [.d x] => (match S[i]? with
    | some (some (.lst l)) => if l.length < sizeLine then .ok (.d .non) (S.set i (some (.lst (l ++ [x])))) else .st
    | _ => .st)
  | .join, .d (.str a), [w] => (match (sv S w).bind allStr with
    | some ys => if joinLen a ys ≤ 16777216 then ok1 (.str (Txt.join a ys)) S else .st
    | none => .st)
  | .split, .d (.str a), [.d (.str b)] => if b.length ≠ 0 ∧ a.length + 2 ≤ sizeLine then mkL z ((Txt.split a b).map .str) S else .st
  | .ljust, .d (.str a), [.d (.int i)] => if PadOk i then ok1 (.str (Txt.ljust a i)) S else .st
  | .rjust, .d (.str a), [.d (.int i)] => if PadOk i then ok1 (.str (Txt.rjust a i)) S else .st
  | .rstrip, .d (.str a), [] => if a.length ≤ sizeLine then ok1 (.str (Txt.rstrip a)) S else .st
  | .index, w, [.d x] => (match qv S w with
    | some l => if flatD x && l.all flatD then (match l.findIdx? (fun y => feq y x) with
      | some j => ok1 (.int j) S
      | none => .st) else .st
    | none => .st)
  | _, _, _ => .st

/-- the receiver is of the method's type -/
def meTy (S : Sto) : Mf → W → Bool
  | .append, w => (lv S w).isSome
  | .pop, w => (lv S w).isSome
  | .index, w => (qv S w).isSome
  | .join, .d (.str _) => true
  | .split, .d (.str _) => true
  | .ljust, .d (.str _) => true
  | .rjust, .d (.str _) => true
  | .rstrip, .d (.str _) => true
  | _, _ => false
/-! ### places, calls -/
def plc (e : Env') (S : Sto) (p : Pl) : Option Nat := match e[p.1]?, p.2 with
  | some (some (.m i)), [] => some i
  | _, _ => none
def renW (js : List Nat) : W → Option W
  | .d x => some (.d x)
  | .m i => (js.idxOf? i).map .m
def renWs (js : List Nat) : List W → Option (List W)
  | [] => some []
  | w :: ws => (match renW js w, renWs js ws with
    | some x, some l => some (x :: l)
    | _, _ => none)
def renO : Ob → Option Ob
  | .lst l => some (.lst l)
  | _ => none
/-- the objects at these places -/
def subS (S : Sto) : List Nat → Option Sto
  | [] => some []
  | j :: js => (match S[j]? with
    | some (some o) => (match renO o, subS S js with
      | some u, some l => some (some u :: l)
      | _, _ => none)
    | _ => none)
def plcs (e : Env') (S : Sto) : List Pl → Option (List Nat)
  | [] => some []
  | p :: ps => (match plc e S p, plcs e S ps with
    | some j, some l => some (j :: l)
    | _, _ => none)
/-- written back -/
def wbS (S : Sto) : List Nat → Sto → Sto
  | [], r => S ++ r
  | j :: js, o :: r => wbS (S.set j o) js r
  | _ :: _, [] => S
def wbW (n : Nat) (js : List Nat) : W → W
  | .d x => .d x
  | .m i => (match js[i]? with
    | some j => .m j
    | none => .m (n + (i - js.length)))
/-- only flat objects behind -/
def flatS (S : Sto) : Bool := S.all fun o => match o with
  | some (.mat _) => false
  | some (.ins _ _ _) => false
  | _ => true
def callF (F : Fn) (ws : List W) (e : Env') (ps : List Pl) (S : Sto) : R W := match plcs e S ps with
  | none => .st
  | some js => if js.Nodup then (match renWs js ws, subS S js with
    | some us, some Sc => (match F us Sc with
      | .ok w S' => if flatS S' && decide (js.length ≤ S'.length) then .ok (wbW S.length js w) (wbS S js S') else .st
      | .ex c ns l S' => if flatS S' && decide (js.length ≤ S'.length) then .ex c ns l (wbS S js S') else .st
      | .st => .st)
    | _, _ => .st) else .st

/-! ### what is forgotten -/
def kill (e : Env') : List Nat → Env'
  | [] => e
  | k :: ks => kill (e.set k none) ks
def refW (n : Nat) : W → Bool
  | .d _ => true
  | .m i => decide (i < n)
def refO (n : Nat) : Option Ob → Bool
  | some (.mat l) => l.all fun i => decide (i < n)
  | some (.ins _ _ l) => l.all (refW n)
  | _ => true
def trimOk (n : Nat) (e : Env') (S : Sto) : Bool := (e.all fun w => match w with
  | some w => refW n w
  | none => true) && (S.take n).all (refO n)
def trim (n : Nat) (e : Env') (S : Sto) : Sto := if S.length ≤ n then S else if trimOk n e S then S.take n else S

/-! ### statements' ends -/
inductive SR where
  | nx (e : Env') (S : Sto) | rt (w : W) (S : Sto) | bk (e : Env') (S : Sto) | ct (e : Env') (S : Sto)
  | ex (c : Str) (ns : List Str) (l : List D) (e : Env') (S : Sto) | st
def R.sr {α : Type} (e : Env') : R α → (α → Sto → SR) → SR
  | .ok a S, f => f a S
  | .ex c ns l S, _ => .ex c ns l e S
  | .st, _ => .st
def SR.bind : SR → (Env' → Sto → SR) → SR
  | .nx e S, f => f e S
  | r, _ => r
/-- the turns of a loop -/
def loopF (tg : W → Env' → Sto → Option Env') (body : Env' → Sto → SR) (ks : List Nat) (n : Nat) : List W → Env' → Sto → SR
  | [], e, S => .nx e S
  | w :: ws, e, S => (match tg w e S with
    | none => .st
    | some e1 => (match body e1 S with
      | .nx e2 S2 => loopF tg body ks n ws (kill e2 ks) (trim n (kill e2 ks) S2)
      | .ct e2 S2 => loopF tg body ks n ws (kill e2 ks) (trim n (kill e2 ks) S2)
      | .bk e2 S2 => .nx (kill e2 ks) (trim n (kill e2 ks) S2)
      | r => r))
def loopW (test : Env' → Sto → R Bool) (body : Env' → Sto → SR) (ks : List Nat) (n : Nat) : Nat → Env' → Sto → SR
  | 0, _, _ => .st
  | f + 1, e, S => (test e S).sr e fun b S1 => match b with
    | false => .nx e S1
    | true => (match body e S1 with
      | .nx e2 S2 => loopW test body ks n f (kill e2 ks) (trim n (kill e2 ks) S2)
      | .ct e2 S2 => loopW test body ks n f (kill e2 ks) (trim n (kill e2 ks) S2)
      | .bk e2 S2 => .nx (kill e2 ks) (trim n (kill e2 ks) S2)
      | r => r)
/-- a comprehension's turns: the items so far -/
def loopC (tg : W → Env' → Sto → Option Env') (test : Env' → Sto → R Bool) (el : Env' → Sto → R W) : List W → Env' → List D → Sto → R (List D)
  | [], _, acc, S => .ok acc S
  | w :: ws, e, acc, S => (match tg w e S with
    | none => .st
    | some e1 => (test e1 S).bind fun b S1 => match b with
      | false => loopC tg test el ws e acc S1
      | true => (el e1 S1).bind fun x S2 => match x with
        | .d y => if acc.length < sizeLine then loopC tg test el ws e (acc ++ [y]) S2 else .st
        | .m _ => .st)
def R.noX {α : Type} : R α → R α
  | .ok a S => .ok a S
  | _ => .st
def rngL (lo : Int) (n : Nat) : List W := (List.range n).map fun (k : Nat) => W.d (.int (lo + (k : Int)))
def enmL (k : Nat) : List D → List W
  | [] => []
  | x :: l => .d (.tup [.int k, x]) :: enmL (k + 1) l
def optB (o : Option Bool) (S : Sto) : R Bool := match o with
  | some b => .ok b S
  | none => .st
def optBW (o : Option Bool) (S : Sto) : R W := match o with
  | some b => .ok (.d (.bl b)) S
  | none => .st
def getE (e : Env') (i : Nat) (S : Sto) : R W := match e[i]? with
  | some (some w) => .ok w S
  | _ => .st
def frzI (e : Env') (i : Nat) (S : Sto) : R W := match e[i]? with
  | some (some (.m j)) => (match S[j]? with
    | some (some (.lst l)) => .ok (.d (.lst l)) (S.set j none)
    | _ => .st)
  | some (some w) => .ok w S
  | _ => .st
def intPart (w : W) (S : Sto) : R (Option Int) := match w with
  | .d (.int i) => .ok (some i) S
  | _ => .st
def rngL3 (lo c : Int) (n : Nat) : List W := (List.range n).map fun (k : Nat) => W.d (.int (lo + (k : Int) * c))
def rngN (i j c : Int) : Option Nat := if c ≠ 0 ∧ c.natAbs < 1073741824 ∧ Builtin.Range.small i j c = true ∧ 0 ≤ Builtin.Range.rangeSize i j c ∧ (Builtin.Range.rangeSize i j c).toNat ≤ 1000000 then some (Builtin.Range.rangeSize i j c).toNat else none
def rngOk (i : Int) : Bool := decide (-1000000 ≤ i ∧ i ≤ 1000000)

/-! ### the interpreter -/
def dats : List W → Option (List D)
  | [] => some []
  | .d x :: l => (dats l).map (x :: ·)
  | .m _ :: _ => none
/-! ### calls by keywords, of methods, of classes -/
def srcW (ws zs : List W) : Src → Option W
  | .pos i => ws[i]?
  | .kw j => zs[j]?
  | .dfl d => some (.d d)
def arr (ws zs : List W) : List Src → Option (List W)
  | [] => some []
  | s :: r => (match srcW ws zs s, arr ws zs r with
    | some w, some l => some (w :: l)
    | _, _ => none)
def callA (o : Option (Fn × List Src)) (ws zs : List W) (e : Env') (ps : List Pl) (S : Sto) : R W := match o with
  | some (F, src) => (match arr ws zs src with
    | some us => callF F us e ps S
    | none => .st)
  | none => .st
/-- an instance of the class c, its attributes -/
def insV (S : Sto) : W → Option (Str × List Str × List W)
  | .d (.ins c ns l) => some (c, ns, l.map .d)
  | .m i => (match S[i]? with
    | some (some (.ins c ns l)) => some (c, ns, l)
    | _ => none)
  | _ => none
def insOk (S : Sto) (c m : Str) (x : W) : Bool := match insV S x with
  | some (c', ns, _) => decide (c' = c) && !ns.contains m
  | none => false
def fldW (c f : Str) (x : W) (S : Sto) : R W := match insV S x with
  | some (c', ns, l) => if c' = c then (match (ns.zip l).lookup f with
    | some w => .ok w S
    | none => .st) else .st
  | none => .st
def makeF (F : Fn) (c : Str) (us : List W) (S : Sto) : R W := match F us [some (Ob.ins c [] [])] with
  | .ok (.d .non) S' => (match S'[0]? with
    | some (some (Ob.ins c' ns l)) => if c' = c ∧ ns.length ≤ l.length then (match dats l with
      | some ds => ok1 (.ins c ns ds) S
      | none => .st) else .st
    | _ => .st)
  | .ex c' ns l _ => .ex c' ns l S
  | _ => .st
def makeA (o : Option (Fn × List Src)) (c : Str) (ws zs : List W) (S : Sto) : R W := match o with
  | some (F, src) => if (dats ws).isSome && (dats zs).isSome then (match arr (.m 0 :: ws) zs src with
    | some us => makeF F c us S
    | none => .st) else .st
  | none => .st
def fmtW (x : W) (S : Sto) : R W := match x with
  | .d (.str y) => if y.length ≤ sizeLine then ok1 (.str y) S else .st
  | .d (.int i) => if i.natAbs.log2 < 1920 then ok1 (.str (toString i)) S else .st
  | _ => .st
/-- an attribute is put -/
def putN (f : Str) : List Str → List Str
  | [] => [f]
  | g :: r => if g = f then g :: r else g :: putN f r
def putW (f : Str) (v : W) : List Str → List W → List W
  | [], _ => [v]
  | g :: r, x :: l => if g = f then v :: l else x :: putW f v r l
  | _ :: _, [] => []
mutual
def evE (t : Tb) : E → Env' → Sto → R W
  | .var i, e, S => getE e i S
  | .int i, _, S => ok1 (.int i) S
  | .str s, _, S => ok1 (.str s) S
  | .bl b, _, S => ok1 (.bl b) S
  | .non, _, S => ok1 .non S
  | .glo n, _, S => optR t.cn[n]? S
  | .op z o a b, e, S => (evE t a e S).bind fun x S => (evE t b e S).bind fun y S => bin z o x y S
  | .neg a, e, S => (evE t a e S).bind fun x S => (match x with
    | .d (.int i) => ok1 (.int (-i)) S
    | _ => .st)
  | .cmp o a b, e, S => (evE t a e S).bind fun x S => (evE t b e S).bind fun y S => optBW (cmpW o x y S) S
  | .chn o o' a b c, e, S => (evE t a e S).bind fun x S => (evE t b e S).bind fun y S => (optB (cmpW o x y S) S).bind fun k S => match k with
    | true => (evE t c e S).bind fun w S => optBW (cmpW o' y w S) S
    | false => ok1 (.bl false) S
  | .and l, e, S => evAnd t l e S
  | .or l, e, S => evOr t l e S
  | .not a, e, S => (evE t a e S).bind fun x S => (match x with
    | .d (.bl b) => ok1 (.bl !b) S
    | _ => .st)
  | .ite c a b, e, S => (evT t c e S).bind fun k S => match k with
    | true => evE t a e S
    | false => evE t b e S
  | .tup l, e, S => (evA t l e S).bind fun ws S => (match dats ws with
    | some ds => if ds.length ≤ sizeLine then ok1 (.tup ds) S else .st
    | none => .st)
  | .lst z l, e, S => (evA t l e S).bind fun ws S => (match dats ws with
    | some ds => if ds.length ≤ sizeLine then mkL z ds S else .st
    | none => .st)
  | .ix a b, e, S => (evE t a e S).bind fun x S => (evE t b e S).bind fun y S => ixW x y S
  | .sl z a lo hi, e, S => (evE t a e S).bind fun x S => (evO t lo e S).bind fun l S => (evO t hi e S).bind fun h S => slW z x l h S
  | .call n l ps, e, S => (evA t l e S).bind fun ws S => (match t.fn[n]? with
    | some F => callF F ws e ps S
    | none => .st)
  | .bi z f l, e, S => (evA t l e S).bind fun ws S => biW z f ws S
  | .isi a ty, e, S => (evE t a e S).bind fun x S => optBW (isiW ty x S) S
  | .me z m o l, e, S => (evE t o e S).bind fun x S => if meTy S m x then (evA t l e S).bind fun ws S => meW z m x ws S else .st
  | .lc z own g s tt el, e, S => (evSc t s e S).bind fun ws S => (loopC (evG g) (fun e S => evT t tt e S) (fun e S => evE t el e S) ws (kill e (own.map (·.2))) [] S).noX.bind fun l S => mkL z l S
  | .frz i, e, S => frzI e i S
  | .fld c f a, e, S => (evE t a e S).bind fun x S => fldW c f x S
  | .kc q l k ps, e, S => (evA t l e S).bind fun ws S => (evA t k e S).bind fun zs S => callA t.kc[q]? ws zs e ps S
  | .mth q c m o l k ps, e, S => (evE t o e S).bind fun x S => if insOk S c m x then (evA t l e S).bind fun ws S => (evA t k e S).bind fun zs S => callA t.mt[q]? (x :: ws) zs e ps S else .st
  | .mk q c l k, e, S => (evA t l e S).bind fun ws S => (evA t k e S).bind fun zs S => makeA t.nw[q]? c ws zs S
  | .me0 z m o, e, S => (evE t o e S).bind fun x S => if meTy S m x then meW z m x [] S else .st
  | .fst l, e, S => evJ t l Str.empty e S
  | .fmt a, e, S => (evE t a e S).bind fun x S => fmtW x S
  | .gcd a b, e, S => (evE t a e S).bind fun x S => (evE t b e S).bind fun y S => (match x, y with
    | .d (.int i), .d (.int j) => ok1 (.int ((Nat.gcd i.natAbs j.natAbs : Nat) : Int)) S
    | _, _ => .st)
  | .prop q c f o, e, S => (evE t o e S).bind fun x S => if insOk S c f x then (match t.pr[q]? with
    | some F => (callF F [x] e [] S).noX
    | none => .st) else .st
  | .mxd a b, e, S => (evE t a e S).bind fun x S => (evE t b e S).bind fun y S => (match (qv S x).bind allInt, y with
    | some [], .d d => ok1 d S
    | some (i :: l), _ => ok1 (.int (maxL (i :: l))) S
    | _, _ => .st)
  | .xf i f, e, S => (match t.xc, e[i]? with
    | some (j, _, ns, l), some (some (.m k)) => if j = k then optR ((ns.zip l).lookup f) S else .st
    | _, _ => .st)
  | .xis i x, e, S => (match t.xc, e[i]? with
    | some (j, c, _, _), some (some (.m k)) => if j = k then (match t.sup.lookup c with
      | some us => ok1 (.bl (us.contains x)) S
      | none => .st) else .st
    | _, _ => .st)
def evJ (t : Tb) : A → Str → Env' → Sto → R W
  | .nil, acc, _, S => ok1 (.str acc) S
  | .cons a l, acc, e, S => (evE t a e S).bind fun x S => (match x with
    | .d (.str y) => if (acc ++ y).length ≤ sizeLine then evJ t l (acc ++ y) e S else .st
    | _ => .st)
def evAnd (t : Tb) : EL → Env' → Sto → R W
  | .one a, e, S => evE t a e S
  | .cons a l, e, S => (evE t a e S).bind fun x S => (match x with
    | .d (.bl true) => evAnd t l e S
    | .d (.bl false) => ok1 (.bl false) S
    | _ => .st)
def evOr (t : Tb) : EL → Env' → Sto → R W
  | .one a, e, S => evE t a e S
  | .cons a l, e, S => (evE t a e S).bind fun x S => (match x with
    | .d (.bl false) => evOr t l e S
    | .d (.bl true) => ok1 (.bl true) S
    | _ => .st)
def evA (t : Tb) : A → Env' → Sto → R (List W)
  | .nil, _, S => .ok [] S
  | .cons a l, e, S => (evE t a e S).bind fun x S => (evA t l e S).bind fun xs S => .ok (x :: xs) S
def evO (t : Tb) : O → Env' → Sto → R (Option Int)
  | .no, _, S => .ok none S
  | .so a, e, S => (evE t a e S).bind fun x S => intPart x S
def evT (t : Tb) : T → Env' → Sto → R Bool
  | .yes, _, S => .ok true S
  | .val a, e, S => (evE t a e S).bind fun x S => (match x with
    | .d (.bl b) => .ok b S
    | _ => .st)
  | .tru a, e, S => (evE t a e S).bind fun x S => optB (tru S x) S
  | .cmp o a b, e, S => (evE t a e S).bind fun x S => (evE t b e S).bind fun y S => optB (cmpW o x y S) S
  | .chn o o' a b c, e, S => (evE t a e S).bind fun x S => (evE t b e S).bind fun y S => (optB (cmpW o x y S) S).bind fun k S => match k with
    | true => (evE t c e S).bind fun w S => optB (cmpW o' y w S) S
    | false => .ok false S
  | .and l, e, S => evTA t l e S
  | .or l, e, S => evTO t l e S
  | .not a, e, S => (evT t a e S).bind fun b S => .ok (!b) S
def evTA (t : Tb) : TL → Env' → Sto → R Bool
  | .one a, e, S => evT t a e S
  | .cons a l, e, S => (evT t a e S).bind fun b S => match b with
    | true => evTA t l e S
    | false => .ok false S
def evTO (t : Tb) : TL → Env' → Sto → R Bool
  | .one a, e, S => evT t a e S
  | .cons a l, e, S => (evT t a e S).bind fun b S => match b with
    | true => .ok true S
    | false => evTO t l e S
/-- the items that are walked -/
def evSc (t : Tb) : Sc → Env' → Sto → R (List W)
  | .seq a, e, S => (evE t a e S).bind fun x S => (match x with
    | .d (.lst l) => .ok (l.map .d) S
    | .d (.tup l) => .ok (l.map .d) S
    | .d (.ro l) => .ok (l.map .d) S
    | _ => .st)
  | .rng1 a, e, S => (evE t a e S).bind fun x S => (match x with
    | .d (.int i) => if rngOk i then .ok (rngL 0 i.toNat) S else .st
    | _ => .st)
  | .rng2 a b, e, S => (evE t a e S).bind fun x S => (evE t b e S).bind fun y S => (match x, y with
    | .d (.int i), .d (.int j) => if rngOk i && rngOk j then .ok (rngL i (j - i).toNat) S else .st
    | _, _ => .st)
  | .rng3 a b c, e, S => (evE t a e S).bind fun x S => (evE t b e S).bind fun y S => (evE t c e S).bind fun z S => (match x, y, z with
    | .d (.int i), .d (.int j), .d (.int c) => (match rngN i j c with
      | some n => .ok (rngL3 i c n) S
      | none => .st)
    | _, _, _ => .st)
  | .enm a, e, S => (evE t a e S).bind fun x S => (match x with
    | .d (.lst l) => .ok (enmL 0 l) S
    | .d (.ro l) => .ok (enmL 0 l) S
    | .d (.tup l) => .ok (enmL 0 l) S
    | _ => .st)
  | .chars a, e, S => (evE t a e S).bind fun x S => (match x with
    | .d (.str s) => .ok (s.cps.toList.map fun c => .d (.str ⟨#[c]⟩)) S
    | _ => .st)
def evG : G → W → Env' → Sto → Option Env'
  | .nm i, w, e, _ => if i < e.length then some (e.set i (some w)) else none
  | .tup l, w, e, S => (match w with
    | .d (.tup ds) => evGL l ds e S
    | _ => none)
  | .two _ _, _, _, _ => none
def evGL : GL → List D → Env' → Sto → Option Env'
  | .nil, [], e, _ => some e
  | .cons g l, x :: xs, e, S => (match evG g (.d x) e S with
    | some e1 => evGL l xs e1 S
    | none => none)
  | _, _, _, _ => none
end
def augV : Bop → Int → Int → Option Int
  | .add, u, v => some (u + v)
  | .sub, u, v => some (u - v)
  | _, _, _ => none
def augI (p : Bop) (q : Nat) (i : Int) (n : Nat) (u : Int) (y : W) (e : Env') (S : Sto) : SR := match S[q]?, y with
  | some (some (.lst l)), .d (.int v) => (match augV p u v with
    | some z => if ixN l.length i = some n then .nx e (S.set q (some (.lst (l.set n (.int z))))) else .st
    | none => .st)
  | _, _ => .st
def SR.noX : SR → SR
  | .ex _ _ _ _ _ => .st
  | r => r
/-- a handler's name is gone behind its suite -/
def SR.off (i : Nat) : SR → SR
  | .nx e S => .nx (e.set i none) S
  | .bk e S => .bk (e.set i none) S
  | .ct e S => .ct (e.set i none) S
  | r => r
mutual
def evS (t : Tb) : S → Env' → Sto → SR
  | .set i a, e, S => (evE t a e S).sr e fun w S => if i < e.length then .nx (e.set i (some w)) S else .st
  | .asg g a, e, S => (evE t a e S).sr e fun w S => (match evG g w e S with
    | some e1 => .nx e1 S
    | none => .st)
  | .aug i o a, e, S => (match e[i]? with
    | some (some x) => (evE t a e S).sr e fun y S => (match o, x, y with
      | .add, .d (.int a), .d (.int b) => .nx (e.set i (some (.d (.int (a + b))))) S
      | .sub, .d (.int a), .d (.int b) => .nx (e.set i (some (.d (.int (a - b))))) S
      | .mul, .d (.int a), .d (.int b) => if mulOk a b then .nx (e.set i (some (.d (.int (a * b))))) S else .st
      | _, _, _ => .st)
    | _ => .st)
  | .setIx o j a, e, S => (evE t a e S).sr e fun x S => (evE t o e S).sr e fun l S => (evE t j e S).sr e fun k S => (match l, k, x with
    | .m q, .d (.int i), .d y => (match S[q]? with
      | some (some (.lst l)) => (match ixN l.length i with
        | some n => .nx e (S.set q (some (.lst (l.set n y))))
        | none => .st)
      | _ => .st)
    | _, _, _ => .st)
  | .ex a, e, S => (evE t a e S).sr e fun _ S => .nx e S
  | .ret a, e, S => (evE t a e S).sr e fun w S => .rt w S
  | .retN, e, S => .rt (.d .non) S
  | .iff c a b, e, S => (evT t c e S).sr e fun k S => match k with
    | true => evB t a e S
    | false => evB t b e S
  | .fo g s b ks, e, S => (evSc t s e S).sr e fun ws S => loopF (evG g) (fun e S => evB t b e S) ks S.length ws e S
  | .wh c b ks, e, S => loopW (fun e S => evT t c e S) (fun e S => evB t b e S) ks S.length 100000 e S
  | .brk, e, S => .bk e S
  | .cont, e, S => .ct e S
  | .pass, e, S => .nx e S
  | .nop ks, e, S => .nx (kill e ks) S
  | .setF c f o a, e, S => (evE t a e S).sr e fun y S => (evE t o e S).sr e fun x S => (match x with
    | .m q => (match S[q]? with
      | some (some (.ins c' ns l)) => if c' = c ∧ ns.length < 1000 ∧ ns.length = l.length then .nx e (S.set q (some (.ins c (putN f ns) (putW f y ns l)))) else .st
      | _ => .st)
    | _ => .st)
  | .fz i, e, S => (match e[i]? with
    | some (some (.m j)) => (match S[j]? with
      | some (some (.lst l)) => .nx (e.set i (some (.d (.lst l)))) (S.set j none)
      | _ => .st)
    | _ => .st)
  | .dead, _, _ => .st
  | .augIx o j p a, e, S => (evE t o e S).sr e fun l S => (evE t j e S).sr e fun k S => (match l, k with
    | .m q, .d (.int i) => (match S[q]? with
      | some (some (.lst l)) => (match ixN l.length i with
        | some n => (match l[n]? with
          | some (.int u) => (evE t a e S).sr e fun y S => augI p q i n u y e S
          | _ => .st)
        | none => .st)
      | _ => .st)
    | _, _ => .st)
  | .raise c l _, e, S => (evA t l e S).sr e fun ws S => (match t.exn.lookup c, dats ws with
    | some [], some ds => if ds.length ≤ 1000 then .ex c [] [] e S else .st
    | some (f :: ns), some ds => if ds.length = (f :: ns).length then .ex c (f :: ns).reverse ds.reverse e S else .st
    | _, _ => .st)
  | .tr b h, e, S => (match evB t b e S with
    | .ex c ns l e1 S1 => evH t h c ns l e1 S1
    | r => r)
def evB (t : Tb) : B → Env' → Sto → SR
  | .nil, e, S => .nx e S
  | .cons s b, e, S => (evS t s e S).bind fun e S => evB t b e S
def evH (t : Tb) : HL → Str → List Str → List D → Env' → Sto → SR
  | .nil, c, ns, l, e, S => .ex c ns l e S
  | .cons x i b h, c, ns, l, e, S => (match t.sup.lookup c with
    | none => .st
    | some us => if us.contains x then (match i with
        | none => (evB { t with xc := none } b e S).noX
        | some i => ((evB { t with xc := some (S.length, c, ns, l) } b (e.set i (some (.m S.length))) (S ++ [none])).off i).noX) else evH t h c ns l e S)
end
/-- a def: np parameters, n names in all -/
def run (t : Tb) (np n : Nat) (b : B) : Fn := fun ws S => if ws.length = np then (match evB t b (ws.map some ++ List.replicate (n - ws.length) none) S with
  | .nx _ S' => .ok (.d .non) (trim S.length [] S')
  | .rt w S' => .ok w (trim S.length [some w] S')
  | .ex c ns l _ S' => .ex c ns l (trim S.length [] S')
  | _ => .st) else .st
end En

namespace En
open PySem PySem.Spec PyProof.Rows L2

/-! ### readings out of results -/
/-- what is wanted of an exception: its class, its own dict -/
def RepX (K : KW) (G : Hp) (cls : Value) (d : Option Addr) (c : Str) (ns : List Str) (l : List D) : Prop :=
  cls = .ref (He.ga K.K c) ∧ ((ns = [] ∧ l = [] ∧ d = none) ∨ ∃ a vs, d = some a ∧ G a = some (.xd (ns.zip vs)) ∧ ns.length = vs.length ∧ RepL K G l vs)
section
variable (K : KW) (Z : Ent)
def QG {α γ : Type} (rep : Hp → List Addr → α → γ → Prop) (e : Env') (σ : L2.St) (Wx : WX) (G : Hp) (B : List Addr) (Q : γ → Hp → Prop) : R α → Prop
  | .ok w S' => ∀ v H' G' B', SimH K Z G' B' S' H' → Ext G B G' B' → rep G' B' w v → Q v H'
  | .ex c ns l S' => ∀ cls d H' G' B', SimH K Z G' B' S' H' → Ext G B G' B' → RepX K G' cls d c ns l → Wx cls d σ H'
  | .st => False
def rV : Hp → List Addr → W → V → Prop := RepW K
def rVs : Hp → List Addr → List W → List V → Prop := RepWs K
def rB : Hp → List Addr → Bool → Bool → Prop := fun _ _ a b => b = a
def rO : Hp → List Addr → Option Int → Option Int → Prop := fun _ _ a b => b = a
def tG {α γ : Type} (rep : Hp → List Addr → α → γ → Prop) (Wx : WX) (f : Env' → Sto → R α) : L2.St → Hp → (γ → Hp → Prop) → Prop := fun σ H Q =>
  ∃ G B e S, Sim K Z G B e S σ H ∧ QG K Z rep e σ Wx G B Q (f e S)
end
section
variable {K : KW} {Z : Ent} {e : Env'} {σ : L2.St} {Wx : WX} {G : Hp} {B : List Addr}
theorem QG.ext {α γ : Type} {rep : Hp → List Addr → α → γ → Prop} {Q : γ → Hp → Prop} {G1 : Hp} {B1 : List Addr} (x : Ext G B G1 B1) : ∀ {r : R α}, QG K Z rep e σ Wx G B Q r → QG K Z rep e σ Wx G1 B1 Q r
  | .ok w S', h => fun v H' G' B' s x' => h v H' G' B' s (x.trans x')
  | .ex c ns l S', h => fun cls d H' G' B' s x' => h cls d H' G' B' s (x.trans x')
  | .st, h => h
theorem QG.bind {α γ α' γ' : Type} {rep : Hp → List Addr → α → γ → Prop} {rep' : Hp → List Addr → α' → γ' → Prop} {Q : γ → Hp → Prop} {Q' : γ' → Hp → Prop} {g : α → Sto → R α'} : ∀ {r : R α}, QG K Z rep' e σ Wx G B Q' (r.bind g) →
    (∀ x H1 G1 B1 w S1, r = .ok w S1 → SimH K Z G1 B1 S1 H1 → Ext G B G1 B1 → rep G1 B1 w x → QG K Z rep' e σ Wx G1 B1 Q' (g w S1) → Q x H1) → QG K Z rep e σ Wx G B Q r
  | .ok w S', h, k => fun v H' G' B' s x r => k v H' G' B' w S' rfl s x r (QG.ext x h)
  | .ex c ns l S', h, k => h
  | .st, h, k => h
theorem QG.mono {α γ : Type} {rep : Hp → List Addr → α → γ → Prop} {Q Q' : γ → Hp → Prop} (k : ∀ v H, Q v H → Q' v H) : ∀ {r : R α}, QG K Z rep e σ Wx G B Q r → QG K Z rep e σ Wx G B Q' r
  | .ok w S', h => fun v H' G' B' s x r => k _ _ (h v H' G' B' s x r)
  | .ex c ns l S', h => h
  | .st, h => h
theorem QG.here {α γ : Type} {rep : Hp → List Addr → α → γ → Prop} {Q : γ → Hp → Prop} {w : α} {S : Sto} {v : γ} {H : Hp} (h : QG K Z rep e σ Wx G B Q (.ok w S)) (s : SimH K Z G B S H) (r : rep G B w v) : Q v H := h v H G B s (Ext.refl G B) r
end
theorem PE.imp {X : Cx} {e : Expr} {t t' : TE} (h : PE X e t) (k : ∀ σ H Q, t' σ H Q → t σ H Q) : PE X e t' := ⟨fun pins s σ H Q I q => h.run pins s σ H Q I (k σ H Q q)⟩
theorem PT.imp {X : Cx} {e : Expr} {t t' : TT} (h : PT X e t) (k : ∀ σ H Q, t' σ H Q → t σ H Q) : PT X e t' := ⟨fun pins s σ H Q I q => h.run pins s σ H Q I (k σ H Q q)⟩
theorem PW.imp {X : Cx} {e : Expr} {t t' : TT} (h : PW X e t) (k : ∀ σ H Q, t' σ H Q → t σ H Q) : PW X e t' := ⟨fun wh pins s σ H Q I q => h.run wh pins s σ H Q I (k σ H Q q)⟩
theorem PA.imp {X : Cx} {e : List Expr} {t t' : TA} (h : PA X e t) (k : ∀ σ H Q, t' σ H Q → t σ H Q) : PA X e t' := ⟨fun pos pins s σ H Q I q => h.run pos pins s σ H Q I (k σ H Q q)⟩
theorem PO.imp {X : Cx} {e : Option Expr} {t t' : TO} (h : PO X e t) (k : ∀ σ H Q, t' σ H Q → t σ H Q) : PO X e t' := ⟨fun pins s σ H Q I q => h.run pins s σ H Q I (k σ H Q q)⟩
theorem PS.imp {X : Cx} {e : Stmt} {t t' : TS} (h : PS X e t) (k : ∀ D σ H, t' D σ H → t D σ H) : PS X e t' := ⟨fun pins s σ H D I q => h.run pins s σ H D I (k D σ H q)⟩
theorem PSs.imp {X : Cx} {e : List Stmt} {t t' : TS} (h : PSs X e t) (k : ∀ D σ H, t' D σ H → t D σ H) : PSs X e t' := ⟨fun pins s σ H D I q => h.run pins s σ H D I (k D σ H q)⟩

/-! ### the heap's steps -/
section
variable {K : KW} {Z : Ent} {G H : Hp} {B : List Addr} {S : Sto}
theorem SimH.sub {a : Addr} {o : HO} (s : SimH K Z G B S H) (h : G a = some o) : H a = some o := s.gh a o h
theorem SimH.pre_app (s : SimH K Z G B S H) (u : List Addr) : ∃ t, B ++ u = Z.B ++ t := by
  obtain ⟨t, e⟩ := s.pre
  exact ⟨t ++ u, by rw [e, List.append_assoc]⟩
theorem SimH.fresh {p : Addr} (s : SimH K Z G B S H) (h : H p = none) : G p = none ∧ Z.H p = none := by
  refine ⟨?_, ?_⟩
  · cases e : G p with
    | none => rfl
    | some o =>
      rw [s.gh p o e] at h
      cases h
  · cases e : Z.H p with
    | none => rfl
    | some o => exact absurd h (s.dom p (by rw [e]; intro z; cases z))
theorem ObR.keep {G' H' : Hp} {B' : List Addr} {a : Addr} (x : Ext G B G' B') (k : ∀ o, H a = some o → H' a = some o) : ∀ {o : Ob}, ObR K G B H a o → ObR K G' B' H' a o
  | .lst l, h => by
    obtain ⟨vs, h1, h2, h3⟩ := h
    exact ⟨vs, k _ h1, h2, RepL.mono x.sub _ _ h3⟩
  | .mat l, h => by
    obtain ⟨vs, h1, h2, h3⟩ := h
    refine ⟨vs, k _ h1, h2, ?_⟩
    clear h1 h2
    obtain ⟨t, e⟩ := x.pre
    revert vs
    induction l with
    | nil => exact fun vs h3 => h3
    | cons i r ih =>
      intro vs h3
      obtain ⟨b, u, e1, e2, e3⟩ := h3
      exact ⟨b, u, e1, by rw [e]; exact pre_get e2, ih _ e3⟩
  | .ins c ns l, h => by
    obtain ⟨dx, vs, h1, h2, h3⟩ := h
    exact ⟨dx, vs, k _ h1, h2, RepWs.mono x h3⟩
  | .dk ks l, h => by
    obtain ⟨vs, h1, h2, h3⟩ := h
    exact ⟨vs, k _ h1, h2, RepL.mono x.sub _ _ h3⟩
/-- a new object that is still from now on -/
theorem SimH.newG {p : Addr} {o : HO} (s : SimH K Z G B S H) (h : H p = none) : SimH K Z (upd G p o) B S (upd H p o) ∧ Ext G B (upd G p o) B := by
  obtain ⟨g0, e0⟩ := s.fresh h
  have x : Ext G B (upd G p o) B := ⟨Sub.new g0, [], by simp⟩
  refine ⟨⟨fun a u q => ?_, s.len, fun i u q => ?_, s.inj, fun a u q1 q2 => ?_, fun a q1 q2 => ?_, s.mono.trans x.sub, fun a q => ?_, s.pre⟩, x⟩
  · by_cases z : a = p
    · subst z
      rw [upd_same] at q ⊢
      exact q
    · rw [upd_ne z] at q ⊢
      exact s.gh a u q
  · obtain ⟨a, e1, e2, e3, e4⟩ := s.ob i u q
    have z : a ≠ p := by
      rintro rfl
      have : ∃ v, H a = some v := by
        cases u with
        | lst l => obtain ⟨vs, h1, _⟩ := e3; exact ⟨_, h1⟩
        | mat l => obtain ⟨vs, h1, _⟩ := e3; exact ⟨_, h1⟩
        | ins c ns l => obtain ⟨dx, vs, h1, _⟩ := e3; exact ⟨_, h1⟩
        | dk ks l => obtain ⟨vs, h1, _⟩ := e3; exact ⟨_, h1⟩
      obtain ⟨v, hv⟩ := this
      rw [h] at hv
      cases hv
    exact ⟨a, e1, by rw [upd_ne z]; exact e2, e3.keep x fun o q => by rw [upd_ne z]; exact q, e4⟩
  · rw [upd_ne (ne_of_none (s.fr a u q1 q2) h)]
    exact s.fr a u q1 q2
  · have z : a ≠ p := by
      rintro rfl
      exact q1 e0
    rw [upd_ne z]
    exact s.fg a q1 q2
  · by_cases z : a = p
    · subst z
      rw [upd_same]
      intro y
      cases y
    · rw [upd_ne z]
      exact s.dom a q
/-- a new object that may change -/
theorem SimH.newM {p : Addr} {o : HO} {u : Ob} (s : SimH K Z G B S H) (h : H p = none) (r : ∀ B', Ext G B G B' → ObR K G B' (upd H p o) p u) : SimH K Z G (B ++ [p]) (S ++ [some u]) (upd H p o) ∧ Ext G B G (B ++ [p]) := by
  obtain ⟨g0, e0⟩ := s.fresh h
  have x : Ext G B G (B ++ [p]) := ⟨Sub.refl G, [p], rfl⟩
  have there : ∀ {a : Addr} {v : Ob}, ObR K G B H a v → a ≠ p := fun {a v} e3 => by
    rintro rfl
    have : ∃ v, H a = some v := by
      cases v with
      | lst l => obtain ⟨vs, h1, _⟩ := e3; exact ⟨_, h1⟩
      | mat l => obtain ⟨vs, h1, _⟩ := e3; exact ⟨_, h1⟩
      | ins c ns l => obtain ⟨dx, vs, h1, _⟩ := e3; exact ⟨_, h1⟩
      | dk ks l => obtain ⟨vs, h1, _⟩ := e3; exact ⟨_, h1⟩
    obtain ⟨v, hv⟩ := this
    rw [h] at hv
    cases hv
  have split : ∀ (i : Nat) (v : Ob), (S ++ [some u])[i]? = some (some v) → (i < S.length ∧ S[i]? = some (some v)) ∨ (i = S.length ∧ v = u) := fun i v q => by
    by_cases hi : i < S.length
    · rw [List.getElem?_append_left hi] at q
      exact .inl ⟨hi, q⟩
    · rw [List.getElem?_append_right (Nat.le_of_not_lt hi)] at q
      cases k : i - S.length with
      | zero =>
        rw [k] at q
        simp at q
        exact .inr ⟨by omega, q.symm⟩
      | succ n =>
        rw [k] at q
        simp at q
  have bat : ∀ (i : Nat) (a : Addr), i < S.length → (B ++ [p])[i]? = some a → B[i]? = some a := fun i a hi q => by
    rw [List.getElem?_append_left (by rw [s.len]; exact hi)] at q
    exact q
  have bend : (B ++ [p])[S.length]? = some p := by
    rw [List.getElem?_append_right (by rw [s.len]; exact Nat.le_refl _), s.len]
    simp
  refine ⟨⟨fun a v q => ?_, by simp [s.len], fun i v q => ?_, fun i j v v' a q1 q2 b1 b2 => ?_, fun a v q1 q2 => ?_, s.fg, s.mono, fun a q => ?_, s.pre_app [p]⟩, x⟩
  · rw [upd_ne (ne_of_none (s.gh a v q) h)]
    exact s.gh a v q
  · rcases split i v q with ⟨hi, q⟩ | ⟨rfl, rfl⟩
    · obtain ⟨a, e1, e2, e3, e4⟩ := s.ob i v q
      exact ⟨a, pre_get e1, e2, e3.keep x fun o q => by rw [upd_ne (there e3)]; exact q, e4⟩
    · exact ⟨p, bend, g0, r _ x, .inr e0⟩
  · rcases split i v q1 with ⟨hi, p1⟩ | ⟨p1, _⟩
    · rcases split j v' q2 with ⟨hj, p2⟩ | ⟨p2, _⟩
      · exact s.inj i j v v' a p1 p2 (bat i a hi b1) (bat j a hj b2)
      · rw [p2, bend] at b2
        obtain ⟨c, e1, e2, e3, e4⟩ := s.ob i v p1
        rw [bat i a hi b1] at e1
        cases e1
        cases b2
        exact absurd rfl (there e3)
    · rcases split j v' q2 with ⟨hj, p2⟩ | ⟨p2, _⟩
      · rw [p1, bend] at b1
        obtain ⟨c, e1, e2, e3, e4⟩ := s.ob j v' p2
        rw [bat j a hj b2] at e1
        cases e1
        cases b1
        exact absurd rfl (there e3)
      · rw [p1, p2]
  · rw [upd_ne (ne_of_none (s.fr a v q1 q2) h)]
    exact s.fr a v q1 q2
  · by_cases z : a = p
    · subst z
      rw [upd_same]
      intro y
      cases y
    · rw [upd_ne z]
      exact s.dom a q
theorem ObR.there {a : Addr} : ∀ {v : Ob}, ObR K G B H a v → ∃ o, H a = some o
  | .lst l, h => by obtain ⟨vs, h1, _⟩ := h; exact ⟨_, h1⟩
  | .mat l, h => by obtain ⟨vs, h1, _⟩ := h; exact ⟨_, h1⟩
  | .ins c ns l, h => by obtain ⟨dx, vs, h1, _⟩ := h; exact ⟨_, h1⟩
  | .dk ks l, h => by obtain ⟨vs, h1, _⟩ := h; exact ⟨_, h1⟩
/-- a thing that may change changes -/
theorem SimH.set {i : Nat} {a : Addr} {o : HO} {u v : Ob} (s : SimH K Z G B S H) (hi : S[i]? = some (some v)) (ha : B[i]? = some a) (r : ObR K G B (upd H a o) a u) : SimH K Z G B (S.set i (some u)) (upd H a o) := by
  obtain ⟨a', e1, e2, e3, e4⟩ := s.ob i v hi
  rw [ha] at e1
  cases e1
  have lt : i < S.length := (List.getElem?_eq_some_iff.mp hi).1
  have look : ∀ (j : Nat) (w : Ob), (S.set i (some u))[j]? = some (some w) → (j = i ∧ w = u) ∨ (j ≠ i ∧ S[j]? = some (some w)) := fun j w q => by
    by_cases z : j = i
    · subst z
      rw [List.getElem?_set_self lt] at q
      exact .inl ⟨rfl, by cases q; rfl⟩
    · rw [List.getElem?_set_ne (Ne.symm z)] at q
      exact .inr ⟨z, q⟩
  have oth : ∀ {j : Nat} {w : Ob} {b : Addr}, j ≠ i → S[j]? = some (some w) → B[j]? = some b → b ≠ a := fun {j w b} hj hw hb z => by
    subst z
    exact hj (s.inj j i w v _ hw hi hb ha)
  refine ⟨fun b w q => ?_, by rw [List.length_set]; exact s.len, fun j w q => ?_, fun j k w w' b q1 q2 b1 b2 => ?_, fun b w q1 q2 => ?_, s.fg, s.mono, fun b q => ?_, s.pre⟩
  · have z : b ≠ a := by
      rintro rfl
      rw [e2] at q
      cases q
    rw [upd_ne z]
    exact s.gh b w q
  · rcases look j w q with ⟨rfl, rfl⟩ | ⟨hj, q⟩
    · exact ⟨a, ha, e2, r, e4⟩
    · obtain ⟨b, d1, d2, d3, d4⟩ := s.ob j w q
      exact ⟨b, d1, d2, d3.keep (Ext.refl G B) fun o q' => by rw [upd_ne (oth hj q d1)]; exact q', d4⟩
  · rcases look j w q1 with ⟨p1, _⟩ | ⟨hj, p1⟩
    · rcases look k w' q2 with ⟨p2, _⟩ | ⟨hk, p2⟩
      · rw [p1, p2]
      · rw [p1, ha] at b1
        cases b1
        exact absurd rfl (oth hk p2 b2)
    · rcases look k w' q2 with ⟨p2, _⟩ | ⟨hk, p2⟩
      · rw [p2, ha] at b2
        cases b2
        exact absurd rfl (oth hj p1 b1)
      · exact s.inj j k w w' b p1 p2 b1 b2
  · have z : b ≠ a := by
      rintro rfl
      rcases e4 with e4 | e4
      · exact q2 e4
      · rw [e4] at q1
        cases q1
    rw [upd_ne z]
    exact s.fr b w q1 q2
  · by_cases z : b = a
    · subst z
      rw [upd_same]
      intro y
      cases y
    · rw [upd_ne z]
      exact s.dom b q
/-- a list comes to rest -/
theorem SimH.rest {i : Nat} {a : Addr} {o : HO} {v : Ob} (s : SimH K Z G B S H) (hi : S[i]? = some (some v)) (ha : B[i]? = some a) (ho : H a = some o) : SimH K Z (upd G a o) B (S.set i none) H ∧ Ext G B (upd G a o) B := by
  obtain ⟨a', e1, e2, e3, e4⟩ := s.ob i v hi
  rw [ha] at e1
  cases e1
  have lt : i < S.length := (List.getElem?_eq_some_iff.mp hi).1
  have x : Ext G B (upd G a o) B := ⟨Sub.new e2, [], by simp⟩
  have look : ∀ (j : Nat) (w : Ob), (S.set i none)[j]? = some (some w) → j ≠ i ∧ S[j]? = some (some w) := fun j w q => by
    by_cases z : j = i
    · subst z
      rw [List.getElem?_set_self lt] at q
      cases q
    · rw [List.getElem?_set_ne (Ne.symm z)] at q
      exact ⟨z, q⟩
  refine ⟨⟨fun b w q => ?_, by rw [List.length_set]; exact s.len, fun j w q => ?_, fun j k w w' b q1 q2 b1 b2 => ?_, s.fr, fun b q1 q2 => ?_, s.mono.trans x.sub, s.dom, s.pre⟩, x⟩
  · by_cases z : b = a
    · subst z
      rw [upd_same] at q
      cases q
      exact ho
    · rw [upd_ne z] at q
      exact s.gh b w q
  · obtain ⟨hj, q⟩ := look j w q
    obtain ⟨b, d1, d2, d3, d4⟩ := s.ob j w q
    have z : b ≠ a := by
      rintro rfl
      exact hj (s.inj j i w v _ q hi d1 ha)
    exact ⟨b, d1, by rw [upd_ne z]; exact d2, d3.keep x fun o q' => q', d4⟩
  · exact s.inj j k w w' b (look j w q1).2 (look k w' q2).2 b1 b2
  · have z : b ≠ a := by
      rintro rfl
      rcases e4 with e4 | e4
      · exact q2 e4
      · exact q1 e4
    rw [upd_ne z]
    exact s.fg b q1 q2
end

/-! ### lists that are read -/
section
variable {K : KW} {Z : Ent} {G H : Hp} {B : List Addr} {S : Sto} {w : W} {v : V} {l : List D}
theorem lv_ok (s : SimH K Z G B S H) (r : RepW K G B w v) (h : lv S w = some l) : ∃ a vs, v = .ref a ∧ H a = some (.lst vs) ∧ vs.length ≤ sizeLine ∧ RepL K G l vs := by
  cases w with
  | d x =>
    cases x with
    | lst m =>
      simp only [lv, Option.some.injEq] at h
      subst h
      simp only [RepW, Rep] at r
      obtain ⟨a, vs, e, h1, h2, h3⟩ := r
      exact ⟨a, vs, e, s.gh _ _ h1, h2, h3⟩
    | _ => simp [lv] at h
  | m i =>
    obtain ⟨a, h1, h2⟩ := r
    simp only [lv] at h
    split at h
    · rename_i m hm
      cases h
      obtain ⟨a', e1, _, e3, _⟩ := s.ob i _ hm
      rw [h1] at e1
      cases e1
      obtain ⟨vs, q1, q2, q3⟩ := e3
      exact ⟨a, vs, h2, q1, q2, q3⟩
    · cases h
theorem sub_rdH {a : Addr} {u : HO} (s : SimH K Z G B S H) (h : Rd G a u) : Rd H a u := sub_rd s.gh h
theorem sv_ok (s : SimH K Z G B S H) (r : RepW K G B w v) (h : sv S w = some l) : ∃ a vs, v = .ref a ∧ (SqL K.K H a vs ∨ SqT K.K H a vs) ∧ vs.length ≤ sizeLine ∧ RepL K G l vs := by
  cases w with
  | d x =>
    cases x with
    | lst m =>
      simp only [sv, Option.some.injEq] at h
      subst h
      simp only [RepW, Rep] at r
      obtain ⟨a, vs, e, h1, h2, h3⟩ := r
      exact ⟨a, vs, e, .inl (SqL.of (s.gh _ _ h1)), h2, h3⟩
    | tup m =>
      simp only [sv, Option.some.injEq] at h
      subst h
      simp only [RepW, Rep] at r
      obtain ⟨a, vs, e, h1, h2, h3⟩ := r
      exact ⟨a, vs, e, .inr (sub_t s.gh h1), h2, h3⟩
    | ro m =>
      simp only [sv, Option.some.injEq] at h
      subst h
      simp only [RepW, Rep] at r
      obtain ⟨a, vs, e, h1, h2, h3⟩ := r
      exact ⟨a, vs, e, .inl (sub_l s.gh h1), h2, h3⟩
    | _ => simp [sv] at h
  | m i =>
    obtain ⟨a, h1, h2⟩ := r
    simp only [sv] at h
    split at h
    · rename_i m hm
      cases h
      obtain ⟨a', e1, _, e3, _⟩ := s.ob i _ hm
      rw [h1] at e1
      cases e1
      obtain ⟨vs, q1, q2, q3⟩ := e3
      exact ⟨a, vs, h2, .inl (SqL.of q1), q2, q3⟩
    · cases h
variable {e : Env'} {σ : L2.St} {Wx : WX} {Q : VK}
theorem QG.d1 {x : D} {v : V} (h : QG K Z (rV K) e σ Wx G B Q (ok1 x S)) (s : SimH K Z G B S H) (r : Rep K G x v) : Q v H := QG.here h s r
theorem QG.mkL {z : Bool} {vs : List V} (h : QG K Z (rV K) e σ Wx G B Q (mkL z l S)) (s : SimH K Z G B S H) (r : RepL K G l vs) (hz : vs.length ≤ sizeLine) : ∀ p, H p = none → Q (.ref p) (upd H p (.lst vs)) := fun p hp => by
  unfold En.mkL at h
  cases z with
  | true =>
    obtain ⟨s1, x⟩ := s.newG (o := .lst vs) hp
    refine h _ _ _ _ s1 x ?_
    show Rep K _ (.lst l) _
    simp only [Rep]
    exact ⟨p, vs, rfl, upd_same, hz, RepL.mono x.sub _ _ r⟩
  | false =>
    obtain ⟨s1, x⟩ := s.newM (o := .lst vs) (u := .lst l) hp fun B' x => ⟨vs, upd_same, hz, RepL.mono x.sub _ _ r⟩
    refine h _ _ _ _ s1 x ⟨p, ?_, rfl⟩
    rw [← s.len, List.getElem?_append_right (Nat.le_refl _)]
    simp
theorem QG.newT {vs : List V} (h : QG K Z (rV K) e σ Wx G B Q (ok1 (.tup l) S)) (s : SimH K Z G B S H) (r : RepL K G l vs) (hz : vs.length ≤ sizeLine) : ∀ p, H p = none → Q (.ref p) (upd H p (.tup vs)) := fun p hp => by
  obtain ⟨s1, x⟩ := s.newG (o := .tup vs) hp
  refine h _ _ _ _ s1 x ?_
  show Rep K _ (.tup l) _
  simp only [Rep]
  exact ⟨p, vs, rfl, SqT.of upd_same, hz, RepL.mono x.sub _ _ r⟩
end
end En

namespace En
open PySem PySem.Spec PyProof.Rows L2

/-! ### operators -/
def Bop.op : Bop → Operator
  | .add => .Add | .sub => .Sub | .mul => .Mult | .mod => .Mod | .fdiv => .FloorDiv | .pow => .Pow
def rAddT : R2 := fun x y H Q => ∃ i j, x = .str i ∧ y = .str j ∧ i.length + j.length ≤ sizeLine ∧ Q (.str (i ++ j)) H
def repS (s : Str) (n : Int) : Str := ⟨(List.replicate n.toNat s.cps.toList).flatten.toArray⟩
def rMulT : R2 := fun x y H Q => ∃ (s : Str) (n : Int), x = .str s ∧ y = .int n ∧ s.length = 1 ∧ n ≤ 1000 ∧ -1000 ≤ n ∧ Q (.str (repS s n)) H
theorem rep_foldl (c : Array Nat) : ∀ (n : Nat) (a : Array Nat), ((List.replicate n c).foldl (· ++ ·) a).toList = a.toList ++ (List.replicate n c.toList).flatten
  | 0, a => by simp
  | n + 1, a => by
    rw [List.replicate_succ, List.foldl_cons, rep_foldl c n, List.replicate_succ, List.flatten_cons, Array.toList_append, List.append_assoc]
theorem op_mulT {X : Cx} : OpR X (binaryOp .Mult) rMulT := by
  intro pins s σ H x y v u Q I rx ry h
  obtain ⟨z, n, rfl, rfl, hz, h1, h2, q⟩ := h
  obtain ⟨t, rfl⟩ := rx
  obtain ⟨t', rfl⟩ := ry
  have fin : ∀ (v : Str) (tk : Nat), v = repS z n → EP X pins σ Q (.str v tk) { s with toks := s.toks + 1 } := fun v tk e => by
    subst e
    exact ⟨.str (repS z n), H, I.tok _, ⟨_, rfl⟩, q⟩
  have len : (repS z n).length = n.toNat := by
    show ((List.replicate n.toNat z.cps.toList).flatten.toArray).size = n.toNat
    rw [List.size_toArray, List.length_flatten, List.map_replicate, List.sum_replicate_nat]
    have : z.cps.toList.length = 1 := hz
    rw [this, Nat.mul_one]
  refine PySem.P.mul_str (by
    rw [decide_eq_false (by omega), decide_eq_false (by omega)]
    rfl) (fun _ _ => ?_) (fun _ _ => ?_) ?_
  · rw [hz]
    have : (1 : Int) ≤ (2 ^ 63 - 1) / n := by
      rename_i hn _
      have hp : 0 < n := by omega
      rw [Int.le_ediv_iff_mul_le hp]
      omega
    omega
  · rw [hz, Nat.one_mul]
    unfold Builtin.Str.tooLong
    rw [sizeLine_eq]
    exact decide_eq_false (by omega)
  · by_cases hn : n < 1
    · rw [if_pos hn]
      refine ⟨by decide, ?_⟩
      refine fin _ _ ?_
      unfold repS
      rw [show n.toNat = 0 by omega]
      rfl
    · rw [if_neg hn]
      by_cases h3 : (n == 1 || z.length == 0) = true
      · rw [if_pos h3]
        have hn1 : n = 1 := by
          rw [hz] at h3
          simpa using h3
        show EP X pins σ Q (.str z t) s
        refine ⟨.str (repS z n), H, I, ⟨t, ?_⟩, q⟩
        congr 1
        unfold repS
        rw [hn1]
        simp
      · rw [if_neg h3]
        have e : (⟨(List.replicate n.toNat z.cps).foldl (· ++ ·) #[]⟩ : Str) = repS z n := by
          unfold repS
          congr 1
          apply Array.ext'
          rw [rep_foldl]
          simp
        refine ⟨?_, fin _ _ e⟩
        rw [e, len, sizeLine_eq]
        omega
def rdBin (K : PySem.W.Frag) : Bop → R2
  | .add => fun x y H Q => (rI0 fun i j => .int (i + j)) x y H Q ∨ (rAddT x y H Q ∨ (rCatT K x y H Q ∨ rCat x y H Q))
  | .sub => rI0 fun i j => .int (i - j)
  | .mul => fun x y H Q => (rI CMul fun i j => .int (i * j)) x y H Q ∨ rMulT x y H Q
  | .mod => rI (fun _ j => 0 < j) fun i j => .int (i % j)
  | .fdiv => rI CDiv fun i j => .int (i / j)
  | .pow => rI CPow fun i j => .int (i ^ j.toNat)
theorem opr_bin {X : Cx} : ∀ o : Bop, OpR X (binaryOp o.op) (rdBin X.K o)
  | .add => op_add.or (OpR.or op_add_str (op_catT.or op_cat))
  | .sub => op_sub
  | .mul => op_mul.or op_mulT
  | .mod => op_mod
  | .fdiv => op_fdiv
  | .pow => op_pow
theorem mulOk_ok {i j : Int} (h : mulOk i j = true) : CMul i j := by
  have h := of_decide_eq_true h
  rcases h with h | h
  · exact .inl ⟨by omega, by omega⟩
  · exact .inr ⟨by omega, by omega⟩
section
variable {K : KW} {Z : Ent} {G H : Hp} {B : List Addr} {S : Sto} {a b : W} {x y : V} {e : Env'} {σ : L2.St} {Wx : WX} {Q : VK}
theorem bin_sound {z : Bool} {o : Bop} (s : SimH K Z G B S H) (ra : RepW K G B a x) (rb : RepW K G B b y) (h : QG K Z (rV K) e σ Wx G B Q (bin z o a b S)) : rdBin K.K o x y H Q := by
  unfold bin at h
  split at h
  · simp only [RepW, Rep] at ra rb
    exact .inl ⟨_, _, ra, rb, h.d1 s (by simp only [Rep])⟩
  · simp only [RepW, Rep] at ra rb
    split at h
    · rename_i hz
      exact .inr (.inl ⟨_, _, ra, rb, hz, h.d1 s (by simp only [Rep])⟩)
    · exact h.elim
  · simp only [RepW, Rep] at ra rb
    split at h
    · exact h.elim
    · rename_i hne
      split at h
      · rename_i hz
        obtain ⟨p, vs, e1, h1, h2, h3⟩ := ra
        obtain ⟨p', vs', e1', h1', h2', h3'⟩ := rb
        have l1 := h3.length
        have l2 := h3'.length
        simp only [Bool.or_eq_true, List.isEmpty_iff, not_or] at hne
        have n1 : vs ≠ [] := by
          rintro rfl
          exact hne.1 (List.length_eq_zero_iff.mp l1)
        have n2 : vs' ≠ [] := by
          rintro rfl
          exact hne.2 (List.length_eq_zero_iff.mp l2)
        refine .inr (.inr (.inl ⟨p, p', vs, vs', e1, e1', sub_t s.gh h1, sub_t s.gh h1', n1, by omega, fun q => absurd q n2, fun _ q hq => ?_⟩))
        exact h.newT s (h3.append h3') (by rw [List.length_append]; omega) q hq
      · exact h.elim
  · split at h
    · rename_i l m hl hm
      split at h
      · rename_i hz
        obtain ⟨p, vs, e1, h1, h2, h3⟩ := lv_ok s ra hl
        obtain ⟨p', vs', e1', h1', h2', h3'⟩ := lv_ok s rb hm
        have l1 := h3.length
        have l2 := h3'.length
        exact .inr (.inr (.inr ⟨p, p', vs, vs', e1, e1', h1, h1', by omega, h.mkL s (h3.append h3') (by rw [List.length_append]; omega)⟩))
      · exact h.elim
    · exact h.elim
  · simp only [RepW, Rep] at ra rb
    exact ⟨_, _, ra, rb, h.d1 s (by simp only [Rep])⟩
  · simp only [RepW, Rep] at ra rb
    split at h
    · rename_i hz
      exact .inl ⟨_, _, ra, rb, mulOk_ok hz, h.d1 s (by simp only [Rep])⟩
    · exact h.elim
  · simp only [RepW, Rep] at ra rb
    split at h
    · rename_i hz
      exact .inr ⟨_, _, ra, rb, hz.1, hz.2.1, hz.2.2, h.d1 s (by simp only [Rep]; rfl)⟩
    · exact h.elim
  · simp only [RepW, Rep] at ra rb
    split at h
    · rename_i hz
      exact ⟨_, _, ra, rb, hz, h.d1 s (by simp only [Rep])⟩
    · exact h.elim
  · simp only [RepW, Rep] at ra rb
    split at h
    · rename_i hz
      exact ⟨_, _, ra, rb, hz, h.d1 s (by simp only [Rep])⟩
    · exact h.elim
  · simp only [RepW, Rep] at ra rb
    split at h
    · rename_i hz
      exact ⟨_, _, ra, rb, hz, h.d1 s (by simp only [Rep])⟩
    · exact h.elim
  · exact h.elim
end
end En

namespace En
open PySem PySem.Spec PyProof.Rows L2

/-! ### data that == reads -/
mutual
theorem Rep.dp {K : KW} {G H : Hp} (s : Sub G H) : ∀ (d : D) (v : V) (p : PyData), Rep K G d v → toPy d = some p → Dp K.K H v p
  | .non, v, p, h, e => by
    simp only [Rep] at h
    simp only [toPy, Option.some.injEq] at e
    subst h e
    exact .non
  | .bl b, v, p, h, e => by
    simp only [Rep] at h
    simp only [toPy, Option.some.injEq] at e
    subst h e
    exact .bl b
  | .int b, v, p, h, e => by
    simp only [Rep] at h
    simp only [toPy, Option.some.injEq] at e
    subst h e
    exact .int b
  | .str b, v, p, h, e => by
    simp only [Rep] at h
    simp only [toPy, Option.some.injEq] at e
    subst h e
    exact .str b
  | .tup l, v, p, h, e => by
    simp only [Rep] at h
    obtain ⟨a, vs, e1, h1, h2, h3⟩ := h
    simp only [toPy] at e
    cases q : toPys l with
    | none =>
      rw [q] at e
      cases e
    | some ps =>
      rw [q] at e
      cases e
      subst e1
      exact .tup (sub_t s h1) (RepL.dp s l vs ps h3 q)
  | .lst l, v, p, h, e => by
    simp only [Rep] at h
    obtain ⟨a, vs, e1, h1, h2, h3⟩ := h
    simp only [toPy] at e
    cases q : toPys l with
    | none =>
      rw [q] at e
      cases e
    | some ps =>
      rw [q] at e
      cases e
      subst e1
      exact .lst (SqL.of (s _ _ h1)) (RepL.dp s l vs ps h3 q)
  | .ro l, v, p, h, e => by simp [toPy] at e
  | .ins c ns l, v, p, h, e => by simp [toPy] at e
  | .dk ks l, v, p, h, e => by simp [toPy] at e
  | .kd x ks l, v, p, h, e => by simp [toPy] at e
theorem RepL.dp {K : KW} {G H : Hp} (s : Sub G H) : ∀ (l : List D) (vs : List V) (ps : List PyData), RepL K G l vs → toPys l = some ps → DpAll K.K H vs ps
  | [], vs, ps, h, e => by
    simp only [RepL] at h
    simp only [toPys, Option.some.injEq] at e
    subst h e
    exact .nil
  | d :: ds, vs, ps, h, e => by
    simp only [RepL] at h
    obtain ⟨v, r, e1, h1, h2⟩ := h
    simp only [toPys] at e
    cases q : toPy d with
    | none =>
      rw [q] at e
      simp at e
    | some p =>
      cases q2 : toPys ds with
      | none =>
        rw [q, q2] at e
        simp at e
      | some qs =>
        rw [q, q2] at e
        simp only [Option.some.injEq] at e
        subst e e1
        exact .cons (Rep.dp s d v p h1 q) (RepL.dp s ds r qs h2 q2)
end
section
variable {K : KW} {Z : Ent} {G H : Hp} {B : List Addr} {S : Sto} {a b : W} {x y : V} {e : Env'} {σ : L2.St} {Wx : WX}
theorem pk_dp (s : SimH K Z G B S H) (r : RepW K G B a x) {d : D} {p : PyData} (h : pk S a = some d) (e : toPy d = some p) : Dp K.K H x p := by
  cases a with
  | d y =>
    simp only [pk, Option.some.injEq] at h
    subst h
    exact Rep.dp s.gh _ _ _ r e
  | m i =>
    have hl : ∃ l, lv S (.m i) = some l ∧ d = .lst l := by
      simp only [pk] at h
      split at h
      · rename_i l hl
        cases h
        exact ⟨l, by simp only [lv, hl], rfl⟩
      · cases h
    obtain ⟨l, hl, rfl⟩ := hl
    obtain ⟨q, vs, e1, h1, h2, h3⟩ := lv_ok s r hl
    simp only [toPy] at e
    cases q2 : toPys l with
    | none =>
      rw [q2] at e
      cases e
    | some ps =>
      rw [q2] at e
      cases e
      subst e1
      exact .lst (SqL.of h1) (RepL.dp s.gh l vs ps h3 q2)
/-- a scalar stands for itself -/
theorem pk_sc (r : RepW K G B a x) : ∀ {d : D}, pk S a = some d → flatD d = true → Rep K G d x := fun {d} h f => by
  cases a with
  | d y =>
    simp only [pk, Option.some.injEq] at h
    subst h
    exact r
  | m i =>
    simp only [pk] at h
    split at h
    · cases h
      cases f
    · cases h
end
theorem sceq_ok {K : KW} {G : Hp} {a b : D} {x y : V} {r : Bool} (ra : Rep K G a x) (rb : Rep K G b y) (h : sceq a b = some r) : scal x y = true ∧ decide (x = y) = r := by
  cases a <;> cases b <;> first
    | (simp [sceq] at h; done)
    | (simp only [Rep] at ra rb
       simp only [sceq, Option.some.injEq] at h
       subst ra rb h
       refine ⟨rfl, ?_⟩
       simp)
theorem sceq_flat {a b : D} {r : Bool} (h : sceq a b = some r) : flatD a = true ∧ flatD b = true := by
  cases a <;> cases b <;> first
    | (simp [sceq] at h; done)
    | exact ⟨rfl, rfl⟩

/-! ### comparisons -/
def Cop.op : Cop → CmpOp
  | .eq => .Eq | .ne => .NotEq | .lt => .Lt | .le => .LtE | .gt => .Gt | .ge => .GtE | .isN => .Is | .notN => .IsNot | .inn => .In | .notIn => .NotIn
def rInKd (K : KW) (neg : Bool) : R2 := fun x y H Q => ∃ (z c : Str) (ks : List Str) (l : List Int), x = .str z ∧ y = .ref (He.ga K.K c) ∧ KTab K c ks l ∧ Q (.bl (if neg then !((ks.zip l).lookup z).isSome else ((ks.zip l).lookup z).isSome)) H
def rSign (neg : Bool) : R2 := fun x y H Q => ∃ (c : Nat) (z : Str), x = .str ⟨#[c]⟩ ∧ y = .str z ∧ Q (.bl (if neg then !decide (c ∈ z.cps.toList) else decide (c ∈ z.cps.toList))) H
def rdCmp (K : KW) : Cop → R2
  | .eq => fun x y H Q => rEq x y H Q ∨ rEqD K.K x y H Q
  | .ne => fun x y H Q => rNe x y H Q ∨ rNeD K.K x y H Q
  | .lt => rI0 fun i j => .bl (decide (i < j))
  | .le => rI0 fun i j => .bl (decide (i ≤ j))
  | .gt => rI0 fun i j => .bl (decide (j < i))
  | .ge => rI0 fun i j => .bl (decide (j ≤ i))
  | .isN => fun x y H Q => y = .non ∧ Q (.bl (decide (x = .non))) H
  | .notN => fun x y H Q => y = .non ∧ Q (.bl (!decide (x = .non))) H
  | .inn => fun x y H Q => rSign false x y H Q ∨ (rInKd K false x y H Q ∨ rIn K.K false x y H Q)
  | .notIn => fun x y H Q => rSign true x y H Q ∨ (rInKd K true x y H Q ∨ rIn K.K true x y H Q)
abbrev kw (X : Cx) : KW := ⟨X.K, X.w⟩
theorem lookup_some {ks : List Str} {l : List Int} {z : Str} {r : Option Value} (h : match (ks.zip l).lookup z with
  | some i => ∃ t, r = some (.int i t)
  | none => r = none) : r.isSome = ((ks.zip l).lookup z).isSome := by
  cases e : (ks.zip l).lookup z with
  | none =>
    rw [e] at h
    rw [h]
    rfl
  | some i =>
    rw [e] at h
    obtain ⟨t, h⟩ := h
    rw [h]
    rfl
theorem op_inKd {X : Cx} : OpR X (compareOp .In) (rInKd (kw X) false) := by
  intro pins s σ H x y v u Q I rx ry h
  obtain ⟨z, c, ks, l, rfl, rfl, ⟨⟨es, n, D⟩, T⟩, q⟩ := h
  obtain ⟨r, e, m⟩ := T z
  refine op_in_kd D pins s σ H _ _ v u Q I rx ry ⟨z, r, rfl, rfl, e, ?_⟩
  rw [lookup_some m]
  exact q
theorem op_notInKd {X : Cx} : OpR X (compareOp .NotIn) (rInKd (kw X) true) := by
  intro pins s σ H x y v u Q I rx ry h
  obtain ⟨z, c, ks, l, rfl, rfl, ⟨⟨es, n, D⟩, T⟩, q⟩ := h
  obtain ⟨r, e, m⟩ := T z
  refine op_notIn_kd D pins s σ H _ _ v u Q I rx ry ⟨z, r, rfl, rfl, e, ?_⟩
  rw [lookup_some m]
  exact q
theorem opr_cmp {X : Cx} (hu : X.A.units + 64 < cLine) : ∀ o : Cop, OpR X (compareOp o.op) (rdCmp (kw X) o)
  | .eq => op_eq.or (op_eqD hu)
  | .ne => op_ne.or (op_neD hu)
  | .lt => op_lt
  | .le => op_le
  | .gt => op_gt
  | .ge => op_ge
  | .isN => op_isN
  | .notN => op_notN
  | .inn => OpR.or (op_in_sign (X := X)) (OpR.or op_inKd op_in_seq)
  | .notIn => OpR.or (op_notIn_sign (X := X)) (OpR.or op_notInKd op_notIn_seq)
theorem feq_ok {K : KW} {G : Hp} {a b : D} {x y : V} (ra : Rep K G a x) (rb : Rep K G b y) (fa : flatD a = true) (fb : flatD b = true) : flatV x = true ∧ flatV y = true ∧ eqV x y = feq a b := by
  cases a <;> first
    | (cases fa; done)
    | (cases b <;> first
        | (cases fb; done)
        | (simp only [Rep] at ra rb
           subst ra rb
           refine ⟨rfl, rfl, ?_⟩
           first
             | rfl
             | (simp only [eqV, feq]
                rw [Bool.eq_iff_iff]
                simp)))
theorem inOf_ok {K : KW} {G : Hp} {a : D} {x : V} (ra : Rep K G a x) (fa : flatD a = true) : ∀ {l : List D} {vs : List V}, RepL K G l vs → l.all flatD = true → vs.all flatV = true ∧ inV x vs = inOf a l
  | [], vs, h, _ => by
    simp only [RepL] at h
    subst h
    exact ⟨rfl, rfl⟩
  | d :: ds, vs, h, f => by
    simp only [RepL] at h
    obtain ⟨v, r, e1, h1, h2⟩ := h
    subst e1
    rw [List.all_cons, Bool.and_eq_true] at f
    obtain ⟨q1, q2, q3⟩ := feq_ok h1 ra f.1 fa
    obtain ⟨q4, q5⟩ := inOf_ok ra fa h2 f.2
    refine ⟨by rw [List.all_cons, q1, q4]; rfl, ?_⟩
    unfold inV inOf at *
    rw [List.any_cons, List.any_cons, q3, q5]
theorem one_sign {c : Str} (h : c.length = 1) : c = ⟨#[c.cps[0]!]⟩ := by
  obtain ⟨⟨l⟩⟩ := c
  have h : l.length = 1 := h
  match l, h with
  | [a], _ => rfl
section
variable {K : KW} {Z : Ent} {G H : Hp} {B : List Addr} {S : Sto} {a b : W} {x y : V}
theorem deq_sound (s : SimH K Z G B S H) (ra : RepW K G B a x) (rb : RepW K G B b y) {d d' : D} {r : Bool} (ha : pk S a = some d) (hb : pk S b = some d') (h : deq d d' = some r) :
    (scal x y = true ∧ decide (x = y) = r) ∨ ∃ p q, Dp K.K H x p ∧ Dp K.K H y q ∧ SeqAt.shaped p = true ∧ SeqAt.shaped q = true ∧ PyData.eqv p q = r := by
  unfold deq at h
  cases e : sceq d d' with
  | some r' =>
    rw [e] at h
    cases h
    obtain ⟨f1, f2⟩ := sceq_flat e
    exact .inl (sceq_ok (pk_sc ra ha f1) (pk_sc rb hb f2) e)
  | none =>
    rw [e] at h
    simp only at h
    split at h
    · rename_i p q e1 e2
      split at h
      · rename_i hs
        cases h
        rw [Bool.and_eq_true] at hs
        exact .inr ⟨p, q, pk_dp s ra ha e1, pk_dp s rb hb e2, hs.1, hs.2, rfl⟩
      · cases h
    · cases h
theorem cmp_sound {o : Cop} {r : Bool} {Q : VK} (s : SimH K Z G B S H) (ra : RepW K G B a x) (rb : RepW K G B b y) (h : cmpW o a b S = some r) (q : Q (.bl r) H) : rdCmp K o x y H Q := by
  cases o
  case eq =>
    simp only [cmpW] at h
    split at h
    · rename_i d d' ha hb
      rcases deq_sound s ra rb ha hb h with ⟨h1, h2⟩ | ⟨p, p', h1, h2, h3, h4, h5⟩
      · exact .inl ⟨h1, by rw [h2]; exact q⟩
      · exact .inr ⟨p, p', h1, h2, h3, h4, by rw [h5]; exact q⟩
    · cases h
  case ne =>
    simp only [cmpW] at h
    split at h
    · rename_i d d' ha hb
      cases e : deq d d' with
      | none =>
        rw [e] at h
        cases h
      | some r' =>
        rw [e] at h
        cases h
        rcases deq_sound s ra rb ha hb e with ⟨h1, h2⟩ | ⟨p, p', h1, h2, h3, h4, h5⟩
        · exact .inl ⟨h1, by rw [h2]; exact q⟩
        · exact .inr ⟨p, p', h1, h2, h3, h4, by rw [h5]; exact q⟩
    · cases h
  case isN =>
    simp only [cmpW] at h
    split at h
    · cases h
      simp only [RepW, Rep] at ra rb
      subst ra rb
      exact ⟨rfl, q⟩
    · rename_i c hne
      cases h
      simp only [RepW, Rep] at rb
      refine ⟨rb, ?_⟩
      have n : x ≠ .non := by
        cases a with
        | d z =>
          cases z <;> simp only [RepW, Rep] at ra <;> first
            | exact absurd rfl (hne)
            | (rw [ra]; intro z; cases z)
            | (obtain ⟨_, _, e, _⟩ := ra; rw [e]; intro z; cases z)
            | (obtain ⟨_, _, _, e, _⟩ := ra; rw [e]; intro z; cases z)
            | (obtain ⟨e, _⟩ := ra; rw [e]; intro z; cases z)
        | m i =>
          obtain ⟨_, _, e⟩ := ra
          rw [e]
          intro z
          cases z
      rw [decide_eq_false n]
      exact q
    · cases h
  case notN =>
    simp only [cmpW] at h
    split at h
    · cases h
      simp only [RepW, Rep] at ra rb
      subst ra rb
      exact ⟨rfl, q⟩
    · rename_i c hne
      cases h
      simp only [RepW, Rep] at rb
      refine ⟨rb, ?_⟩
      have n : x ≠ .non := by
        cases a with
        | d z =>
          cases z <;> simp only [RepW, Rep] at ra <;> first
            | exact absurd rfl (hne)
            | (rw [ra]; intro z; cases z)
            | (obtain ⟨_, _, e, _⟩ := ra; rw [e]; intro z; cases z)
            | (obtain ⟨_, _, _, e, _⟩ := ra; rw [e]; intro z; cases z)
            | (obtain ⟨e, _⟩ := ra; rw [e]; intro z; cases z)
        | m i =>
          obtain ⟨_, _, e⟩ := ra
          rw [e]
          intro z
          cases z
      rw [decide_eq_false n]
      exact q
    · cases h
  case inn =>
    simp only [cmpW] at h
    split at h
    · split at h
      · rename_i hz
        cases h
        simp only [RepW, Rep] at ra rb
        subst ra rb
        exact .inl ⟨_, _, congrArg V.str (one_sign hz), rfl, q⟩
      · cases h
    · cases h
      simp only [RepW, Rep] at ra rb
      exact .inr (.inl ⟨_, _, _, _, ra, rb.1, rb.2, q⟩)
    · split at h
      · rename_i l hl
        split at h
        · rename_i f
          cases h
          rw [Bool.and_eq_true] at f
          obtain ⟨p, vs, e1, h1, h2, h3⟩ := sv_ok s rb hl
          obtain ⟨q4, q5⟩ := inOf_ok ra f.1 h3 f.2
          have fx : flatV x = true := by
            rename_i z _ _ _ _
            exact (feq_ok ra ra f.1 f.1).1
          exact .inr (.inr ⟨p, vs, e1, h1, fx, q4, by rw [q5]; exact q⟩)
        · cases h
      · cases h
    · cases h
  case notIn =>
    simp only [cmpW] at h
    split at h
    · split at h
      · rename_i hz
        cases h
        simp only [RepW, Rep] at ra rb
        subst ra rb
        exact .inl ⟨_, _, congrArg V.str (one_sign hz), rfl, q⟩
      · cases h
    · cases h
      simp only [RepW, Rep] at ra rb
      exact .inr (.inl ⟨_, _, _, _, ra, rb.1, rb.2, q⟩)
    · split at h
      · rename_i l hl
        split at h
        · rename_i f
          cases h
          rw [Bool.and_eq_true] at f
          obtain ⟨p, vs, e1, h1, h2, h3⟩ := sv_ok s rb hl
          obtain ⟨q4, q5⟩ := inOf_ok ra f.1 h3 f.2
          have fx : flatV x = true := (feq_ok ra ra f.1 f.1).1
          exact .inr (.inr ⟨p, vs, e1, h1, fx, q4, by rw [q5]; exact q⟩)
        · cases h
      · cases h
    · cases h
  all_goals
    simp only [cmpW, cmpI] at h
    split at h
    · cases h
      simp only [RepW, Rep] at ra rb
      exact ⟨_, _, ra, rb, q⟩
    · cases h
end
end En

namespace En
open PySem PySem.Spec PyProof.Rows L2

section
variable {K : KW} {Z : Ent} {G H : Hp} {B : List Addr} {S : Sto} {a b : W} {x y : V} {e : Env'} {σ : L2.St} {Wx : WX} {Q : VK}
theorem QG.opt {o : Option D} (h : QG K Z (rV K) e σ Wx G B Q (optR o S)) : ∃ d, o = some d ∧ QG K Z (rV K) e σ Wx G B Q (ok1 d S) := by
  cases o with
  | none => exact h.elim
  | some d => exact ⟨d, rfl, h⟩

/-! ### items -/
def rIxKd (K : KW) : R2 := fun x y H Q => ∃ (c z : Str) (ks : List Str) (l : List Int) (i : Int), x = .ref (He.ga K.K c) ∧ y = .str z ∧ KTab K c ks l ∧ (ks.zip l).lookup z = some i ∧ Q (.int i) H
theorem ix_kd {X : Cx} : IxR X (rIxKd (kw X)) := by
  intro value slice pins s σ H x y v u Q I rx ry h hs
  obtain ⟨c, z, ks, l, i, rfl, rfl, ⟨⟨es, n, D⟩, T⟩, hi, q⟩ := h
  obtain ⟨r, e1, m⟩ := T z
  rw [hi] at m
  obtain ⟨t, rfl⟩ := m
  exact ix_kdict value slice pins s σ H _ _ v u Q I rx ry ⟨_, z, .int i, rfl, rfl, ⟨es, n, .int i t, D.at_, D.lit, e1, ⟨t, rfl⟩⟩, q⟩ hs
def rdIx (K : KW) : R2 := fun x y H Q => rIxKd K x y H Q ∨ rIx K.K x y H Q
theorem opr_ix {X : Cx} : IxR X (rdIx (kw X)) := ix_kd.or ix_seq
theorem atI_rep {l : List D} {vs : List V} {i : Int} {d : D} (r : RepL K G l vs) (h : atI l i = some d) : ∃ v, atI vs i = some v ∧ Rep K G d v := by
  unfold atI at h ⊢
  rw [← r.length]
  cases e : ixN l.length i with
  | none =>
    rw [e] at h
    cases h
  | some j =>
    rw [e] at h
    obtain ⟨v, h1, h2⟩ := r.get (show l[j]? = some d from h)
    exact ⟨v, h1, h2⟩
theorem ix_sound (s : SimH K Z G B S H) (ra : RepW K G B a x) (rb : RepW K G B b y) (h : QG K Z (rV K) e σ Wx G B Q (ixW a b S)) : rdIx K x y H Q := by
  unfold ixW at h
  split at h
  · split at h
    · rename_i hz
      split at h
      · rename_i c hc
        simp only [RepW, Rep] at ra rb
        exact .inr (.inr (.inr ⟨_, _, c, ra, rb, hz, hc, h.d1 s (by simp only [Rep])⟩))
      · exact h.elim
    · exact h.elim
  · obtain ⟨d, e1, h⟩ := h.opt
    simp only [RepW, Rep] at ra rb
    simp only [Option.map_eq_some_iff] at e1
    obtain ⟨i, e1, rfl⟩ := e1
    exact .inl ⟨_, _, _, _, i, ra.1, rb, ra.2, e1, h.d1 s (by simp only [Rep])⟩
  · split at h
    · rename_i l hl
      split at h
      · rename_i d hd
        obtain ⟨p, vs, e1, h1, h2, h3⟩ := sv_ok s ra hl
        obtain ⟨v, e2, h4⟩ := atI_rep h3 hd
        simp only [RepW, Rep] at rb
        rcases h1 with h1 | h1
        · exact .inr (.inl ⟨p, vs, _, v, e1, rb, h1, e2, h.d1 s h4⟩)
        · exact .inr (.inr (.inl ⟨p, vs, _, v, e1, rb, h1, e2, h.d1 s h4⟩))
      · exact h.elim
    · exact h.elim
  · exact h.elim

/-! ### slices, sum of a tuple -/
theorem sum_intTup {prog : Program} {w : World} {A : Around} {E : Value → Shared → Prop} {s : Shared} {l : Addr} {xs : Array (Int × Tok)} {Q : Value → Shared → Prop} (hh : A.handled = none) (hl : s.heap.IsTuple l (intItems xs))
    (h : ∀ h' tk t', (∀ b o, s.heap.get? b = some o → h'.get? b = some o) → Q (.int (preSum (numAt xs) xs.size) t') { s with heap := h', toks := tk }) :
    wpAny (model prog w) A (call (.builtin "sum") [.ref l]) Q E s := by
  have hlt : l < s.heap.objs.size := by obtain ⟨_, e, _⟩ := hl; exact Heap.lt_size e
  refine call_sum_walkG (wpAny_pyIter_tuple hl ?_)
  refine ⟨_, [_, l], [_], _, _, _, numAt xs, rfl, Walks.tuple (A := A.in1) hh _ l (Nat.ne_of_lt hlt) (intItems xs), ⟨⟨_, Heap.get?_push_size _ rfl, rfl, rfl⟩, hl.push _⟩, fun b hb => ?_, (fun _ _ => intItems_at), fun h' tk t' hk => ?_⟩
  · show b < (s.heap.push _).objs.size
    rw [Heap.size_push]
    rcases List.mem_cons.mp hb with rfl | hb
    · exact Nat.lt_succ_self _
    · rcases List.mem_cons.mp hb with rfl | hb
      · exact Nat.lt_succ_of_lt hlt
      · cases hb
  · have := h h' tk t' fun b o e => by
      refine hk b o (fun hm => ?_) (Heap.get?_push_of_some _ e)
      rcases List.mem_cons.mp hm with e1 | hm
      · exact absurd (e1 ▸ Heap.lt_size e) (Nat.lt_irrefl _)
      · cases hm
    simpa [intItems] using this
def rSumT (K : PySem.W.Frag) : List V → Hp → VK → Prop := fun vs H Q => ∃ (a : Addr) (ns : List Int), vs = [V.ref a] ∧ SqT K H a (ns.map V.int) ∧ Q (.int ns.sum) H
theorem cr_sumT {X : Cx} (hc : X.calm = true) : CallR X (.builtin "sum") (rSumT X.K) := by
  intro pins s σ H vs us Q I r h
  obtain ⟨a, ns, rfl, hs, q⟩ := h
  obtain ⟨its, rv, hl, _⟩ := I.tuple hs
  rw [Vals.ref1 r]
  obtain ⟨xs, e⟩ := rv.ints.allInts.items
  have hn : numsOf (intItems xs).toList = ns := by rw [← e]; exact rv.ints.numsOf
  rw [nums_intItems] at hn
  rw [e] at hl
  refine sum_intTup (I.ok.hd hc) hl fun h' tk t' hk => ⟨.int _, H, I.kept hk, ⟨_, rfl⟩, ?_⟩
  rw [preSum_eq, List.take_of_length_le (by simp), hn]
  exact q
def rdSl (K : PySem.W.Frag) : V → Option Int → Option Int → Hp → VK → Prop := fun x lo hi H Q => rSlS x lo hi H Q ∨ rSlL K x lo hi H Q ∨ rSlA K x lo hi H Q
theorem opr_sl {X : Cx} : SlR X (rdSl X.K) := SlR.or (sl_str (X := X)) (SlR.or sl_list sl_tupA)
theorem cut_rep {l : List D} {vs : List V} {lo hi : Option Int} (r : RepL K G l vs) : RepL K G (cutD l lo hi) (cutV vs lo hi) := by
  unfold cutD cutV
  rw [r.length]
  exact RepL.take _ (RepL.drop _ r)
theorem cut_whole {l : List D} {lo hi : Option Int} (h : HT.sIx l.length 0 lo = 0 ∧ HT.sIx l.length l.length hi = l.length) : cutD l lo hi = l := by
  unfold cutD
  rw [h.1, h.2]
  simp
theorem sl_sound {z : Bool} {lo hi : Option Int} (s : SimH K Z G B S H) (ra : RepW K G B a x) (h : QG K Z (rV K) e σ Wx G B Q (slW z a lo hi S)) : rdSl K.K x lo hi H Q := by
  unfold slW at h
  split at h
  · split at h
    · rename_i hz
      simp only [RepW, Rep] at ra
      exact .inl ⟨_, ra, hz, h.d1 s (by simp only [Rep])⟩
    · exact h.elim
  · simp only [RepW, Rep] at ra
    obtain ⟨p, vs, e1, h1, h2, h3⟩ := ra
    exact .inr (.inl ⟨p, vs, e1, sub_l s.gh h1, h.mkL s (cut_rep h3) (Nat.le_trans (cutV_length _ _ _) h2)⟩)
  · rename_i l
    have ra0 := ra
    simp only [RepW, Rep] at ra
    obtain ⟨p, vs, e1, h1, h2, h3⟩ := ra
    refine .inr (.inr ⟨p, vs, e1, sub_t s.gh h1, fun hw => ?_, fun hw => h.newT s (cut_rep h3) (Nat.le_trans (cutV_length _ _ _) h2)⟩)
    have e : cutD l lo hi = l := cut_whole (by rw [h3.length]; exact hw)
    rw [e] at h
    exact e1 ▸ h.d1 s ra0
  · split at h
    · rename_i l hl
      obtain ⟨p, vs, e1, h1, h2, h3⟩ := lv_ok s ra hl
      exact .inr (.inl ⟨p, vs, e1, SqL.of h1, h.mkL s (cut_rep h3) (Nat.le_trans (cutV_length _ _ _) h2)⟩)
    · exact h.elim

/-! ### built-in functions -/
def Bf.val : Bf → Value
  | .len => .builtin "len" | .abs => .builtin "abs" | .max => .builtin "max" | .min => .builtin "min" | .sum => .builtin "sum" | .all => .builtin "all" | .any => .builtin "any"
  | .isInst => .builtin "isinstance" | .sorted => .builtin "sorted" | .divmod => .builtin "divmod"
  | .str => .type "str" | .int => .type "int" | .list => .type "list" | .tuple => .type "tuple"
def Bf.name : Bf → Str
  | .len => "len" | .abs => "abs" | .max => "max" | .min => "min" | .sum => "sum" | .all => "all" | .any => "any"
  | .isInst => "isinstance" | .sorted => "sorted" | .divmod => "divmod"
  | .str => "str" | .int => "int" | .list => "list" | .tuple => "tuple"
theorem Bf.boot : ∀ f : Bf, bootBuiltins f.name = some f.val := by
  intro f
  cases f <;> decide +kernel
def rNo : List V → Hp → VK → Prop := fun _ _ _ => False
theorem rNo_ok {X : Cx} {v : Value} : CallR X v rNo := fun _ _ _ _ _ _ _ _ _ h => h.elim
theorem CallR.or {X : Cx} {f : Value} {r r' : List V → Hp → VK → Prop} (h : CallR X f r) (h' : CallR X f r') : CallR X f (fun xs H Q => r xs H Q ∨ r' xs H Q) := by
  intro pins s σ H xs us Q I rx q
  rcases q with q | q
  · exact h pins s σ H xs us Q I rx q
  · exact h' pins s σ H xs us Q I rx q
def rMax2 : List V → Hp → VK → Prop := fun xs H Q => ∃ i j, xs = [.int i, .int j] ∧ Q (.int (if j > i then j else i)) H
def rMin2 : List V → Hp → VK → Prop := fun xs H Q => ∃ i j, xs = [.int i, .int j] ∧ Q (.int (if j < i then j else i)) H
def rLenQ (K : PySem.W.Frag) : List V → Hp → VK → Prop := fun xs H Q => ∃ p ys, xs = [.ref p] ∧ (SqL K H p ys ∨ SqT K H p ys) ∧ Q (.int ys.length) H
def rLenT : List V → Hp → VK → Prop := fun xs H Q => ∃ z, xs = [.str z] ∧ z.length ≤ sizeLine ∧ Q (.int z.length) H
def rAbs : List V → Hp → VK → Prop := fun xs H Q => ∃ i, xs = [.int i] ∧ Q (.int (if i < 0 then -i else i)) H
def rStrI : List V → Hp → VK → Prop := fun xs H Q => ∃ i, xs = [.int i] ∧ i.natAbs.log2 < 1920 ∧ Q (.str (toString i)) H
def rInt1 : List V → Hp → VK → Prop := fun xs H Q => (∃ i, xs = [.int i] ∧ Q (.int i) H) ∨ ∃ k, xs = [.bl k] ∧ Q (.int (if k then 1 else 0)) H
def rIntT : List V → Hp → VK → Prop := fun xs H Q => ∃ a n, xs = [.str a] ∧ PySem.intText? a = some n ∧ a.length ≤ 640 ∧ Q (.int n) H
def rListQ (K : PySem.W.Frag) : List V → Hp → VK → Prop := fun xs H Q => ∃ p ys, xs = [.ref p] ∧ (SqL K H p ys ∨ SqT K H p ys) ∧ ∀ l, H l = none → Q (.ref l) (upd H l (.lst ys))
def rDvm : List V → Hp → VK → Prop := fun xs H Q => ∃ i j, xs = [.int i, .int j] ∧ CDiv i j ∧ ∀ p, H p = none → Q (.ref p) (upd H p (.tup [.int (i / j), .int (i % j)]))
def rTupQ (K : PySem.W.Frag) : List V → Hp → VK → Prop := fun xs H Q => ∃ p ys, xs = [.ref p] ∧ ((SqL K H p ys ∧ ∀ l, H l = none → Q (.ref l) (upd H l (.tup ys))) ∨ (SqT K H p ys ∧ Q (.ref p) H))
def rdBi (K : PySem.W.Frag) : Bf → List V → Hp → VK → Prop
  | .len => fun xs H Q => rLenT xs H Q ∨ rLenQ K xs H Q
  | .abs => rAbs
  | .max => fun xs H Q => rMax2 xs H Q ∨ rMax K xs H Q
  | .min => fun xs H Q => rMin2 xs H Q ∨ rMin K xs H Q
  | .divmod => rDvm
  | .sorted => rSortedI K
  | .tuple => rTupQ K
  | .all => rAll K
  | .any => rAny K
  | .sum => fun xs H Q => rSum K xs H Q ∨ rSumT K xs H Q
  | .str => rStrI
  | .int => fun xs H Q => rInt1 xs H Q ∨ rIntT xs H Q
  | .list => rListQ K
  | _ => rNo
theorem opr_bi {X : Cx} : ∀ f : Bf, (f.cold = false → X.calm = true) → CallR X f.val (rdBi X.K f)
  | .len, _ => CallR.or call_len_str call_len_seq
  | .abs, _ => call_abs
  | .max, hc => CallR.or (call_max2 (hc rfl)) (cr_max (hc rfl))
  | .min, hc => CallR.or (call_min2 (hc rfl)) (cr_min (hc rfl))
  | .all, hc => cr_all (hc rfl)
  | .any, hc => cr_any (hc rfl)
  | .sum, hc => CallR.or (cr_sum (hc rfl)) (cr_sumT (hc rfl))
  | .str, _ => call_str_int
  | .int, _ => CallR.or call_int1 call_int_str
  | .list, _ => call_list_of
  | .isInst, _ => rNo_ok
  | .sorted, _ => cr_sortedI
  | .divmod, _ => call_divmod
  | .tuple, _ => call_tuple_of
theorem allInt_rep : ∀ {l : List D} {vs : List V} {ns : List Int}, RepL K G l vs → allInt l = some ns → vs = ns.map V.int
  | [], vs, ns, h, q => by
    simp only [RepL] at h
    cases q
    rw [h]
    rfl
  | d :: ds, vs, ns, h, q => by
    simp only [RepL] at h
    obtain ⟨v, r, e1, h1, h2⟩ := h
    cases d <;> simp only [allInt, Option.map_eq_some_iff, reduceCtorEq] at q
    obtain ⟨ns', q, rfl⟩ := q
    simp only [Rep] at h1
    rw [e1, h1, allInt_rep h2 q]
    rfl
theorem allBl_rep : ∀ {l : List D} {vs : List V} {ns : List Bool}, RepL K G l vs → allBl l = some ns → vs = ns.map V.bl
  | [], vs, ns, h, q => by
    simp only [RepL] at h
    cases q
    rw [h]
    rfl
  | d :: ds, vs, ns, h, q => by
    simp only [RepL] at h
    obtain ⟨v, r, e1, h1, h2⟩ := h
    cases d <;> simp only [allBl, Option.map_eq_some_iff, reduceCtorEq] at q
    obtain ⟨ns', q, rfl⟩ := q
    simp only [Rep] at h1
    rw [e1, h1, allBl_rep h2 q]
    rfl
theorem allStr_rep : ∀ {l : List D} {vs : List V} {ns : List Str}, RepL K G l vs → allStr l = some ns → vs = ns.map V.str
  | [], vs, ns, h, q => by
    simp only [RepL] at h
    cases q
    rw [h]
    rfl
  | d :: ds, vs, ns, h, q => by
    simp only [RepL] at h
    obtain ⟨v, r, e1, h1, h2⟩ := h
    cases d <;> simp only [allStr, Option.map_eq_some_iff, reduceCtorEq] at q
    obtain ⟨ns', q, rfl⟩ := q
    simp only [Rep] at h1
    rw [e1, h1, allStr_rep h2 q]
    rfl
theorem RepWs.one {vs : List V} (r : RepWs K G B [a] vs) : ∃ v, vs = [v] ∧ RepW K G B a v := by
  obtain ⟨v, r', e1, h1, h2⟩ := r
  have h2 : r' = [] := h2
  exact ⟨v, by rw [e1, h2], h1⟩
theorem RepWs.two {vs : List V} (r : RepWs K G B [a, b] vs) : ∃ v u, vs = [v, u] ∧ RepW K G B a v ∧ RepW K G B b u := by
  obtain ⟨v, r', e1, h1, h2⟩ := r
  obtain ⟨u, e2, h3⟩ := RepWs.one h2
  exact ⟨v, u, by rw [e1, e2], h1, h3⟩
/-- what is read as a list alone (all, any, sum): no tuple -/
theorem qv_ok {l : List D} (h : qv S a = some l) (s : SimH K Z G B S H) (r : RepW K G B a x) : ∃ p vs, x = .ref p ∧ SqL K.K H p vs ∧ RepL K G l vs := by
  cases a with
  | d z =>
    cases z with
    | lst m =>
      obtain ⟨p, vs, e1, h1, h2, h3⟩ := lv_ok s r (show lv S (.d (.lst m)) = some l from h)
      exact ⟨p, vs, e1, SqL.of h1, h3⟩
    | ro m =>
      simp only [qv, Option.some.injEq] at h
      subst h
      simp only [RepW, Rep] at r
      obtain ⟨p, vs, e1, h1, h2, h3⟩ := r
      exact ⟨p, vs, e1, sub_l s.gh h1, h3⟩
    | _ => simp [qv] at h
  | m i =>
    obtain ⟨p, vs, e1, h1, h2, h3⟩ := lv_ok s r (show lv S (.m i) = some l from h)
    exact ⟨p, vs, e1, SqL.of h1, h3⟩
theorem maxL_spec : ∀ {l : List Int}, l ≠ [] → maxL l ∈ l ∧ ∀ y ∈ l, y ≤ maxL l
  | [], h => absurd rfl h
  | [a], _ => ⟨List.mem_cons_self, fun y hy => by rw [List.mem_singleton.mp hy]; exact Int.le_refl a⟩
  | a :: b :: l, _ => by
    obtain ⟨h1, h2⟩ := maxL_spec (l := b :: l) (by simp)
    show (if a < maxL (b :: l) then maxL (b :: l) else a) ∈ _ ∧ ∀ y ∈ _, y ≤ (if a < maxL (b :: l) then maxL (b :: l) else a)
    by_cases h : a < maxL (b :: l)
    · rw [if_pos h]
      refine ⟨List.mem_cons_of_mem _ h1, fun y hy => ?_⟩
      rcases List.mem_cons.mp hy with rfl | hy
      · omega
      · exact h2 y hy
    · rw [if_neg h]
      refine ⟨List.mem_cons_self, fun y hy => ?_⟩
      rcases List.mem_cons.mp hy with rfl | hy
      · omega
      · have := h2 y hy
        omega
theorem minL_spec : ∀ {l : List Int}, l ≠ [] → minL l ∈ l ∧ ∀ y ∈ l, minL l ≤ y
  | [], h => absurd rfl h
  | [a], _ => ⟨List.mem_cons_self, fun y hy => by rw [List.mem_singleton.mp hy]; exact Int.le_refl a⟩
  | a :: b :: l, _ => by
    obtain ⟨h1, h2⟩ := minL_spec (l := b :: l) (by simp)
    show (if minL (b :: l) < a then minL (b :: l) else a) ∈ _ ∧ ∀ y ∈ _, (if minL (b :: l) < a then minL (b :: l) else a) ≤ y
    by_cases h : minL (b :: l) < a
    · rw [if_pos h]
      refine ⟨List.mem_cons_of_mem _ h1, fun y hy => ?_⟩
      rcases List.mem_cons.mp hy with rfl | hy
      · omega
      · exact h2 y hy
    · rw [if_neg h]
      refine ⟨List.mem_cons_self, fun y hy => ?_⟩
      rcases List.mem_cons.mp hy with rfl | hy
      · omega
      · have := h2 y hy
        omega
theorem insI_perm (a : Int) : ∀ l, (insI a l).Perm (a :: l)
  | [] => List.Perm.refl _
  | b :: l => by
    show (if a ≤ b then a :: b :: l else b :: insI a l).Perm _
    split
    · exact List.Perm.refl _
    · exact ((insI_perm a l).cons b).trans (List.Perm.swap a b l)
theorem sortI_perm : ∀ l, (sortI l).Perm l
  | [] => List.Perm.refl _
  | a :: l => (insI_perm a (sortI l)).trans ((sortI_perm l).cons a)
theorem insI_sorted (a : Int) : ∀ {l : List Int}, l.Pairwise (· ≤ ·) → (insI a l).Pairwise (· ≤ ·)
  | [], _ => by simp [insI]
  | b :: l, h => by
    show (if a ≤ b then a :: b :: l else b :: insI a l).Pairwise _
    obtain ⟨h1, h2⟩ := List.pairwise_cons.mp h
    split
    · rename_i hab
      refine List.pairwise_cons.mpr ⟨fun y hy => ?_, h⟩
      rcases List.mem_cons.mp hy with rfl | hy
      · exact hab
      · exact Int.le_trans hab (h1 y hy)
    · rename_i hab
      refine List.pairwise_cons.mpr ⟨fun y hy => ?_, insI_sorted a h2⟩
      rcases List.mem_cons.mp ((insI_perm a l).subset hy) with rfl | hy
      · omega
      · exact h1 y hy
theorem sortI_sorted : ∀ l, (sortI l).Pairwise (· ≤ ·)
  | [] => List.Pairwise.nil
  | a :: l => insI_sorted a (sortI_sorted l)
theorem sorted_uniq : ∀ {l m : List Int}, l.Perm m → l.Pairwise (· ≤ ·) → m.Pairwise (· ≤ ·) → l = m
  | [], m, p, _, _ => (List.Perm.nil_eq p)
  | a :: l, [], p, _, _ => by
    have := p.length_eq
    cases this
  | a :: l, b :: m, p, h, h' => by
    obtain ⟨h1, h2⟩ := List.pairwise_cons.mp h
    obtain ⟨g1, g2⟩ := List.pairwise_cons.mp h'
    have ab : a = b := by
      have e1 : b ≤ a := by
        rcases List.mem_cons.mp (p.subset List.mem_cons_self) with e | e
        · omega
        · exact g1 a e
      have e2 : a ≤ b := by
        rcases List.mem_cons.mp (p.symm.subset List.mem_cons_self) with e | e
        · omega
        · exact h1 b e
      omega
    subst ab
    rw [sorted_uniq (List.Perm.cons_inv p) h2 g2]
theorem ints_rep : ∀ {l : List Int}, RepL K G (l.map .int) (l.map V.int)
  | [] => by simp [RepL]
  | i :: l => ⟨_, _, rfl, by simp only [Rep], ints_rep⟩
theorem bi_sound {z : Bool} {f : Bf} {ws : List W} {vs : List V} (s : SimH K Z G B S H) (r : RepWs K G B ws vs) (h : QG K Z (rV K) e σ Wx G B Q (biW z f ws S)) : rdBi K.K f vs H Q := by
  unfold biW at h
  split at h
  · split at h
    · rename_i hz
      obtain ⟨v, e1, r1⟩ := r.one
      simp only [RepW, Rep] at r1
      exact .inl ⟨_, by rw [e1, r1], hz, h.d1 s (by simp only [Rep])⟩
    · exact h.elim
  · obtain ⟨v, e1, r1⟩ := r.one
    obtain ⟨d, e2, h⟩ := h.opt
    simp only [Option.map_eq_some_iff] at e2
    obtain ⟨l, e2, rfl⟩ := e2
    obtain ⟨p, us, e3, h1, h2, h3⟩ := sv_ok s r1 e2
    exact .inr ⟨p, us, by rw [e1, e3], h1, h.d1 s (by simp only [Rep]; rw [h3.length])⟩
  · obtain ⟨v, e1, r1⟩ := r.one
    simp only [RepW, Rep] at r1
    exact ⟨_, by rw [e1, r1], h.d1 s (by simp only [Rep])⟩
  · obtain ⟨v, u, e1, r1, r2⟩ := r.two
    simp only [RepW, Rep] at r1 r2
    exact .inl ⟨_, _, by rw [e1, r1, r2], h.d1 s (by simp only [Rep])⟩
  · obtain ⟨v, u, e1, r1, r2⟩ := r.two
    simp only [RepW, Rep] at r1 r2
    exact .inl ⟨_, _, by rw [e1, r1, r2], h.d1 s (by simp only [Rep])⟩
  · obtain ⟨v, e1, r1⟩ := r.one
    split at h
    · rename_i a l e2
      simp only [Option.bind_eq_some_iff] at e2
      obtain ⟨m, e2, e3⟩ := e2
      obtain ⟨p, us, e4, h1, h2⟩ := qv_ok e2 s r1
      have e5 := allInt_rep h2 e3
      refine .inr ⟨p, a :: l, by rw [e1, e4], by rw [← e5]; exact h1, by simp, fun k hk hm => ?_⟩
      obtain ⟨g1, g2⟩ := maxL_spec (l := a :: l) (by simp)
      have : k = maxL (a :: l) := by
        have q1 := g2 k hk
        have q2 := hm _ g1
        omega
      rw [this]
      exact h.d1 s (by simp only [Rep])
    · exact h.elim
  · obtain ⟨v, e1, r1⟩ := r.one
    split at h
    · rename_i a l e2
      simp only [Option.bind_eq_some_iff] at e2
      obtain ⟨m, e2, e3⟩ := e2
      obtain ⟨p, us, e4, h1, h2⟩ := qv_ok e2 s r1
      have e5 := allInt_rep h2 e3
      refine .inr ⟨p, a :: l, by rw [e1, e4], by rw [← e5]; exact h1, by simp, fun k hk hm => ?_⟩
      obtain ⟨g1, g2⟩ := minL_spec (l := a :: l) (by simp)
      have : k = minL (a :: l) := by
        have q1 := g2 k hk
        have q2 := hm _ g1
        omega
      rw [this]
      exact h.d1 s (by simp only [Rep])
    · exact h.elim
  · split at h
    · rename_i hz
      obtain ⟨v, u, e1, r1, r2⟩ := r.two
      simp only [RepW, Rep] at r1 r2
      refine ⟨_, _, by rw [e1, r1, r2], hz, h.newT s ⟨_, _, rfl, by simp only [Rep], _, _, rfl, by simp only [Rep], by simp only [RepL]⟩ (by show 2 ≤ sizeLine; decide)⟩
    · exact h.elim
  · obtain ⟨v, e1, r1⟩ := r.one
    split at h
    · rename_i l e2
      split at h
      · rename_i hz
        simp only [Option.bind_eq_some_iff] at e2
        obtain ⟨m, e2, e3⟩ := e2
        obtain ⟨p, us, e4, h1, h2⟩ := qv_ok e2 s r1
        have e5 := allInt_rep h2 e3
        refine ⟨p, l, by rw [e1, e4], by rw [← e5]; exact h1, fun ns' q hp hs hq => ?_⟩
        have : ns' = sortI l := sorted_uniq (hp.trans (sortI_perm l).symm) hs (sortI_sorted l)
        rw [this]
        exact h.mkL s ints_rep (by rw [List.length_map, (sortI_perm l).length_eq]; exact hz) q hq
      · exact h.elim
    · exact h.elim
  · obtain ⟨v, e1, r1⟩ := r.one
    split at h
    · rename_i l hl
      obtain ⟨p, us, e3, h1, h2, h3⟩ := lv_ok s r1 hl
      exact ⟨p, us, by rw [e1, e3], .inl ⟨SqL.of h1, h.newT s h3 h2⟩⟩
    · split at h
      · rename_i l _
        have r1' : Rep K G (.tup l) v := r1
        simp only [Rep] at r1'
        obtain ⟨p, us, e3, h1, h2, h3⟩ := r1'
        exact ⟨p, us, by rw [e1, e3], .inr ⟨sub_t s.gh h1, e3 ▸ h.d1 s r1⟩⟩
      · rename_i l _
        have r1' : Rep K G (.ro l) v := r1
        simp only [Rep] at r1'
        obtain ⟨p, us, e3, h1, h2, h3⟩ := r1'
        exact ⟨p, us, by rw [e1, e3], .inl ⟨sub_l s.gh h1, h.newT s h3 h2⟩⟩
      · exact h.elim
  · obtain ⟨v, e1, r1⟩ := r.one
    obtain ⟨d, e2, h⟩ := h.opt
    simp only [Option.map_eq_some_iff, Option.bind_eq_some_iff] at e2
    obtain ⟨bs, ⟨l, e2, e3⟩, rfl⟩ := e2
    obtain ⟨p, us, e4, h1, h2⟩ := qv_ok e2 s r1
    have e5 := allBl_rep h2 e3
    exact ⟨p, bs, by rw [e1, e4], by rw [← e5]; exact h1, h.d1 s (by simp only [Rep])⟩
  · obtain ⟨v, e1, r1⟩ := r.one
    obtain ⟨d, e2, h⟩ := h.opt
    simp only [Option.map_eq_some_iff, Option.bind_eq_some_iff] at e2
    obtain ⟨bs, ⟨l, e2, e3⟩, rfl⟩ := e2
    obtain ⟨p, us, e4, h1, h2⟩ := qv_ok e2 s r1
    have e5 := allBl_rep h2 e3
    exact ⟨p, bs, by rw [e1, e4], by rw [← e5]; exact h1, h.d1 s (by simp only [Rep])⟩
  · obtain ⟨v, e1, r1⟩ := r.one
    obtain ⟨d, e2, h⟩ := h.opt
    simp only [Option.map_eq_some_iff, Option.bind_eq_some_iff] at e2
    obtain ⟨bs, ⟨l, e2, e3⟩, rfl⟩ := e2
    obtain ⟨p, us, e4, h1, _, h2⟩ := sv_ok s r1 e2
    have e5 := allInt_rep h2 e3
    rcases h1 with h1 | h1
    · exact .inl ⟨p, bs, by rw [e1, e4], by rw [← e5]; exact h1, h.d1 s (by simp only [Rep])⟩
    · exact .inr ⟨p, bs, by rw [e1, e4], by rw [← e5]; exact h1, h.d1 s (by simp only [Rep])⟩
  · split at h
    · rename_i hz
      obtain ⟨v, e1, r1⟩ := r.one
      simp only [RepW, Rep] at r1
      exact ⟨_, by rw [e1, r1], hz, h.d1 s (by simp only [Rep])⟩
    · exact h.elim
  · obtain ⟨v, e1, r1⟩ := r.one
    simp only [RepW, Rep] at r1
    exact .inl (.inl ⟨_, by rw [e1, r1], h.d1 s (by simp only [Rep])⟩)
  · rename_i b
    obtain ⟨v, e1, r1⟩ := r.one
    simp only [RepW, Rep] at r1
    exact .inl (.inr ⟨b, by rw [e1, r1], h.d1 s (by simp only [Rep, b2i])⟩)
  · split at h
    · rename_i hz
      obtain ⟨v, e1, r1⟩ := r.one
      obtain ⟨d, e2, h⟩ := h.opt
      simp only [Option.map_eq_some_iff] at e2
      obtain ⟨n, e2, rfl⟩ := e2
      simp only [RepW, Rep] at r1
      exact .inr ⟨_, n, by rw [e1, r1], e2, hz, h.d1 s (by simp only [Rep])⟩
    · exact h.elim
  · split at h
    · rename_i l hl
      obtain ⟨v, e1, r1⟩ := r.one
      obtain ⟨p, us, e3, h1, h2, h3⟩ := sv_ok s r1 hl
      exact ⟨p, us, by rw [e1, e3], h1, h.mkL s h3 h2⟩
    · exact h.elim
  · exact h.elim

/-! ### isinstance -/
theorem kit_tys : (PySem.W.kitOne [] (.type "bool") (.type "bool") = some true ∧ True) := by
  constructor
  · decide +kernel
  · trivial
theorem kitOne_ty {K : PySem.W.Frag} {t c : String} : PySem.W.kitOne K (.type t) (.type c) = PySem.W.kitOne [] (.type t) (.type c) := by rfl
theorem isi_sound {ty : String} {r : Bool} (s : SimH K Z G B S H) (ra : RepW K G B a x) (h : isiW ty a S = some r) (q : Q (.bl r) H) : rIsi K.K [x, .ty ty] H Q := by
  unfold isiW at h
  split at h
  · simp only [RepW, Rep] at ra
    subst ra
    split at h
    · rename_i e
      subst e
      cases h
      exact ⟨_, _, _, _, _, rfl, .ty _, .base (.bl _), by rw [kitOne_ty]; decide +kernel, q⟩
    · split at h
      · rename_i e
        subst e
        cases h
        exact ⟨_, _, _, _, _, rfl, .ty _, .base (.bl _), by rw [kitOne_ty]; decide +kernel, q⟩
      · split at h
        · rename_i e
          subst e
          cases h
          exact ⟨_, _, _, _, _, rfl, .ty _, .base (.bl _), by rw [kitOne_ty]; decide +kernel, q⟩
        · cases h
  · simp only [RepW, Rep] at ra
    subst ra
    split at h
    · rename_i e
      subst e
      cases h
      exact ⟨_, _, _, _, _, rfl, .ty _, .base (.int _), by rw [kitOne_ty]; decide +kernel, q⟩
    · split at h
      · rename_i e
        subst e
        cases h
        exact ⟨_, _, _, _, _, rfl, .ty _, .base (.int _), by rw [kitOne_ty]; decide +kernel, q⟩
      · split at h
        · rename_i e
          subst e
          cases h
          exact ⟨_, _, _, _, _, rfl, .ty _, .base (.int _), by rw [kitOne_ty]; decide +kernel, q⟩
        · cases h
  · simp only [RepW, Rep] at ra
    obtain ⟨p, vs, e1, h1, _⟩ := ra
    subst e1
    split at h
    · rename_i e
      subst e
      cases h
      exact ⟨_, _, _, _, _, rfl, .ty _, .base (.lst (s.gh _ _ h1)), by rw [kitOne_ty]; decide +kernel, q⟩
    · split at h
      · rename_i e
        subst e
        cases h
        exact ⟨_, _, _, _, _, rfl, .ty _, .base (.lst (s.gh _ _ h1)), by rw [kitOne_ty]; decide +kernel, q⟩
      · cases h
  · split at h
    · rename_i i _ l hl
      obtain ⟨p, vs, e1, h1, h2, h3⟩ := lv_ok (l := l) s ra (by simp only [lv, hl])
      subst e1
      split at h
      · rename_i e
        subst e
        cases h
        exact ⟨_, _, _, _, _, rfl, .ty _, .base (.lst h1), by rw [kitOne_ty]; decide +kernel, q⟩
      · split at h
        · rename_i e
          subst e
          cases h
          exact ⟨_, _, _, _, _, rfl, .ty _, .base (.lst h1), by rw [kitOne_ty]; decide +kernel, q⟩
        · cases h
    · cases h
  · cases h
end
end En

namespace En
open PySem PySem.Spec PyProof.Rows L2
/-! ### methods of built-in types -/
def Mf.T : Mf → String
  | .append => "list" | .pop => "list" | .index => "list" | .join => "str" | .split => "str" | .ljust => "str" | .rjust => "str" | .rstrip => "str"
def Mf.name : Mf → Str
  | .append => "append" | .pop => "pop" | .index => "index" | .join => "join" | .split => "split" | .ljust => "ljust" | .rjust => "rjust" | .rstrip => "rstrip"
def Mf.id : Mf → String
  | .append => "list.append" | .pop => "list.pop" | .index => "list.index" | .join => "str.join" | .split => "str.split" | .ljust => "str.ljust" | .rjust => "str.rjust" | .rstrip => "str.rstrip"
theorem Mf.pa : ∀ m : Mf, PlainAttrs m.T
  | .append => PySem.F.plainAttrs_list
  | .pop => PySem.F.plainAttrs_list
  | .index => PySem.F.plainAttrs_list
  | .join => PySem.F.plainAttrs_str
  | .split => PySem.F.plainAttrs_str
  | .ljust => PySem.F.plainAttrs_str
  | .rjust => PySem.F.plainAttrs_str
  | .rstrip => PySem.F.plainAttrs_str
theorem Mf.slot : ∀ m : Mf, Slot m.T m.name m.id
  | .append => PySem.F.slot_list_append
  | .pop => PySem.F.slot_list_pop
  | .index => PySem.F.slot_list_index
  | .join => PySem.F.slot_str_join
  | .split => PySem.F.slot_str_split
  | .ljust => PySem.F.slot_str_ljust
  | .rjust => PySem.F.slot_str_rjust
  | .rstrip => PySem.F.slot_str_rstrip
theorem Mf.md : ∀ m : Mf, typeOf (.builtin m.id) = pure (.type "method_descriptor")
  | .append => PySem.F.type_list_append
  | .pop => PySem.F.type_list_pop
  | .index => PySem.F.type_list_index
  | .join => PySem.F.type_str_join
  | .split => PySem.F.type_str_split
  | .ljust => PySem.F.type_str_ljust
  | .rjust => PySem.F.type_str_rjust
  | .rstrip => PySem.F.type_str_rstrip
def rJoinQ (K : PySem.W.Frag) : V → List V → Hp → VK → Prop := fun x xs H Q => ∃ a p, ∃ ys : List Str, x = .str a ∧ xs = [.ref p] ∧ (SqL K H p (ys.map V.str) ∨ SqT K H p (ys.map V.str)) ∧
  (ys.map (·.length)).sum + ys.length * a.length ≤ 16777216 ∧ Q (.str (Txt.join a ys)) H
def rSplitQ : V → List V → Hp → VK → Prop := fun x xs H Q => ∃ a b, x = .str a ∧ xs = [.str b] ∧ (b.length == 0) = false ∧ a.length + 2 ≤ sizeLine ∧ rNewStrs (Txt.split a b) H Q
def rPad (f : Str → Int → Str) : V → List V → Hp → VK → Prop := fun x xs H Q => ∃ (a : Str) (i : Int), x = .str a ∧ xs = [.int i] ∧ PadOk i = true ∧ Q (.str (f a i)) H
def rStrip : V → List V → Hp → VK → Prop := fun x xs H Q => ∃ a, x = .str a ∧ xs = [] ∧ a.length ≤ sizeLine ∧ Q (.str (Txt.rstrip a)) H
def rdMe (K : PySem.W.Frag) : Mf → V → List V → Hp → VK → Prop
  | .append => rAppend
  | .join => rJoinQ K
  | .split => rSplitQ
  | .ljust => rPad Txt.ljust
  | .rjust => rPad Txt.rjust
  | .rstrip => rStrip
  | .index => rIndex K
  | _ => fun _ _ _ _ => False
theorem opr_me {X : Cx} : ∀ m : Mf, MtR X m.id (rdMe X.K m)
  | .append => mt_append
  | .join => mt_join
  | .split => mt_split
  | .ljust => mt_ljust
  | .rjust => mt_rjust
  | .rstrip => mt_rstrip
  | .pop => fun _ _ _ _ _ _ _ _ _ _ _ _ h => h.elim
  | .index => mt_index
section
variable {K : KW} {Z : Ent} {G H : Hp} {B : List Addr} {S : Sto} {a b : W} {x y : V} {e : Env'} {σ : L2.St} {Wx : WX} {Q : VK}
theorem meTy_ok {m : Mf} (s : SimH K Z G B S H) (ra : RepW K G B a x) (h : meTy S m a = true) : tyV K.K m.T x H := by
  have lst : (lv S a).isSome = true → tyV K.K "list" x H := fun q => by
    cases e : lv S a with
    | none =>
      rw [e] at q
      cases q
    | some l =>
      obtain ⟨p, vs, e1, h1, h2, h3⟩ := lv_ok s ra e
      subst e1
      exact .inl ⟨rfl, vs, SqL.of h1⟩
  have txt : ∀ z, a = .d (.str z) → tyV K.K "str" x H := fun z q => by
    subst q
    simp only [RepW, Rep] at ra
    subst ra
    exact rfl
  have qst : (qv S a).isSome = true → tyV K.K "list" x H := fun q => by
    cases e : qv S a with
    | none =>
      rw [e] at q
      cases q
    | some l =>
      obtain ⟨p, vs, e1, h1, h3⟩ := qv_ok e s ra
      subst e1
      exact .inl ⟨rfl, vs, h1⟩
  unfold meTy at h
  split at h
  · exact lst h
  · exact lst h
  · exact qst h
  · exact txt _ rfl
  · exact txt _ rfl
  · exact txt _ rfl
  · exact txt _ rfl
  · exact txt _ rfl
  · cases h
theorem strs_rep : ∀ {ys : List Str}, RepL K G (ys.map .str) (ys.map V.str)
  | [] => by simp [RepL]
  | y :: ys => ⟨.str y, ys.map V.str, rfl, by simp only [Rep], strs_rep⟩
theorem splits_len (a b : Str) (h : a.length + 2 ≤ sizeLine) : ((Txt.split a b).map V.str).length ≤ sizeLine := by
  rw [List.length_map]
  exact Nat.le_trans (PyProof.Rows.split_le a b) h
theorem me_sound {z : Bool} {m : Mf} {ws : List W} {vs : List V} (s : SimH K Z G B S H) (ra : RepW K G B a x) (r : RepWs K G B ws vs) (h : QG K Z (rV K) e σ Wx G B Q (meW z m a ws S)) : rdMe K.K m x vs H Q := by
  unfold meW at h
  split at h
  · split at h
    · rename_i i d _ l hl
      split at h
      · rename_i hz
        obtain ⟨p, hp, e1⟩ := ra
        obtain ⟨v, e2, r1⟩ := r.one
        obtain ⟨p', f1, f2, f3, f4⟩ := s.ob i _ hl
        rw [hp] at f1
        cases f1
        obtain ⟨us, g1, g2, g3⟩ := f3
        have e3 := g3.length
        refine ⟨p, us, v, e1, e2, g1, by omega, ?_⟩
        refine h .non _ _ _ (s.set hl hp ⟨us ++ [v], upd_same, ?_, ?_⟩) (Ext.refl G B) (by simp only [rV, RepW, Rep])
        · rw [List.length_append, List.length_singleton]
          omega
        · exact g3.append ⟨v, [], rfl, r1, by simp only [RepL]⟩
      · exact h.elim
    · exact h.elim
  · split at h
    · rename_i ys hys
      split at h
      · rename_i hz
        simp only [RepW, Rep] at ra
        obtain ⟨v, e2, r1⟩ := r.one
        simp only [Option.bind_eq_some_iff] at hys
        obtain ⟨l, hl, hys⟩ := hys
        obtain ⟨p, us, e3, h1, h2, h3⟩ := sv_ok s r1 hl
        have e4 := allStr_rep h3 hys
        exact ⟨_, p, ys, ra, by rw [e2, e3], by rw [← e4]; exact h1, hz, h.d1 s (by simp only [Rep])⟩
      · exact h.elim
    · exact h.elim
  · split at h
    · rename_i hz
      simp only [RepW, Rep] at ra
      obtain ⟨v, e2, r1⟩ := r.one
      simp only [RepW, Rep] at r1
      exact ⟨_, _, ra, by rw [e2, r1], by simpa using hz.1, hz.2, h.mkL s strs_rep (splits_len _ _ hz.2)⟩
    · exact h.elim
  · split at h
    · rename_i hz
      simp only [RepW, Rep] at ra
      obtain ⟨v, e2, r1⟩ := r.one
      simp only [RepW, Rep] at r1
      exact ⟨_, _, ra, by rw [e2, r1], hz, h.d1 s (by simp only [Rep])⟩
    · exact h.elim
  · split at h
    · rename_i hz
      simp only [RepW, Rep] at ra
      obtain ⟨v, e2, r1⟩ := r.one
      simp only [RepW, Rep] at r1
      exact ⟨_, _, ra, by rw [e2, r1], hz, h.d1 s (by simp only [Rep])⟩
    · exact h.elim
  · split at h
    · rename_i hz
      simp only [RepW, Rep] at ra
      exact ⟨_, ra, r, hz, h.d1 s (by simp only [Rep])⟩
    · exact h.elim
  · split at h
    · rename_i l hl
      split at h
      · rename_i hf
        obtain ⟨f1, f2⟩ := Bool.and_eq_true_iff.mp hf
        split at h
        · rename_i j hj
          obtain ⟨v, e2, r1⟩ := r.one
          obtain ⟨p, us, e3, h1, h3⟩ := qv_ok hl s ra
          obtain ⟨k1, k2⟩ := inOf_ok (r1 : Rep K G _ v) f1 h3 f2
          obtain ⟨g1, g2, g3⟩ := List.findIdx?_eq_some_iff_getElem.mp hj
          obtain ⟨z, z1, z2⟩ := RepL.get h3 (List.getElem?_eq_getElem g1)
          have fl : ∀ {m : Nat} {d : D} (hm : l[m]? = some d), flatD d = true := fun {m d} hm => List.all_eq_true.mp f2 d (List.mem_of_getElem? hm)
          obtain ⟨q1, q2, q3⟩ := feq_ok z2 (r1 : Rep K G _ v) (fl (List.getElem?_eq_getElem g1)) f1
          refine ⟨p, us, v, j, z, e3, e2, h1, q2, k1, z1, by rw [q3]; exact g2, fun m z' hm hz' => ?_, h.d1 s (by simp only [Rep])⟩
          have lm : m < l.length := by omega
          obtain ⟨z3, z4, z5⟩ := RepL.get h3 (List.getElem?_eq_getElem lm)
          rw [hz'] at z4
          cases z4
          obtain ⟨p1, p2, p3⟩ := feq_ok z5 (r1 : Rep K G _ v) (fl (List.getElem?_eq_getElem lm)) f1
          rw [p3]
          simpa using g3 m hm
        · exact h.elim
      · exact h.elim
    · exact h.elim
  · exact h.elim
end

/-! ### calls -/
section
variable {K : KW} {Z : Ent} {G H : Hp} {B : List Addr} {S : Sto} {e : Env'} {σ : L2.St} {Wx : WX} {Q : VK}
/-- what a def promises: its meaning F over the things at B -/
def spF (K : KW) (F : Fn) : Sp := fun vs H Q E => ∃ (G : Hp) (B : List Addr) (ws : List W) (S : Sto) (L : Addr → Prop), RepWs K G B ws vs ∧ SimH K ⟨H, G, L, B⟩ G B S H ∧ (∀ a, L a ↔ ∃ (i : Nat) (o : Ob), S[i]? = some (some o) ∧ B[i]? = some a) ∧
  match F ws S with
  | .ok w S' => ∀ v H' G' B', SimH K ⟨H, G, L, B⟩ G' B' S' H' → Ext G B G' B' → RepW K G' B' w v → Q v H'
  | .ex c ns l S' => ∀ cls d H' G' B', SimH K ⟨H, G, L, B⟩ G' B' S' H' → Ext G B G' B' → RepX K G' cls d c ns l → E cls d H'
  | .st => False
end
end En

namespace En
open PySem PySem.Spec PyProof.Rows L2
/-! ### written back -/
theorem wbS_len : ∀ {js : List Nat} {S r : Sto}, js.length ≤ r.length → (wbS S js r).length = S.length + (r.length - js.length)
  | [], S, r, _ => by simp [wbS]
  | j :: js, S, [], h => by simp at h
  | j :: js, S, o :: r, h => by
    unfold wbS
    rw [wbS_len (by simpa using h)]
    simp
theorem wbS_old : ∀ {js : List Nat} {S r : Sto} {i : Nat}, js.length ≤ r.length → i < S.length → i ∉ js → (wbS S js r)[i]? = S[i]?
  | [], S, r, i, _, hi, _ => by
    unfold wbS
    rw [List.getElem?_append_left hi]
  | j :: js, S, [], i, h, _, _ => by simp at h
  | j :: js, S, o :: r, i, h, hi, hn => by
    unfold wbS
    rw [wbS_old (by simpa using h) (by simpa using hi) (fun z => hn (List.mem_cons_of_mem _ z))]
    exact List.getElem?_set_ne fun z => hn (by rw [← z]; exact List.mem_cons_self)
theorem wbS_js : ∀ {js : List Nat} {S r : Sto} {k j : Nat}, js.length ≤ r.length → js.Nodup → (∀ i ∈ js, i < S.length) → js[k]? = some j → (wbS S js r)[j]? = r[k]?
  | [], S, r, k, j, _, _, _, e => by simp at e
  | i :: js, S, [], k, j, h, _, _, _ => by simp at h
  | i :: js, S, o :: r, 0, j, h, nd, lt, e => by
    simp at e
    subst e
    unfold wbS
    rw [wbS_old (by simpa using h) (by simpa using lt i List.mem_cons_self) (List.nodup_cons.mp nd).1]
    rw [List.getElem?_set_self (lt i List.mem_cons_self)]
    rfl
  | i :: js, S, o :: r, k + 1, j, h, nd, lt, e => by
    unfold wbS
    rw [wbS_js (k := k) (by simpa using h) (List.nodup_cons.mp nd).2 (fun x hx => by simpa using lt x (List.mem_cons_of_mem _ hx)) (by simpa using e)]
    rfl
theorem wbS_new : ∀ {js : List Nat} {S r : Sto} {t : Nat}, js.length ≤ r.length → (wbS S js r)[S.length + t]? = r[js.length + t]?
  | [], S, r, t, _ => by
    unfold wbS
    rw [List.getElem?_append_right (Nat.le_add_right _ _)]
    simp
  | j :: js, S, [], t, h => by simp at h
  | j :: js, S, o :: r, t, h => by
    unfold wbS
    have q := wbS_new (js := js) (S := S.set j o) (r := r) (t := t) (by simpa using h)
    rw [List.length_set] at q
    rw [q, List.length_cons, show js.length + 1 + t = (js.length + t) + 1 by omega]
    rfl
/-- the addresses of these places -/
def subB (B : List Addr) : List Nat → List Addr
  | [] => []
  | j :: js => B.getD j 0 :: subB B js
theorem subB_len {B : List Addr} : ∀ {js : List Nat}, (subB B js).length = js.length
  | [] => rfl
  | j :: js => by simp [subB, subB_len]
theorem subB_get {B : List Addr} : ∀ {js : List Nat} {k j : Nat} {a : Addr}, js[k]? = some j → B[j]? = some a → (subB B js)[k]? = some a
  | [], k, j, a, e, _ => by simp at e
  | i :: js, 0, j, a, e, h => by
    simp at e
    subst e
    simp [subB, h]
  | i :: js, k + 1, j, a, e, h => by
    have q := subB_get (k := k) (js := js) (by simpa using e) h
    simpa [subB] using q
theorem subB_inv {B : List Addr} : ∀ {js : List Nat} {k : Nat} {a : Addr}, (subB B js)[k]? = some a → ∃ j, js[k]? = some j ∧ B.getD j 0 = a
  | [], k, a, e => by simp [subB] at e
  | i :: js, 0, a, e => by
    simp [subB] at e
    exact ⟨i, rfl, by simpa using e⟩
  | i :: js, k + 1, a, e => by
    obtain ⟨j, h1, h2⟩ := subB_inv (js := js) (k := k) (by simpa [subB] using e)
    exact ⟨j, by simpa using h1, h2⟩
theorem subS_get : ∀ {js : List Nat} {S Sc : Sto}, subS S js = some Sc → Sc.length = js.length ∧ ∀ k j : Nat, js[k]? = some j → ∃ l, S[j]? = some (some (Ob.lst l)) ∧ Sc[k]? = some (some (Ob.lst l))
  | [], S, Sc, h => by
    simp only [subS, Option.some.injEq] at h
    subst h
    exact ⟨rfl, fun k j e => by simp at e⟩
  | i :: js, S, Sc, h => by
    simp only [subS] at h
    split at h
    · rename_i o ho
      split at h
      · rename_i u l hu hl
        cases h
        cases o <;> simp only [renO, Option.some.injEq, reduceCtorEq] at hu
        rename_i m
        subst hu
        obtain ⟨h1, h2⟩ := subS_get hl
        refine ⟨by simp [h1], fun k j e => ?_⟩
        cases k with
        | zero =>
          simp at e
          subst e
          exact ⟨m, ho, rfl⟩
        | succ k =>
          obtain ⟨l', q1, q2⟩ := h2 k j (by simpa using e)
          exact ⟨l', q1, by simpa using q2⟩
      · cases h
    · cases h
theorem idxOf_get : ∀ {js : List Nat} {i k : Nat}, js.idxOf? i = some k → js[k]? = some i := by
  intro js
  induction js with
  | nil => intro i k h; simp [List.idxOf?] at h
  | cons j js ih =>
    intro i k h
    unfold List.idxOf? at h
    rw [List.findIdx?_cons] at h
    by_cases e : (j == i) = true
    · rw [if_pos e] at h
      cases h
      rw [eq_of_beq e]
      rfl
    · rw [if_neg e] at h
      simp only [Option.map_eq_some_iff] at h
      obtain ⟨k', h, rfl⟩ := h
      simpa using ih (i := i) (k := k') h
theorem nodup_at : ∀ {js : List Nat} {i j : Nat}, js.Nodup → (hi : i < js.length) → (hj : j < js.length) → js[i] = js[j] → i = j
  | [], i, j, _, hi, _, _ => by simp at hi
  | x :: js, 0, 0, _, _, _, _ => rfl
  | x :: js, 0, j + 1, nd, _, hj, e => by
    exfalso
    exact (List.nodup_cons.mp nd).1 (by
      have e : x = js[j]'(by simpa using hj) := e
      rw [e]
      exact List.getElem_mem _)
  | x :: js, i + 1, 0, nd, hi, _, e => by
    exfalso
    exact (List.nodup_cons.mp nd).1 (by
      have e : js[i]'(by simpa using hi) = x := e
      rw [← e]
      exact List.getElem_mem _)
  | x :: js, i + 1, j + 1, nd, hi, hj, e => by rw [nodup_at (List.nodup_cons.mp nd).2 (by simpa using hi) (by simpa using hj) e]
theorem dats_okB {K : KW} {G : Hp} {B : List Addr} : ∀ {ws : List W} {vs : List V} {ds : List D}, RepWs K G B ws vs → dats ws = some ds → RepL K G ds vs
  | [], vs, ds, r, h => by
    simp only [dats, Option.some.injEq] at h
    subst h
    have r : vs = [] := r
    rw [r]
    simp [RepL]
  | .d x :: ws, vs, ds, r, h => by
    obtain ⟨v, u, e1, r1, r2⟩ := r
    simp only [dats, Option.map_eq_some_iff] at h
    obtain ⟨l, h, rfl⟩ := h
    exact ⟨v, u, e1, r1, dats_okB r2 h⟩
  | .m i :: ws, vs, ds, r, h => by simp [dats] at h
theorem dats_any {K : KW} {G : Hp} {B B' : List Addr} : ∀ {ws : List W} {vs : List V}, (dats ws).isSome = true → RepWs K G B ws vs → RepWs K G B' ws vs
  | [], vs, _, r => r
  | .d x :: ws, vs, h, r => by
    obtain ⟨v, u, e1, r1, r2⟩ := r
    refine ⟨v, u, e1, r1, dats_any ?_ r2⟩
    unfold dats at h
    cases q : dats ws with
    | none => rw [q] at h; cases h
    | some l => rfl
  | .m i :: ws, vs, h, r => by
    unfold dats at h
    cases h
section
variable {K : KW} {G : Hp} {B : List Addr}
theorem renWs_rep {js : List Nat} : ∀ {ws us : List W} {vs : List V}, RepWs K G B ws vs → renWs js ws = some us → RepWs K G (subB B js) us vs
  | [], us, vs, h, e => by
    simp only [renWs, Option.some.injEq] at e
    subst e
    exact h
  | w :: ws, us, vs, h, e => by
    obtain ⟨v, r, e1, h1, h2⟩ := h
    simp only [renWs] at e
    split at e
    · rename_i x l hx hl
      cases e
      refine ⟨v, r, e1, ?_, renWs_rep h2 hl⟩
      cases w with
      | d y =>
        simp only [renW, Option.some.injEq] at hx
        subst hx
        exact h1
      | m i =>
        simp only [renW, Option.map_eq_some_iff] at hx
        obtain ⟨k, hk, rfl⟩ := hx
        obtain ⟨a, g1, g2⟩ := h1
        exact ⟨a, subB_get (idxOf_get hk) g1, g2⟩
    · cases e
/-- a flat object leans on no place -/
theorem ObR.flat {B' : List Addr} {H : Hp} {a : Addr} : ∀ {o : Ob}, flatS [some o] = true → ObR K G B H a o → ObR K G B' H a o
  | .lst l, _, h => h
  | .dk ks l, _, h => h
  | .mat l, f, _ => by simp [flatS] at f
  | .ins c ns l, f, _ => by simp [flatS] at f
theorem flat_at {S : Sto} {i : Nat} {o : Ob} (f : flatS S = true) (h : S[i]? = some (some o)) : flatS [some o] = true := by
  unfold flatS at f ⊢
  have q := List.all_eq_true.mp f _ (List.mem_of_getElem? h)
  simpa using q
/-- the state behind a call -/
theorem SimH.back {Z : Ent} {S S' Sc : Sto} {H H' G' : Hp} {B' : List Addr} {js : List Nat} {L : Addr → Prop} (s : SimH K Z G B S H) (nd : js.Nodup) (hs : subS S js = some Sc) (hL : ∀ a, L a ↔ ∃ (i : Nat) (o : Ob), Sc[i]? = some (some o) ∧ (subB B js)[i]? = some a)
    (c : SimH K ⟨H, G, L, subB B js⟩ G' B' S' H') (x : Ext G (subB B js) G' B') (f : flatS S' = true) (hl : js.length ≤ S'.length) :
    SimH K Z G' (B ++ B'.drop js.length) (wbS S js S') H' ∧ Ext G B G' (B ++ B'.drop js.length) ∧ ∀ (w : W) (v : V), RepW K G' B' w v → RepW K G' (B ++ B'.drop js.length) (wbW S.length js w) v := by
  obtain ⟨l1, l2⟩ := subS_get hs
  have lt : ∀ i ∈ js, i < S.length := fun i hi => by
    obtain ⟨k, hk⟩ := List.mem_iff_getElem?.mp hi
    obtain ⟨l, q, _⟩ := l2 k i hk
    exact (List.getElem?_eq_some_iff.mp q).1
  -- what L says
  have Lat : ∀ a, L a → ∃ j l, j ∈ js ∧ S[j]? = some (some (.lst l)) ∧ B[j]? = some a := fun a h => by
    obtain ⟨i, o, q1, q2⟩ := (hL a).mp h
    obtain ⟨j, e1, e2⟩ := subB_inv q2
    obtain ⟨l, e3, _⟩ := l2 i j e1
    obtain ⟨a', e4, _⟩ := s.ob j _ e3
    refine ⟨j, l, List.mem_of_getElem? e1, e3, ?_⟩
    rw [e4]
    rw [List.getD_eq_getElem?_getD, e4] at e2
    exact congrArg some e2
  have LZ : ∀ a, L a → Z.L a ∨ Z.H a = none := fun a h => by
    obtain ⟨j, l, _, e3, e4⟩ := Lat a h
    obtain ⟨a', e5, _, _, e6⟩ := s.ob j _ e3
    rw [e4] at e5
    cases e5
    exact e6
  obtain ⟨t, eB⟩ := x.pre
  have Bk : ∀ k j : Nat, ∀ a, js[k]? = some j → B[j]? = some a → B'[k]? = some a := fun k j a h1 h2 => by
    rw [eB]
    exact pre_get (subB_get h1 h2)
  have Bn : ∀ k a, (B ++ B'.drop js.length)[S.length + k]? = some a ↔ B'[js.length + k]? = some a := fun k a => by
    rw [← s.len, List.getElem?_append_right (Nat.le_add_right _ _)]
    simp [List.getElem?_drop]
  have lB' : B'.length = S'.length := c.len
  have x2 : Ext G B G' (B ++ B'.drop js.length) := ⟨x.sub, _, rfl⟩
  -- the three kinds of places
  have kinds : ∀ (i : Nat) (o : Ob), (wbS S js S')[i]? = some (some o) → (i < S.length ∧ i ∉ js ∧ S[i]? = some (some o)) ∨ (∃ k : Nat, js[k]? = some i ∧ S'[k]? = some (some o)) ∨ ∃ k, i = S.length + k ∧ S'[js.length + k]? = some (some o) := fun i o h => by
    by_cases hi : i < S.length
    · by_cases hm : i ∈ js
      · obtain ⟨k, hk⟩ := List.mem_iff_getElem?.mp hm
        rw [wbS_js hl nd lt hk] at h
        exact .inr (.inl ⟨k, hk, h⟩)
      · rw [wbS_old hl hi hm] at h
        exact .inl ⟨hi, hm, h⟩
    · obtain ⟨k, rfl⟩ : ∃ k, i = S.length + k := ⟨i - S.length, by omega⟩
      rw [wbS_new hl] at h
      exact .inr (.inr ⟨k, rfl, h⟩)
  have oldA : ∀ (i : Nat) (o : Ob), i ∉ js → S[i]? = some (some o) → ∃ a, B[i]? = some a ∧ G a = none ∧ ObR K G B H a o ∧ (Z.L a ∨ Z.H a = none) ∧ ¬ L a := fun i o hn h => by
    obtain ⟨a, e1, e2, e3, e4⟩ := s.ob i o h
    refine ⟨a, e1, e2, e3, e4, fun q => ?_⟩
    obtain ⟨j, l, hj, e5, e6⟩ := Lat a q
    exact hn (s.inj i j o _ a h e5 e1 e6 ▸ hj)
  have Bl : ∀ (i : Nat) (a : Addr), B[i]? = some a → (B ++ B'.drop js.length)[i]? = some a := fun i a h => pre_get h
  refine ⟨⟨c.gh, ?_, fun i o h => ?_, fun i j o u a h1 h2 b1 b2 => ?_, fun a o q1 q2 => ?_, fun a q1 q2 => ?_, s.mono.trans x.sub, fun a q => c.dom a (s.dom a q), s.pre_app _⟩, x2, fun w v r => ?_⟩
  · rw [wbS_len hl, List.length_append, List.length_drop, s.len, lB']
  · rcases kinds i o h with ⟨hi, hn, p⟩ | ⟨k, hk, p⟩ | ⟨k, ek, p⟩
    · obtain ⟨a, e1, e2, e3, e4, e5⟩ := oldA i o hn p
      obtain ⟨ho, hho⟩ := e3.there
      have g' : G' a = none := by
        rw [c.fg a (by show H a ≠ none; rw [hho]; intro z; cases z) e5]
        exact e2
      exact ⟨a, Bl i a e1, g', e3.keep x2 fun o' q => c.fr a o' q e5, e4⟩
    · obtain ⟨l, e3, _⟩ := l2 k i hk
      obtain ⟨a, e4, _, _, e6⟩ := s.ob i _ e3
      obtain ⟨a', f1, f2, f3, f4⟩ := c.ob k o p
      rw [Bk k i a hk e4] at f1
      cases f1
      exact ⟨a, Bl i a e4, f2, f3.flat (flat_at f p), e6⟩
    · obtain ⟨a, f1, f2, f3, f4⟩ := c.ob _ o p
      refine ⟨a, by rw [ek]; exact (Bn k a).mpr f1, f2, f3.flat (flat_at f p), ?_⟩
      rcases f4 with f4 | f4
      · exact LZ a f4
      · refine .inr ?_
        cases q : Z.H a with
        | none => rfl
        | some u => exact absurd (show H a = none from f4) (s.dom a (by rw [q]; intro z; cases z))
  · have newNo : ∀ (i k : Nat) (o u : Ob), i ∉ js → S[i]? = some (some o) → B[i]? = some a → S'[js.length + k]? = some (some u) → B'[js.length + k]? = some a → False := fun i k o u hn h e1 h' f1 => by
      obtain ⟨a', g1, g2, g3, g4, g5⟩ := oldA i o hn h
      rw [e1] at g1
      cases g1
      obtain ⟨a', f1', f2, f3, f4⟩ := c.ob _ u h'
      rw [f1] at f1'
      cases f1'
      rcases f4 with f4 | f4
      · exact g5 f4
      · obtain ⟨ho, hho⟩ := g3.there
        rw [show H a = none from f4] at hho
        cases hho
    have Bo : ∀ i : Nat, i < S.length → (B ++ B'.drop js.length)[i]? = some a → B[i]? = some a := fun i hi q => by
      rw [List.getElem?_append_left (by rw [s.len]; exact hi)] at q
      exact q
    rcases kinds i o h1 with ⟨hi, hn, p1⟩ | ⟨k, hk, p1⟩ | ⟨k, e1, p1⟩
    · rcases kinds j u h2 with ⟨hj, hm, p2⟩ | ⟨k', hk', p2⟩ | ⟨k', e2, p2⟩
      · exact s.inj i j o u a p1 p2 (Bo i hi b1) (Bo j hj b2)
      · obtain ⟨l, e3, _⟩ := l2 k' j hk'
        exact s.inj i j o _ a p1 e3 (Bo i hi b1) (Bo j (lt j (List.mem_of_getElem? hk')) b2)
      · rw [e2] at b2
        exact (newNo i k' o u hn p1 (Bo i hi b1) p2 ((Bn k' a).mp b2)).elim
    · have bi := Bo i (lt i (List.mem_of_getElem? hk)) b1
      rcases kinds j u h2 with ⟨hj, hm, p2⟩ | ⟨k', hk', p2⟩ | ⟨k', e2, p2⟩
      · obtain ⟨l, e3, _⟩ := l2 k i hk
        exact s.inj i j _ u a e3 p2 bi (Bo j hj b2)
      · have bj := Bo j (lt j (List.mem_of_getElem? hk')) b2
        have := c.inj k k' o u a p1 p2 (Bk k i a hk bi) (Bk k' j a hk' bj)
        subst this
        rw [hk] at hk'
        exact Option.some.inj hk'
      · rw [e2] at b2
        have := c.inj k _ o u a p1 p2 (Bk k i a hk bi) ((Bn k' a).mp b2)
        have : k < js.length := (List.getElem?_eq_some_iff.mp hk).1
        omega
    · rw [e1] at b1
      have bi := (Bn k a).mp b1
      rcases kinds j u h2 with ⟨hj, hm, p2⟩ | ⟨k', hk', p2⟩ | ⟨k', e2, p2⟩
      · exact (newNo j k u o hm p2 (Bo j hj b2) p1 bi).elim
      · have bj := Bo j (lt j (List.mem_of_getElem? hk')) b2
        have := c.inj _ k' o u a p1 p2 bi (Bk k' j a hk' bj)
        have : k' < js.length := (List.getElem?_eq_some_iff.mp hk').1
        omega
      · rw [e2] at b2
        have := c.inj _ _ o u a p1 p2 bi ((Bn k' a).mp b2)
        omega
  · refine c.fr a o (s.fr a o q1 q2) fun q => ?_
    rcases LZ a q with z | z
    · exact q2 z
    · rw [z] at q1
      cases q1
  · rw [c.fg a (s.dom a q1) fun q => ?_]
    · exact s.fg a q1 q2
    · rcases LZ a q with z | z
      · exact q2 z
      · exact q1 z
  · cases w with
    | d y => exact r
    | m i =>
      obtain ⟨a, r1, r2⟩ := r
      cases e : js[i]? with
      | some j =>
        have ew : wbW S.length js (.m i) = .m j := by simp only [wbW, e]
        rw [ew]
        have hi : i < js.length := (List.getElem?_eq_some_iff.mp e).1
        refine ⟨a, ?_, r2⟩
        obtain ⟨l, e3, _⟩ := l2 i j e
        obtain ⟨a', e4, _⟩ := s.ob j _ e3
        have := Bk i j a' e e4
        rw [r1] at this
        cases this
        exact Bl j a e4
      | none =>
        have ew : wbW S.length js (.m i) = .m (S.length + (i - js.length)) := by simp only [wbW, e]
        rw [ew]
        have hi : js.length ≤ i := List.getElem?_eq_none_iff.mp e
        refine ⟨a, (Bn (i - js.length) a).mpr ?_, r2⟩
        rw [show js.length + (i - js.length) = i by omega]
        exact r1
variable {Z : Ent} {S : Sto} {H : Hp} {e : Env'} {σ : L2.St} {Wx : WX} {Q : VK}
/-- THE CALL -/
theorem call_sound {F : Fn} {ws : List W} {vs : List V} {ps : List Pl} (s : SimH K Z G B S H) (r : RepWs K G B ws vs) (h : QG K Z (rV K) e σ Wx G B Q (callF F ws e ps S)) : spF K F vs H Q (fun cls d H' => Wx cls d σ H') := by
  unfold callF at h
  split at h
  · exact h.elim
  · rename_i js hjs
    split at h
    · rename_i nd
      split at h
      · rename_i us Sc hu hS
        obtain ⟨l1, l2⟩ := subS_get hS
        refine ⟨G, subB B js, us, Sc, (fun a => ∃ (i : Nat) (o : Ob), Sc[i]? = some (some o) ∧ (subB B js)[i]? = some a), renWs_rep r hu, ?_, fun a => Iff.rfl, ?_⟩
        · refine ⟨s.gh, by rw [subB_len, l1], fun i o q => ?_, fun i j o u a q1 q2 b1 b2 => ?_, fun a o q _ => q, fun a _ _ => rfl, Sub.refl G, fun a q => q, [], by simp⟩
          · have hi : i < js.length := by rw [← l1]; exact (List.getElem?_eq_some_iff.mp q).1
            obtain ⟨l, e1, e2⟩ := l2 i js[i] (List.getElem?_eq_getElem hi)
            rw [q] at e2
            cases e2
            obtain ⟨a, f1, f2, f3, f4⟩ := s.ob _ _ e1
            have g := subB_get (List.getElem?_eq_getElem hi) f1
            exact ⟨a, g, f2, f3, .inl ⟨i, _, q, g⟩⟩
          · have hi : i < js.length := by rw [← l1]; exact (List.getElem?_eq_some_iff.mp q1).1
            have hj : j < js.length := by rw [← l1]; exact (List.getElem?_eq_some_iff.mp q2).1
            obtain ⟨l, e1, _⟩ := l2 i js[i] (List.getElem?_eq_getElem hi)
            obtain ⟨m, e2, _⟩ := l2 j js[j] (List.getElem?_eq_getElem hj)
            obtain ⟨a1, f1, _⟩ := s.ob _ _ e1
            obtain ⟨a2, f2, _⟩ := s.ob _ _ e2
            rw [subB_get (List.getElem?_eq_getElem hi) f1] at b1
            rw [subB_get (List.getElem?_eq_getElem hj) f2] at b2
            cases b1
            cases b2
            have := s.inj _ _ _ _ a e1 e2 f1 f2
            exact nodup_at nd hi hj this
        · cases hF : F us Sc with
          | ok w S' =>
            rw [hF] at h
            simp only at h
            split at h
            · rename_i fl
              rw [Bool.and_eq_true, decide_eq_true_eq] at fl
              intro v H' G' B' c x rw'
              obtain ⟨c1, c2, c3⟩ := s.back nd hS (fun a => Iff.rfl) c x fl.1 fl.2
              exact h v H' G' _ c1 c2 (c3 w v rw')
            · exact h.elim
          | ex c' ns l S' =>
            rw [hF] at h
            simp only at h
            split at h
            · rename_i fl
              rw [Bool.and_eq_true, decide_eq_true_eq] at fl
              intro cls d H' G' B' c x rx
              obtain ⟨c1, c2, _⟩ := s.back nd hS (fun a => Iff.rfl) c x fl.1 fl.2
              exact h cls d H' G' _ c1 c2 rx
            · exact h.elim
          | st =>
            rw [hF] at h
            exact h.elim
      · exact h.elim
    · exact h.elim
/-! ### a new instance -/
def LM (x : Addr) (o : Ob) : Addr → Prop := fun a => ∃ (i : Nat) (u : Ob), ([some o] : Sto)[i]? = some (some u) ∧ [x][i]? = some a
theorem LM_eq {x a : Addr} {o : Ob} (h : LM x o a) : a = x := by
  obtain ⟨i, u, h1, h2⟩ := h
  cases i with
  | zero =>
    simp at h2
    exact h2.symm
  | succ i => simp at h2
theorem SimH.behind {x dx : Addr} {o : Ob} {ox od : HO} {S' : Sto} {H' G' G2 : Hp} {B' : List Addr} (s : SimH K Z G B S H) (hx : H x = none) (hd : H dx = none) (c : SimH K ⟨upd (upd H dx od) x ox, G, LM x o, [x]⟩ G' B' S' H') (sub : Sub G' G2) (gh : Sub G2 H') (ne : ∀ a, a ≠ x → G2 a = G' a) :
    SimH K Z G2 B S H' ∧ Ext G B G2 B := by
  have nx : ∀ a, H a ≠ none → a ≠ x ∧ a ≠ dx := fun a h => ⟨fun e => h (e ▸ hx), fun e => h (e ▸ hd)⟩
  have old : ∀ a, a ≠ x → a ≠ dx → upd (upd H dx od) x ox a = H a := fun a h1 h2 => by rw [upd_ne h1, upd_ne h2]
  have nL : ∀ a, a ≠ x → ¬ LM x o a := fun a h q => h (LM_eq q)
  have keep : ∀ a u, H a = some u → H' a = some u := fun a u q => by
    obtain ⟨n1, n2⟩ := nx a (by rw [q]; intro z; cases z)
    exact c.fr a u (by show upd (upd H dx od) x ox a = some u; rw [old a n1 n2]; exact q) (nL a n1)
  have gkeep : ∀ a, H a ≠ none → G2 a = G a := fun a q => by
    obtain ⟨n1, n2⟩ := nx a q
    rw [ne a n1]
    exact c.fg a (by show upd (upd H dx od) x ox a ≠ none; rw [old a n1 n2]; exact q) (nL a n1)
  have x2 : Ext G B G2 B := ⟨c.mono.trans sub, [], by simp⟩
  refine ⟨⟨gh, s.len, fun i u h => ?_, s.inj, fun a u q1 q2 => keep a u (s.fr a u q1 q2), fun a q1 q2 => ?_, (s.mono.trans c.mono).trans sub, fun a q => ?_, s.pre⟩, x2⟩
  · obtain ⟨a, e1, e2, e3, e4⟩ := s.ob i u h
    obtain ⟨ho, hho⟩ := e3.there
    exact ⟨a, e1, by rw [gkeep a (by rw [hho]; intro z; cases z)]; exact e2, e3.keep x2 (keep a), e4⟩
  · rw [gkeep a (s.dom a q1)]
    exact s.fg a q1 q2
  · intro z
    cases q2 : H a with
    | none => exact s.dom a q q2
    | some u =>
      rw [keep a u q2] at z
      cases z
theorem make_sound {F : Fn} {c : Str} {us : List W} {vs : List V} {x dx : Addr} (s : SimH K Z G B S H) (hx : H x = none) (hd : H dx = none) (ne : dx ≠ x) (r : RepWs K G [x] us vs) (h : QG K Z (rV K) e σ Wx G B Q (makeF F c us S)) :
    spF K F vs (upd (upd H dx (.own x)) x (.ins (He.ga K.K c) dx [])) (fun v H2 => v = .non ∧ Q (.ref x) H2) (fun cls d H' => Wx cls d σ H') := by
  have gx := (s.fresh hx).1
  have gd := (s.fresh hd).1
  have nG : ∀ (a : Addr) (u : HO), G a = some u → a ≠ x ∧ a ≠ dx := fun a u q => ⟨(fun z => by rw [z, gx] at q; cases q), (fun z => by rw [z, gd] at q; cases q)⟩
  refine ⟨G, [x], us, [some (.ins c [] [])], LM x (.ins c [] []), r, ⟨fun a u q => ?_, rfl, fun i u q => ?_, fun i j u v a q1 q2 b1 b2 => ?_, fun a u q _ => q, fun a _ _ => rfl, Sub.refl G, fun a q => q, [], by simp⟩, fun a => Iff.rfl, ?_⟩
  · obtain ⟨n1, n2⟩ := nG a u q
    rw [upd_ne n1, upd_ne n2]
    exact s.gh a u q
  · cases i with
    | zero =>
      have q : u = .ins c [] [] := by simpa using q.symm
      subst q
      exact ⟨x, rfl, gx, ⟨dx, [], upd_same, rfl, rfl⟩, .inl ⟨0, _, rfl, rfl⟩⟩
    | succ i => simp at q
  · cases i with
    | zero => cases j with
      | zero => rfl
      | succ j => simp at q2
    | succ i => simp at q1
  · unfold makeF at h
    cases hF : F us [some (.ins c [] [])] with
    | st =>
      rw [hF] at h
      exact h.elim
    | ex c' ns l S' =>
      rw [hF] at h
      intro cls d H' G' B' cc xx rx
      obtain ⟨s1, x1⟩ := s.behind hx hd cc (Sub.refl G') cc.gh fun _ _ => rfl
      exact h cls d H' G' B s1 x1 rx
    | ok w S' =>
      rw [hF] at h
      intro v H' G' B' cc xx rw'
      cases w with
      | m i => exact h.elim
      | d y =>
        cases y <;> first
          | exact h.elim
          | skip
        have ev : v = .non := by
          have r1 : Rep K G' .non v := rw'
          simpa only [Rep] using r1
        refine ⟨ev, ?_⟩
        dsimp only at h
        split at h
        · rename_i c' ns l hl
          split at h
          · rename_i hc
            obtain ⟨e1, hle⟩ := hc
            subst e1
            split at h
            · rename_i ds hds
              obtain ⟨a, f1, f2, f3, f4⟩ := cc.ob 0 _ hl
              obtain ⟨t, eB⟩ := xx.pre
              have ax : a = x := by
                rw [eB] at f1
                simpa using f1.symm
              subst ax
              obtain ⟨dx', us', g1, g2, g3⟩ := f3
              have r2 := dats_okB g3 hds
              obtain ⟨s1, x1⟩ := s.behind (G2 := upd G' a (.ins (He.ga K.K c') dx' (ns.zip us'))) hx hd cc (Sub.new f2) (fun b u q => by
                by_cases z : b = a
                · subst z
                  rw [upd_same] at q
                  cases q
                  exact g1
                · rw [upd_ne z] at q
                  exact cc.gh b u q) fun b z => upd_ne z
              refine h (.ref a) H' _ B s1 x1 ?_
              show Rep K _ (.ins c' ns ds) (.ref a)
              simp only [Rep]
              exact ⟨a, dx', us', rfl, upd_same, g2, RepL.mono (Sub.new f2) ds us' r2⟩
            · exact h.elim
          · exact h.elim
        · exact h.elim
end
end En

namespace En
open PySem PySem.Spec PyProof.Rows L2
theorem PI.imp {X : Cx} {tg it : Expr} {t t' : TI} (h : PI X tg it t) (k : ∀ σ H Q, t' σ H Q → t σ H Q) : PI X tg it t' := ⟨fun pins s σ H Q I q => h.run pins s σ H Q I (k σ H Q q)⟩
theorem PG.imp {X : Cx} {tg : Expr} {t t' : TG} (h : PG X tg t) (k : ∀ v σ H Q, t' v σ H Q → t v σ H Q) : PG X tg t' := ⟨fun pins s σ H v u Q I r q => h.run pins s σ H v u Q I r (k v σ H Q q)⟩
theorem PGs.imp {X : Cx} {tg : List Expr} {t t' : TGs} (h : PGs X tg t) (k : ∀ v σ H Q, t' v σ H Q → t v σ H Q) : PGs X tg t' := ⟨fun pins s σ H v u Q I r q => h.run pins s σ H v u Q I r (k v σ H Q q)⟩
theorem PTs.imp {X : Cx} {e : List Expr} {t t' : TT} (h : PTs X e t) (k : ∀ σ H Q, t' σ H Q → t σ H Q) : PTs X e t' := ⟨fun pins s σ H Q I q => h.run pins s σ H Q I (k σ H Q q)⟩

section
variable (K : KW) (Z : Ent) (Wx : WX)
/-- the walked thing yields these items -/
def ItOk (J : It) (G1 : Hp) (ws : List W) : Prop := ∀ (Z : Ent) (G H : Hp) (B : List Addr) (S : Sto), Sub G1 G → SimH K Z G B S H →
  J.stop ws.length H ∧ ∀ (i : Nat) (w : W), ws[i]? = some w → J.go i H ∧ ∀ x H', J.yld i H x H' → ∃ G', SimH K Z G' B S H' ∧ Ext G B G' B ∧ RepW K G' B w x
def rI : Hp → List Addr → List W → It → Prop := fun G _ ws J => ItOk K J G ws
/-- the slots beside ts stand -/
def Beside (ts : List Nat) (σ σ1 : L2.St) : Prop := σ1.length = σ.length ∧ ∀ i : Nat, i ∉ ts → σ1[i]? = σ[i]?
/-- a target's reading -/
def tgR (ts : List Nat) (f : W → Env' → Sto → Option Env') : TG := fun v σ H Q => ∃ G B e S w e1, Sim K Z G B e S σ H ∧ RepW K G B w v ∧ f w e S = some e1 ∧ ∀ σ1, Slots K G B e1 σ1 → Beside ts σ σ1 → Q σ1 H
def tgL (ts : List Nat) (f : List D → Env' → Sto → Option Env') : TGs := fun vs σ H Q => ∃ G B e S ds e1, Sim K Z G B e S σ H ∧ RepL K G ds vs ∧ f ds e S = some e1 ∧ ∀ σ1, Slots K G B e1 σ1 → Beside ts σ σ1 → Q σ1 H
/-- what is wanted of a statement's end -/
def QS (G0 : Hp) (D : Ends) : SR → Prop
  | .nx e S => ∀ σ H G B, Sim K Z G B e S σ H → Sub G0 G → D.nx σ H
  | .rt w S => ∀ v H G B, SimH K Z G B S H → Sub G0 G → RepW K G B w v → D.rt v H
  | .bk e S => ∀ σ H G B, Sim K Z G B e S σ H → Sub G0 G → D.bk σ H
  | .ct e S => ∀ σ H G B, Sim K Z G B e S σ H → Sub G0 G → D.ct σ H
  | .ex c ns l e S => ∀ cls d σ H G B, Sim K Z G B e S σ H → Sub G0 G → RepX K G cls d c ns l → Wx cls d σ H
  | .st => False
def tS (f : Env' → Sto → SR) : TS := fun D σ H => ∃ G B e S, Sim K Z G B e S σ H ∧ QS K Z Wx G D (f e S)
end
section
variable {K : KW} {Z : Ent} {Wx : WX} {G G0 : Hp} {B : List Addr} {D : Ends} {e : Env'} {σ : L2.St} {H : Hp} {S : Sto}
theorem QS.sub {G1 : Hp} (x : Sub G0 G1) : ∀ {r : SR}, QS K Z Wx G0 D r → QS K Z Wx G1 D r
  | .nx e S, h => fun σ H G B s y => h σ H G B s (x.trans y)
  | .rt w S, h => fun v H G B s y => h v H G B s (x.trans y)
  | .bk e S, h => fun σ H G B s y => h σ H G B s (x.trans y)
  | .ct e S, h => fun σ H G B s y => h σ H G B s (x.trans y)
  | .ex c ns l e S, h => fun cls d σ H G B s y => h cls d σ H G B s (x.trans y)
  | .st, h => h
/-- an expression, then the rest of its statement -/
theorem QG.sr {α γ : Type} {rep : Hp → List Addr → α → γ → Prop} {Q : γ → Hp → Prop} {g : α → Sto → SR} (sl : Slots K G B e σ) : ∀ {r : R α}, QS K Z Wx G D (r.sr e g) →
    (∀ x H1 G1 B1 w S1, SimH K Z G1 B1 S1 H1 → Ext G B G1 B1 → rep G1 B1 w x → QS K Z Wx G1 D (g w S1) → Q x H1) → QG K Z rep e σ Wx G B Q r
  | .ok w S', h, k => fun v H' G' B' s x r => k v H' G' B' w S' s x r (QS.sub x.sub h)
  | .ex c ns l S', h, k => fun cls d H' G' B' s x rx => h cls d σ H' G' B' ⟨s, sl.mono x⟩ x.sub rx
  | .st, h, k => h
theorem Sim.at {G' : Hp} {B' : List Addr} {S' : Sto} {H' : Hp} (s : Sim K Z G B e S σ H) (h : SimH K Z G' B' S' H') (x : Ext G B G' B') : Sim K Z G' B' e S' σ H' := ⟨h, s.s.mono x⟩
theorem QG.noX {α γ : Type} {rep : Hp → List Addr → α → γ → Prop} {Q : γ → Hp → Prop} : ∀ {r : R α}, QG K Z rep e σ (fun _ _ _ _ => False) G B Q r → QG K Z rep e σ Wx G B Q r
  | .ok w S', h => h
  | .ex c ns l S', h => fun cls d H' G' B' s x r => (h cls d H' G' B' s x r).elim
  | .st, h => h
end

/-! ### statements -/
section
variable {X : Cx} {Z : Ent} {Wx : WX} {t : Tb}
abbrev KX (X : Cx) : KW := ⟨X.K, X.w⟩
abbrev RE (X : Cx) (Z : Ent) (Wx : WX) (f : Env' → Sto → R W) : TE := tG (KX X) Z (rV (KX X)) Wx f
abbrev RA (X : Cx) (Z : Ent) (Wx : WX) (f : Env' → Sto → R (List W)) : TA := tG (KX X) Z (rVs (KX X)) Wx f
abbrev RT (X : Cx) (Z : Ent) (Wx : WX) (f : Env' → Sto → R Bool) : TT := tG (KX X) Z rB Wx f
abbrev RO (X : Cx) (Z : Ent) (Wx : WX) (f : Env' → Sto → R (Option Int)) : TO := tG (KX X) Z rO Wx f
abbrev RI (X : Cx) (Z : Ent) (Wx : WX) (f : Env' → Sto → R (List W)) : TI := tG (KX X) Z (rI (KX X)) Wx f
abbrev RS (X : Cx) (Z : Ent) (Wx : WX) (f : Env' → Sto → SR) : TS := tS (KX X) Z Wx f

/-- the names' slots forgotten -/
theorem Slots.wipe {K : KW} {G : Hp} {B : List Addr} {e : Env'} {σ : L2.St} (h : Slots K G B e σ) : ∀ vs : List Nat, Slots K G B (kill e vs) (L2.wipe σ vs)
  | [] => h
  | v :: vs => by
    have q := Slots.wipe (e := e.set v Option.none) (σ := σ.set v Option.none) (Slots.none h) vs
    have c : ∀ (vs : List Nat) (σ : L2.St), L2.wipe (σ.set v Option.none) vs = (L2.wipe σ vs).set v Option.none := by
      intro vs
      induction vs with
      | nil => intro σ; rfl
      | cons u us ih =>
        intro σ
        show (L2.wipe (σ.set v Option.none) us).set u Option.none = ((L2.wipe σ us).set u Option.none).set v Option.none
        rw [ih]
        by_cases z : u = v
        · rw [z]
        · exact List.set_comm _ _ (Ne.symm z)
    rw [c] at q
    exact q
theorem Slots.kill {K : KW} {G : Hp} {B : List Addr} : ∀ {ks : List Nat} {e : Env'} {σ : L2.St}, Slots K G B e σ → Slots K G B (kill e ks) σ
  | [], e, σ, h => h
  | k :: ks, e, σ, h => Slots.kill (ks := ks) h.drop
theorem ats_take {B : List Addr} {n : Nat} (bt : ∀ (i : Nat) (a : Addr), i < n → B[i]? = some a → (B.take n)[i]? = some a) : ∀ (l : List Nat) (vs : List V), (l.all fun i => decide (i < n)) = true → Ats B l vs → Ats (B.take n) l vs
  | [], vs, _, h => h
  | j :: r, vs, f, h => by
    rw [List.all_cons, Bool.and_eq_true] at f
    obtain ⟨b, u, k1, k2, k3⟩ := h
    exact ⟨b, u, k1, bt j b (of_decide_eq_true f.1) k2, ats_take bt r u f.2 k3⟩
theorem pre_take {B B0 : List Addr} {n : Nat} (hn : B0.length ≤ n) (h : ∃ t, B = B0 ++ t) : ∃ t, B.take n = B0 ++ t := by
  obtain ⟨t, e⟩ := h
  refine ⟨t.take (n - B0.length), ?_⟩
  rw [e, List.take_append, List.take_of_length_le hn]
theorem SimH.le {K : KW} {Z : Ent} {G : Hp} {B : List Addr} {S : Sto} {H : Hp} (s : SimH K Z G B S H) : Z.B.length ≤ S.length := by
  obtain ⟨t, e⟩ := s.pre
  rw [← s.len, e, List.length_append]
  omega
/-- objects forgotten -/
theorem trim_ok {K : KW} {Z : Ent} {G : Hp} {B : List Addr} {e : Env'} {S : Sto} {σ : L2.St} {H : Hp} {n : Nat} (hn : Z.B.length ≤ n) (s : Sim K Z G B e S σ H) : ∃ B', Sim K Z G B' e (trim n e S) σ H := by
  unfold trim
  by_cases h1 : S.length ≤ n
  · rw [if_pos h1]
    exact ⟨B, s⟩
  · rw [if_neg h1]
    by_cases h2 : trimOk n e S = true
    · rw [if_pos h2]
      unfold trimOk at h2
      rw [Bool.and_eq_true] at h2
      obtain ⟨h2, h3⟩ := h2
      have bt : ∀ (i : Nat) (a : Addr), i < n → B[i]? = some a → (B.take n)[i]? = some a := fun i a hi q => by rw [List.getElem?_take_of_lt hi]; exact q
      have rw_ : ∀ (w : W) (v : V), refW n w = true → RepW K G B w v → RepW K G (B.take n) w v := fun w v f r => by
        cases w with
        | d x => exact r
        | m i =>
          obtain ⟨a, q1, q2⟩ := r
          exact ⟨a, bt i a (of_decide_eq_true f) q1, q2⟩
      have rws : ∀ (l : List W) (vs : List V), l.all (refW n) = true → RepWs K G B l vs → RepWs K G (B.take n) l vs := fun l => by
        induction l with
        | nil => exact fun vs _ h => h
        | cons w l ih =>
          intro vs f h
          rw [List.all_cons, Bool.and_eq_true] at f
          obtain ⟨v, r, e1, q1, q2⟩ := h
          exact ⟨v, r, e1, rw_ w v f.1 q1, ih r f.2 q2⟩
      have look : ∀ (i : Nat) (o : Ob), (S.take n)[i]? = some (some o) → i < n ∧ S[i]? = some (some o) := fun i o q => by
        have hi : i < n := by
          have := (List.getElem?_eq_some_iff.mp q).1
          rw [List.length_take] at this
          omega
        rw [List.getElem?_take_of_lt hi] at q
        exact ⟨hi, q⟩
      refine ⟨B.take n, ⟨s.h.gh, by rw [List.length_take, List.length_take, s.h.len], fun i o q => ?_, fun i j o u a q1 q2 b1 b2 => ?_, s.h.fr, s.h.fg, s.h.mono, s.h.dom, pre_take hn s.h.pre⟩, ?_⟩
      · obtain ⟨hi, q'⟩ := look i o q
        obtain ⟨a, e1, e2, e3, e4⟩ := s.h.ob i o q'
        refine ⟨a, bt i a hi e1, e2, ?_, e4⟩
        have f := List.all_eq_true.mp h3 _ (List.mem_of_getElem? q)
        cases o with
        | lst l => exact e3
        | dk ks l => exact e3
        | mat l =>
          obtain ⟨vs, g1, g2, g3⟩ := e3
          refine ⟨vs, g1, g2, ?_⟩
          exact ats_take bt l vs f g3
        | ins c ns l =>
          obtain ⟨dx, vs, g1, g2, g3⟩ := e3
          exact ⟨dx, vs, g1, g2, rws l vs f g3⟩
      · obtain ⟨hi, p1⟩ := look i o q1
        obtain ⟨hj, p2⟩ := look j u q2
        rw [List.getElem?_take_of_lt hi] at b1
        rw [List.getElem?_take_of_lt hj] at b2
        exact s.h.inj i j o u a p1 p2 b1 b2
      · have : ∀ (e : Env') (σ : L2.St), (e.all fun w => match w with
          | some w => refW n w
          | none => true) = true → Slots K G B e σ → Slots K G (B.take n) e σ := fun e => by
          induction e with
          | nil => exact fun σ _ h => h
          | cons w e ih =>
            intro σ f h
            rw [List.all_cons, Bool.and_eq_true] at f
            cases w with
            | none =>
              obtain ⟨x, r, e1, q⟩ := h
              exact ⟨x, r, e1, ih r f.2 q⟩
            | some w =>
              obtain ⟨v, r, e1, q1, q2⟩ := h
              exact ⟨v, r, e1, rw_ w v f.1 q1, ih r f.2 q2⟩
        exact this e σ h2 s.s
    · rw [if_neg h2]
      exact ⟨B, s⟩

/-- THE LOOP over what is walked -/
theorem for_sound {tg it : Expr} {body : List Stmt} {pos : Pos} {fi : Env' → Sto → R (List W)} {g : W → Env' → Sto → Option Env'} {fb : Env' → Sto → SR} {ks ts : List Nat} (po : PassesOwn (model X.prog X.w) X.A X.env X.xe) (hc : X.calm = true)
    (hi : PI X tg it (RI X Z Wx fi)) (hg : PG X tg (tgR (KX X) Z ts g)) (hb : PSs X body (RS X Z Wx fb)) (hs : ∀ x, foldedSetIterable it X.env x = pure x) :
    PS X (.For tg it body [] pos) (RS X Z Wx fun e S => (fi e S).sr e fun ws S => loopF g fb ks S.length ws e S) := by
  refine PS.imp (ps_for po hc hi hg hb hs) fun D σ H h => ?_
  obtain ⟨G, B, e, S, sim, h⟩ := h
  refine ⟨G, B, e, S, sim, QG.sr sim.s h fun J H1 G1 B1 ws S1 s1 x1 io h1 => ?_⟩
  refine ⟨fun i m σ' H' => m = ws.length - i ∧ i ≤ ws.length ∧ ∃ G' B' e' S', Sim (KX X) Z G' B' e' S' σ' H' ∧ Sub G1 G' ∧ QS (KX X) Z Wx G' D (loopF g fb ks S1.length (ws.drop i) e' S'), ⟨ws.length, by simp, Nat.zero_le _, G1, B1, e, S1, sim.at s1 x1, Sub.refl _, h1⟩, ?_⟩
  rintro i m σ' H' ⟨rfl, hi', G', B', e', S', s', x', h'⟩
  obtain ⟨st, go⟩ := io Z G' H' B' S' x' s'.h
  by_cases hl : i < ws.length
  · refine .inr ?_
    obtain ⟨go1, go2⟩ := go i ws[i] (List.getElem?_eq_getElem hl)
    rw [List.drop_eq_getElem_cons hl] at h'
    refine ⟨go1, fun σ2 H2 => ∃ G' B' e' S', Sim (KX X) Z G' B' e' S' σ2 H2 ∧ Sub G1 G' ∧ QS (KX X) Z Wx G' D (loopF g fb ks S1.length (ws.drop (i + 1)) e' S'), fun σ2 H2 q => ⟨ws.length - (i + 1), by omega, rfl, hl, q⟩, fun x H2 y => ?_⟩
    obtain ⟨G2, s2, x2, r2⟩ := go2 x H2 y
    unfold loopF at h'
    cases eg : g ws[i] e' S' with
    | none =>
      rw [eg] at h'
      exact h'.elim
    | some e1 =>
      rw [eg] at h'
      refine ⟨G2, B', e', S', ws[i], e1, s'.at s2 x2, r2, eg, fun σ3 sl _ => ⟨G2, B', e1, S', ⟨s2, sl⟩, ?_⟩⟩
      have h2 := QS.sub x2.sub h'
      simp only at h2
      have again : ∀ (e2 : Env') (S2 : Sto), QS (KX X) Z Wx G2 D (loopF g fb ks S1.length (ws.drop (i + 1)) (En.kill e2 ks) (trim S1.length (En.kill e2 ks) S2)) → ∀ σ H G B, Sim (KX X) Z G B e2 S2 σ H → Sub G2 G →
          ∃ G' B' e' S', Sim (KX X) Z G' B' e' S' σ H ∧ Sub G1 G' ∧ QS (KX X) Z Wx G' D (loopF g fb ks S1.length (ws.drop (i + 1)) e' S') := fun e2 S2 q σ H G B sm y => by
        obtain ⟨B3, s3⟩ := trim_ok (n := S1.length) s1.le (show Sim (KX X) Z G B (En.kill e2 ks) S2 σ H from ⟨sm.h, sm.s.kill⟩)
        exact ⟨G, B3, _, _, s3, (x'.trans x2.sub).trans y, QS.sub y q⟩
      cases eb : fb e1 S' with
      | nx e2 S2 =>
        rw [eb] at h2
        exact again e2 S2 h2
      | ct e2 S2 =>
        rw [eb] at h2
        exact again e2 S2 h2
      | bk e2 S2 =>
        rw [eb] at h2
        intro σ H G B sm y
        obtain ⟨B3, s3⟩ := trim_ok (n := S1.length) s1.le (show Sim (KX X) Z G B (En.kill e2 ks) S2 σ H from ⟨sm.h, sm.s.kill⟩)
        exact h2 σ H G B3 s3 y
      | rt w S2 =>
        rw [eb] at h2
        exact h2
      | ex c ns l e2 S2 =>
        rw [eb] at h2
        exact h2
      | st =>
        rw [eb] at h2
        exact h2.elim
  · have el : i = ws.length := by omega
    subst el
    rw [List.drop_length] at h'
    exact .inl ⟨st, h' σ' H' G' B' s' (Sub.refl _)⟩
/-- WHILE -/
theorem while_sound {c : Expr} {body : List Stmt} {pos : Pos} {ft : Env' → Sto → R Bool} {fb : Env' → Sto → SR} {ks : List Nat} {fuel : Nat} (po : PassesOwn (model X.prog X.w) X.A X.env X.xe)
    (ht : PT X c (RT X Z Wx ft)) (hb : PSs X body (RS X Z Wx fb)) :
    PS X (.While c body [] pos) (RS X Z Wx fun e S => loopW ft fb ks S.length fuel e S) := by
  refine PS.imp (ps_while po ht hb) fun D σ H h => ?_
  obtain ⟨G, B, e, S, sim, h⟩ := h
  refine ⟨fun m σ' H' => ∃ G' B' e' S', Sim (KX X) Z G' B' e' S' σ' H' ∧ QS (KX X) Z Wx G' D (loopW ft fb ks S.length m e' S'), ⟨fuel, G, B, e, S, sim, h⟩, ?_⟩
  rintro m σ' H' ⟨G', B', e', S', s', h'⟩
  cases m with
  | zero => exact h'.elim
  | succ m =>
    unfold loopW at h'
    refine ⟨G', B', e', S', s', QG.sr s'.s h' fun b H1 G1 B1 b' S1 s1 x1 rb h1 => ?_⟩
    have rb : b = b' := rb
    subst rb
    have sm1 := s'.at s1 x1
    cases b with
    | false =>
      rw [if_neg Bool.false_ne_true]
      exact h1 σ' H1 G1 B1 sm1 (Sub.refl _)
    | true =>
      rw [if_pos rfl]
      refine ⟨fun σ2 H2 => ∃ G' B' e' S', Sim (KX X) Z G' B' e' S' σ2 H2 ∧ QS (KX X) Z Wx G' D (loopW ft fb ks S.length m e' S'), fun σ2 H2 q => ⟨m, Nat.lt_succ_self m, q⟩, G1, B1, e', S1, sm1, ?_⟩
      simp only at h1
      have again : ∀ (e2 : Env') (S2 : Sto), QS (KX X) Z Wx G1 D (loopW ft fb ks S.length m (En.kill e2 ks) (trim S.length (En.kill e2 ks) S2)) → ∀ σ H G B, Sim (KX X) Z G B e2 S2 σ H → Sub G1 G →
          ∃ G' B' e' S', Sim (KX X) Z G' B' e' S' σ H ∧ QS (KX X) Z Wx G' D (loopW ft fb ks S.length m e' S') := fun e2 S2 q σ H G B sm y => by
        obtain ⟨B3, s3⟩ := trim_ok (n := S.length) sim.h.le (show Sim (KX X) Z G B (En.kill e2 ks) S2 σ H from ⟨sm.h, sm.s.kill⟩)
        exact ⟨G, B3, _, _, s3, QS.sub y q⟩
      cases eb : fb e' S1 with
      | nx e2 S2 =>
        rw [eb] at h1
        exact again e2 S2 h1
      | ct e2 S2 =>
        rw [eb] at h1
        exact again e2 S2 h1
      | bk e2 S2 =>
        rw [eb] at h1
        intro σ H G B sm y
        obtain ⟨B3, s3⟩ := trim_ok (n := S.length) sim.h.le (show Sim (KX X) Z G B (En.kill e2 ks) S2 σ H from ⟨sm.h, sm.s.kill⟩)
        exact h1 σ H G B3 s3 y
      | rt w S2 =>
        rw [eb] at h1
        exact h1
      | ex c ns l e2 S2 =>
        rw [eb] at h1
        exact h1
      | st =>
        rw [eb] at h1
        exact h1.elim
end
end En

namespace En
open PySem PySem.Spec PyProof.Rows L2
def Lv (B : List Addr) (S : Sto) (a : Addr) : Prop := ∃ (i : Nat) (o : Ob), S[i]? = some (some o) ∧ B[i]? = some a
/-- the entry at this moment -/
def now (H G : Hp) (B : List Addr) (S : Sto) : Ent := ⟨H, G, Lv B S, B⟩
section
variable {K : KW} {Z : Ent} {G H : Hp} {B : List Addr} {S : Sto}
theorem SimH.start (s : SimH K Z G B S H) : SimH K (now H G B S) G B S H := by
  refine ⟨s.gh, s.len, fun i o q => ?_, s.inj, fun a o q _ => q, fun a _ _ => rfl, Sub.refl G, fun a q => q, [], by show B = B ++ []; simp⟩
  obtain ⟨a, e1, e2, e3, e4⟩ := s.ob i o q
  exact ⟨a, e1, e2, e3, .inl ⟨i, o, q, e1⟩⟩
theorem SimH.lv {a : Addr} (s : SimH K Z G B S H) (h : Lv B S a) : (Z.L a ∨ Z.H a = none) ∧ (∃ o, H a = some o) ∧ G a = none := by
  obtain ⟨i, o, q1, q2⟩ := h
  obtain ⟨a', e1, e2, e3, e4⟩ := s.ob i o q1
  rw [q2] at e1
  cases e1
  exact ⟨e4, e3.there, e2⟩
theorem SimH.then {G' H' : Hp} {B' : List Addr} {S' : Sto} (s : SimH K Z G B S H) (c : SimH K (now H G B S) G' B' S' H') : SimH K Z G' B' S' H' := by
  refine ⟨c.gh, c.len, fun i o q => ?_, c.inj, fun a o q1 q2 => ?_, fun a q1 q2 => ?_, s.mono.trans c.mono, fun a q => c.dom a (s.dom a q), ?_⟩
  · obtain ⟨a, e1, e2, e3, e4⟩ := c.ob i o q
    refine ⟨a, e1, e2, e3, ?_⟩
    rcases e4 with e4 | e4
    · exact (s.lv e4).1
    · refine .inr ?_
      cases q : Z.H a with
      | none => rfl
      | some u => exact absurd (show H a = none from e4) (s.dom a (by rw [q]; intro z; cases z))
  · refine c.fr a o (s.fr a o q1 q2) fun q => ?_
    rcases (s.lv q).1 with z | z
    · exact q2 z
    · rw [z] at q1
      cases q1
  · have q : G' a = G a := c.fg a (s.dom a q1) fun q => by
      rcases (s.lv q).1 with z | z
      · exact q2 z
      · exact q1 z
    rw [q]
    exact s.fg a q1 q2
  · obtain ⟨t, e⟩ := c.pre
    have e : B' = B ++ t := e
    rw [e]
    exact s.pre_app t
/-- a thing outside stays as it is -/
theorem SimH.out {G' H' : Hp} {B' : List Addr} {S' : Sto} {a : Addr} {o : HO} (c : SimH K (now H G B S) G' B' S' H') (h : H a = some o) (n : ¬ Lv B S a) : H' a = some o ∧ G' a = G a ∧ ¬ Lv B' S' a := by
  refine ⟨c.fr a o h n, c.fg a (by show H a ≠ none; rw [h]; intro z; cases z) n, fun q => ?_⟩
  rcases (c.lv q).1 with z | z
  · exact n z
  · have z : H a = none := z
    rw [z] at h
    cases h
theorem SimH.updOut {p : Addr} {o : HO} (s : SimH K Z G B S H) (hg : G p = none) (n : ¬ Lv B S p) (hz : Z.H p = none) : SimH K Z G B S (upd H p o) := by
  refine ⟨fun a u q => ?_, s.len, fun i u q => ?_, s.inj, fun a u q1 q2 => ?_, s.fg, s.mono, fun a q => ?_, s.pre⟩
  · have z : a ≠ p := by
      rintro rfl
      rw [hg] at q
      cases q
    rw [upd_ne z]
    exact s.gh a u q
  · obtain ⟨a, e1, e2, e3, e4⟩ := s.ob i u q
    have z : a ≠ p := by
      rintro rfl
      exact n ⟨i, u, q, e1⟩
    exact ⟨a, e1, e2, e3.keep (Ext.refl G B) fun o q => by rw [upd_ne z]; exact q, e4⟩
  · have z : a ≠ p := by
      rintro rfl
      rw [hz] at q1
      cases q1
    rw [upd_ne z]
    exact s.fr a u q1 q2
  · by_cases z : a = p
    · subst z
      rw [upd_same]
      intro y
      cases y
    · rw [upd_ne z]
      exact s.dom a q
theorem SimH.adoptG {p : Addr} {o : HO} (s : SimH K Z G B S H) (h : H p = some o) (hz : Z.H p = none) (hg : G p = none) (n : ¬ Lv B S p) : SimH K Z (upd G p o) B S H ∧ Ext G B (upd G p o) B := by
  have x : Ext G B (upd G p o) B := ⟨Sub.new hg, [], by simp⟩
  refine ⟨⟨fun a u q => ?_, s.len, fun i u q => ?_, s.inj, s.fr, fun a q1 q2 => ?_, s.mono.trans x.sub, s.dom, s.pre⟩, x⟩
  · by_cases z : a = p
    · subst z
      rw [upd_same] at q
      cases q
      exact h
    · rw [upd_ne z] at q
      exact s.gh a u q
  · obtain ⟨a, e1, e2, e3, e4⟩ := s.ob i u q
    have z : a ≠ p := by
      rintro rfl
      exact n ⟨i, u, q, e1⟩
    exact ⟨a, e1, by rw [upd_ne z]; exact e2, e3.keep x fun o q => q, e4⟩
  · have z : a ≠ p := by
      rintro rfl
      exact q1 hz
    rw [upd_ne z]
    exact s.fg a q1 q2
theorem SimH.adoptM {p : Addr} {o : HO} {u : Ob} (s : SimH K Z G B S H) (h : H p = some o) (hz : Z.H p = none) (hg : G p = none) (n : ¬ Lv B S p) (r : ∀ B', Ext G B G B' → ObR K G B' H p u) : SimH K Z G (B ++ [p]) (S ++ [some u]) H ∧ Ext G B G (B ++ [p]) := by
  have x : Ext G B G (B ++ [p]) := ⟨Sub.refl G, [p], rfl⟩
  have split : ∀ (i : Nat) (v : Ob), (S ++ [some u])[i]? = some (some v) → (i < S.length ∧ S[i]? = some (some v)) ∨ (i = S.length ∧ v = u) := fun i v q => by
    by_cases hi : i < S.length
    · rw [List.getElem?_append_left hi] at q
      exact .inl ⟨hi, q⟩
    · rw [List.getElem?_append_right (Nat.le_of_not_lt hi)] at q
      cases k : i - S.length with
      | zero =>
        rw [k] at q
        simp at q
        exact .inr ⟨by omega, q.symm⟩
      | succ n =>
        rw [k] at q
        simp at q
  have bat : ∀ (i : Nat) (a : Addr), i < S.length → (B ++ [p])[i]? = some a → B[i]? = some a := fun i a hi q => by
    rw [List.getElem?_append_left (by rw [s.len]; exact hi)] at q
    exact q
  have bend : (B ++ [p])[S.length]? = some p := by
    rw [List.getElem?_append_right (by rw [s.len]; exact Nat.le_refl _), s.len]
    simp
  refine ⟨⟨s.gh, by simp [s.len], fun i v q => ?_, fun i j v v' a q1 q2 b1 b2 => ?_, s.fr, s.fg, s.mono, s.dom, s.pre_app [p]⟩, x⟩
  · rcases split i v q with ⟨hi, q⟩ | ⟨rfl, rfl⟩
    · obtain ⟨a, e1, e2, e3, e4⟩ := s.ob i v q
      exact ⟨a, pre_get e1, e2, e3.keep x fun o q => q, e4⟩
    · exact ⟨p, bend, hg, r _ x, .inr hz⟩
  · rcases split i v q1 with ⟨hi, p1⟩ | ⟨p1, _⟩
    · rcases split j v' q2 with ⟨hj, p2⟩ | ⟨p2, _⟩
      · exact s.inj i j v v' a p1 p2 (bat i a hi b1) (bat j a hj b2)
      · rw [p2, bend] at b2
        cases b2
        exact (n ⟨i, v, p1, bat i _ hi b1⟩).elim
    · rcases split j v' q2 with ⟨hj, p2⟩ | ⟨p2, _⟩
      · rw [p1, bend] at b1
        cases b1
        exact (n ⟨j, v', p2, bat j _ hj b2⟩).elim
      · rw [p1, p2]
end
theorem PE.ex {X : Cx} {e : Expr} {α : Type} {t : α → TE} (h : ∀ z, PE X e (t z)) : PE X e (fun σ H Q => ∃ z, t z σ H Q) := ⟨fun pins s σ H Q I ⟨z, q⟩ => (h z).run pins s σ H Q I q⟩
theorem PG.ex {X : Cx} {tg : Expr} {α : Type} {t : α → TG} (h : ∀ z, PG X tg (t z)) : PG X tg (fun v σ H Q => ∃ z, t z v σ H Q) := ⟨fun pins s σ H v u Q I r ⟨z, q⟩ => (h z).run pins s σ H v u Q I r q⟩
theorem PTs.ex {X : Cx} {e : List Expr} {α : Type} {t : α → TT} (h : ∀ z, PTs X e (t z)) : PTs X e (fun σ H Q => ∃ z, t z σ H Q) := ⟨fun pins s σ H Q I ⟨z, q⟩ => (h z).run pins s σ H Q I q⟩

section
variable {X : Cx} {Z : Ent} {Wx : WX}
abbrev W0 : WX := fun _ _ _ _ => False
theorem wipe_len (σ : L2.St) : ∀ vs : List Nat, (L2.wipe σ vs).length = σ.length := L2.wipe_length σ
theorem wipe_get (σ : L2.St) : ∀ (vs : List Nat) (i : Nat), (L2.wipe σ vs)[i]? = if i ∈ vs then (if i < σ.length then some none else none) else σ[i]?
  | [], i => by
    rw [if_neg (List.not_mem_nil)]
    rfl
  | v :: vs, i => by
    show ((L2.wipe σ vs).set v none)[i]? = _
    by_cases h : v = i
    · subst h
      rw [if_pos List.mem_cons_self]
      by_cases hl : v < σ.length
      · rw [if_pos hl, List.getElem?_set_self (by rw [wipe_len]; exact hl)]
      · rw [if_neg hl, List.getElem?_eq_none]
        rw [List.length_set, wipe_len]
        omega
    · rw [List.getElem?_set_ne h, wipe_get σ vs i]
      by_cases hm : i ∈ vs
      · rw [if_pos hm, if_pos (List.mem_cons_of_mem _ hm)]
      · rw [if_neg hm, if_neg (fun q => (List.mem_cons.mp q).elim (fun z => h z.symm) hm)]
theorem wipe_beside {ts vs : List Nat} {σ σ2 : L2.St} (h : Beside ts (L2.wipe σ vs) σ2) (hs : ∀ i ∈ ts, i ∈ vs) : L2.wipe σ2 vs = L2.wipe σ vs := by
  refine List.ext_getElem? fun i => ?_
  rw [wipe_get, wipe_get]
  have hl : σ2.length = σ.length := by rw [h.1, wipe_len]
  by_cases hm : i ∈ vs
  · rw [if_pos hm, if_pos hm, hl]
  · rw [if_neg hm, if_neg hm, h.2 i fun q => hm (hs i q), wipe_get, if_neg hm]
/-- the reading of a comprehension -/
theorem lc_read {fi : Env' → Sto → R (List W)} {g : W → Env' → Sto → Option Env'} {ft : Env' → Sto → R Bool} {fe : Env' → Sto → R W} {z : Bool} {vs ts : List Nat} (hts : ∀ i ∈ ts, i ∈ vs) (σ : L2.St) (H : Hp) (Q : VK)
    (h : RE X Z Wx (fun e S => (fi e S).bind fun ws S => (loopC g ft fe ws (kill e vs) [] S).noX.bind fun l S => mkL z l S) σ H Q) :
    tLc (RI X Z Wx fi) (fun v σ H Q => ∃ Z', tgR (KX X) Z' ts g v σ H Q) (fun σ H Q => ∃ Z', RT X Z' W0 ft σ H Q) (fun σ H Q => ∃ Z', RE X Z' W0 fe σ H Q) vs σ H Q := by
  obtain ⟨G, B, e, S, sim, h⟩ := h
  refine ⟨G, B, e, S, sim, h.bind fun J H1 G1 B1 ws S1 _ s1 x1 io h1 => fun Dl hD => ?_⟩
  have fr := s1.fresh hD
  have nl : ¬ Lv B1 S1 Dl := fun q => by
    obtain ⟨_, ⟨o, ho⟩, _⟩ := s1.lv q
    rw [hD] at ho
    cases ho
  have s1' : SimH (KX X) Z G1 B1 S1 (upd H1 Dl (.lst [])) := s1.updOut fr.1 nl fr.2
  refine ⟨fun i m H' => m = ws.length - i ∧ i ≤ ws.length ∧ ∃ G' B' S' acc av, SimH (KX X) Z G' B' S' H' ∧ Ext G1 B1 G' B' ∧ H' Dl = some (.lst av) ∧ av.length ≤ sizeLine ∧ RepL (KX X) G' acc av ∧ ¬ Lv B' S' Dl ∧ G' Dl = none ∧
    QG (KX X) Z (rV (KX X)) e σ Wx G' B' Q ((loopC g ft fe (ws.drop i) (kill e vs) acc S').noX.bind fun l S => mkL z l S), ⟨ws.length, by simp, Nat.zero_le _, G1, B1, S1, [], [], s1', Ext.refl _ _, upd_same, Nat.zero_le _, by simp [RepL], nl, fr.1, h1⟩, ?_⟩
  rintro i m H' ⟨rfl, hi', G', B', S', acc, av, s', x', hl', hz', ra, nl', g', h'⟩
  obtain ⟨st, _⟩ := io Z G' H' B' S' x'.sub s'
  by_cases hl : i < ws.length
  · refine .inr ?_
    obtain ⟨_, go⟩ := io (now H' G' B' S') G' H' B' S' x'.sub s'.start
    obtain ⟨go1, go2⟩ := go i ws[i] (List.getElem?_eq_getElem hl)
    have hZ : Z.H Dl = none := fr.2
    rw [List.drop_eq_getElem_cons hl] at h'
    refine ⟨go1, fun H2 => ∃ G' B' S' acc av, SimH (KX X) Z G' B' S' H2 ∧ Ext G1 B1 G' B' ∧ H2 Dl = some (.lst av) ∧ av.length ≤ sizeLine ∧ RepL (KX X) G' acc av ∧ ¬ Lv B' S' Dl ∧ G' Dl = none ∧
      QG (KX X) Z (rV (KX X)) e σ Wx G' B' Q ((loopC g ft fe (ws.drop (i + 1)) (kill e vs) acc S').noX.bind fun l S => mkL z l S), fun H2 q => ⟨ws.length - (i + 1), by omega, rfl, hl, q⟩, fun x H2 y => ?_⟩
    obtain ⟨G2, c2, x2, r2⟩ := go2 x H2 y
    obtain ⟨o1, o2, o3⟩ := c2.out hl' nl'
    have s2 := s'.then c2
    rw [g'] at o2
    unfold loopC at h'
    cases eg : g ws[i] (kill e vs) S' with
    | none =>
      rw [eg] at h'
      exact h'.elim
    | some e1 =>
      rw [eg] at h'
      have sl0 : Slots (KX X) G2 B' (kill e vs) (L2.wipe σ vs) := (sim.s.wipe vs).mono ((x1.trans x').trans x2)
      refine ⟨Z, G2, B', kill e vs, S', ws[i], e1, ⟨s2, sl0⟩, r2, eg, fun σ2 sl bs => ⟨wipe_beside bs hts, ?_⟩⟩
      refine ⟨now H2 G2 B' S', G2, B', e1, S', ⟨s2.start, sl⟩, ?_⟩
      have h2 := QG.ext x2 h'
      simp only at h2
      cases et : ft e1 S' with
      | st =>
        rw [et] at h2
        exact h2.elim
      | ex c ns l S3 =>
        rw [et] at h2
        exact h2.elim
      | ok b S3 =>
        rw [et] at h2
        intro v H3 G3 B3 c3 x3 rb
        have rb : v = b := rb
        subst rb
        obtain ⟨p1, p2, p3⟩ := c3.out o1 o3
        have s3 := s2.then c3
        rw [o2] at p2
        have h3 := QG.ext x3 h2
        simp only [R.bind] at h3
        cases v with
        | false =>
          rw [if_neg Bool.false_ne_true]
          exact ⟨G3, B3, S3, acc, av, s3, (x'.trans x2).trans x3, p1, hz', RepL.mono (x2.trans x3).sub _ _ ra, p3, p2, h3⟩
        | true =>
          rw [if_pos rfl]
          refine ⟨now H3 G3 B3 S3, G3, B3, e1, S3, ⟨s3.start, sl.mono x3⟩, ?_⟩
          simp only at h3
          cases ee : fe e1 S3 with
          | st =>
            rw [ee] at h3
            exact h3.elim
          | ex c ns l S4 =>
            rw [ee] at h3
            exact h3.elim
          | ok w S4 =>
            rw [ee] at h3
            intro v H4 G4 B4 c4 x4 rv
            obtain ⟨q1, q2, q3⟩ := c4.out p1 p3
            have s4 := s3.then c4
            rw [p2] at q2
            cases w with
            | m k => exact h3.elim
            | d d0 =>
              have h4 := QG.ext x4 h3
              simp only [R.bind] at h4
              by_cases hsz : acc.length < sizeLine
              · rw [if_pos hsz] at h4
                have ra4 := RepL.mono ((x2.trans x3).trans x4).sub _ _ ra
                have le := ra4.length
                refine ⟨av, q1, by omega, G4, B4, S4, acc ++ [d0], av ++ [v], s4.updOut q2 q3 hZ, ((x'.trans x2).trans x3).trans x4, upd_same, by rw [List.length_append, List.length_singleton]; omega, ?_, q3, q2, h4⟩
                exact ra4.append ⟨v, [], rfl, rv, by simp only [RepL]⟩
              · rw [if_neg hsz] at h4
                exact h4.elim
  · have el : i = ws.length := by omega
    subst el
    rw [List.drop_length] at h'
    refine .inl ⟨st, ?_⟩
    have h' : QG (KX X) Z (rV (KX X)) e σ Wx G' B' Q (mkL z acc S') := h'
    unfold mkL at h'
    have hZ : Z.H Dl = none := fr.2
    cases z with
    | true =>
      obtain ⟨s2, x2⟩ := s'.adoptG hl' hZ g' nl'
      refine h' _ _ _ _ s2 x2 ?_
      show Rep (KX X) _ (.lst acc) _
      simp only [Rep]
      exact ⟨Dl, av, rfl, upd_same, hz', RepL.mono x2.sub _ _ ra⟩
    | false =>
      obtain ⟨s2, x2⟩ := s'.adoptM (u := .lst acc) hl' hZ g' nl' fun B'' x => ⟨av, hl', hz', ra⟩
      refine h' _ _ _ _ s2 x2 ⟨Dl, ?_, rfl⟩
      rw [← s'.len, List.getElem?_append_right (Nat.le_refl _)]
      simp
end
end En

namespace En
open PySem PySem.Spec PyProof.Rows L2

/-! ### the text against the terms -/
structure CI where
  name : Str
  n : Nat
/-- a call by keywords; of a method; of a class -/
structure KI where
  name : Str
  n : Nat
  ks : List Str
structure MI where
  c : Str
  m : Str
  n : Nat
  ks : List Str
structure NI where
  c : Str
  n : Nat
  ks : List Str
structure Gs where
  calls : List CI
  cons : List Str
  kcs : List KI := []
  mts : List MI := []
  nws : List NI := []
  flds : List (Str × Str) := []
  gcd : Bool := false
  prs : List (Str × Str) := []
  xns : List Str := []
  xfs : List Str := []
  rzs : List Str := []
  hot : Bool := false
def visB (sc : Scope) (x : Str) : Bool := match sc.names.lookup x with
  | some .local => true | some .cell => true | some .free => true | _ => false
def locB (sc : Scope) (x : Str) : Bool := match sc.names.lookup x with
  | some .local => true | some .cell => true | _ => false
def isLoc (sc : Scope) (x : Str) : Bool := match sc.names.lookup x with
  | some .local => true | _ => false
def gloB (sc : Scope) (x : Str) : Bool := match sc.names.lookup x with
  | some .globalImplicit => true | _ => false
def okN (x : Str) : Bool := !(x == ("__debug__" : Str)) && !(x == ("__classdict__" : Str)) && !(x == ("__name__" : Str))
def noStar : Expr → Bool
  | .Starred _ _ => false | _ => true
def noSuper : Expr → Bool
  | .Call (.Name _ _) [] [] _ => false | _ => true
def plainT : Expr → Bool
  | .UnaryOp .Not _ _ => false | .BoolOp _ _ _ => false | .IfExp _ _ _ _ => false | .Compare _ _ _ _ => false | _ => true
def noSlice : Expr → Bool
  | .Slice _ _ _ _ => false | _ => true
def noComp : Expr → Bool
  | .ListComp _ _ _ _ => false | .SetComp _ _ _ _ => false | .DictComp _ _ _ _ _ => false | _ => true
def lcOnly : Expr → Bool
  | .SetComp _ _ _ _ => false | .DictComp _ _ _ _ _ => false | _ => true
def noSet : Expr → Bool
  | .Set _ _ _ => false | _ => true
def noTup : Expr → Bool
  | .Tuple _ _ _ => false | _ => true
def nameAt (N : List Str) (sc : Scope) (i : Nat) (x : Str) : Bool := decide (N[i]? = some x) && (visB sc x && okN x)
def bltName (sc : Scope) (x y : Str) : Bool := decide (x = y) && gloB sc x
def isYes : T → Bool
  | .yes => true | _ => false
mutual
def G.ts : G → List Nat
  | .nm i => [i]
  | .tup l => l.ts
  | .two a b => [a, b]
def GL.ts : GL → List Nat
  | .nil => []
  | .cons g l => g.ts ++ l.ts
end
section
variable (g : Gs) (N : List Str)
mutual
def chkG (sc : Scope) : G → Expr → Bool
  | .nm i, .Name x _ => decide (N[i]? = some x) && locB sc x
  | .tup l, .Tuple es _ _ => !g.hot && chkGL sc l es
  | _, _ => false
def chkGL (sc : Scope) : GL → List Expr → Bool
  | .nil, [] => true
  | .cons g l, e :: es => noStar e && (chkG sc g e && chkGL sc l es)
  | _, _ => false
end
mutual
def chkE (sc : Scope) : E → Expr → Bool
  | .var i, .Name x _ => nameAt N sc i x
  | .frz i, .Name x _ => nameAt N sc i x
  | .int i, .Constant (.int j) _ _ => decide (i = j)
  | .str s, .Constant (.str z) _ _ => decide (s = z)
  | .bl b, .Constant (.bool c) _ _ => b == c
  | .non, .Constant .none _ _ => true
  | .glo n, .Name x _ => decide (g.cons[n]? = some x) && (gloB sc x && okN x)
  | .op _ o a b, .BinOp x p y _ => decide (o.op = p) && (chkE sc a x && chkE sc b y)
  | .neg a, .UnaryOp .USub x _ => chkE sc a x
  | .cmp o a b, .Compare x [p] [y] _ => decide (o.op = p) && (noSet y && (chkE sc a x && chkE sc b y))
  | .chn o o' a b c, .Compare x [p, p'] [y, z] _ => (decide (o.op = p) && decide (o'.op = p')) && (noSet z && (chkE sc a x && (chkE sc b y && chkE sc c z)))
  | .and l, .BoolOp .And es _ => chkEL sc l es
  | .or l, .BoolOp .Or es _ => chkEL sc l es
  | .not a, .UnaryOp .Not x _ => chkE sc a x
  | .ite c a b, .IfExp x y z _ => chkT sc c x && (chkE sc a y && chkE sc b z)
  | .tup l, .Tuple es _ _ => chkA sc l es
  | .lst _ l, .List es _ => chkA sc l es
  | .ix a b, .Subscript x y _ => noSlice y && (chkE sc a x && chkE sc b y)
  | .sl _ a lo hi, .Subscript x (.Slice l h none _) _ => chkE sc a x && (chkO sc lo l && chkO sc hi h)
  | .call n l _, .Call (.Name x _) es [] _ => !g.hot && ((match g.calls[n]? with
    | some c => decide (c.name = x) && decide (es.length = c.n)
    | none => false) && (gloB sc x && (okN x && chkA sc l es)))
  | .bi _ f l, .Call (.Name x _) es [] _ => (!g.hot || f.cold) && (bltName sc x f.name && (!es.isEmpty && chkA sc l es))
  | .isi a ty, .Call (.Name x _) [y, .Name c _] [] _ => bltName sc x "isinstance" && ((["list", "bool", "int"].contains ty && bltName sc c (Str.ofString ty)) && (noStar y && chkE sc a y))
  | .me _ m o l, .Call (.Attribute x nm ap) es [] p => decide (m.name = nm) && ((noSuper x && (ap.endLine == p.line)) && ((!es.isEmpty && decide (es.length < 30)) && (chkE sc o x && chkA sc l es)))
  | .lc _ own tg s t e, .ListComp x [⟨y, z, ifs, as⟩] c _ => !g.hot && (decide (as = 0) && ((blkC N sc c own && tg.ts.all fun i => (own.map (·.2)).contains i) && ((noSet z && chkSc sc s z y) && (chkG g N c tg y && ((match ifs with
    | [] => isYes t
    | [x] => chkT (relS c sc) t x
    | _ => false) && chkE (relS c sc) e x)))))
  | .fld c f a, .Attribute x f' _ => (decide (f = f') && decide ((c, f) ∈ g.flds)) && (noSuper x && chkE sc a x)
  | .kc q l k _, .Call (.Name x _) es kws _ => !g.hot && ((match g.kcs[q]? with
    | some c => (decide (c.name = x) && decide (es.length = c.n)) && chkK sc k c.ks kws
    | none => false) && (gloB sc x && (okN x && chkA sc l es)))
  | .mth q c m o l k _, .Call (.Attribute x nm ap) es kws p => !g.hot && ((match g.mts[q]? with
    | some d => ((decide (d.c = c) && (decide (d.m = m) && decide (m = nm))) && decide (es.length = d.n)) && chkK sc k d.ks kws
    | none => false) && ((noSuper x && (ap.endLine == p.line)) && (decide (es.length + kws.length < 29) && (chkE sc o x && chkA sc l es))))
  | .mk q c l k, .Call (.Name x _) es kws _ => !g.hot && ((match g.nws[q]? with
    | some d => (decide (d.c = x) && (decide (c = x) && decide (es.length = d.n))) && chkK sc k d.ks kws
    | none => false) && (gloB sc x && (okN x && chkA sc l es)))
  | .me0 _ m o, .Call (.Attribute x nm ap) [] [] p => decide (m.name = nm) && ((noSuper x && (ap.endLine == p.line)) && chkE sc o x)
  | .fst l, .JoinedStr es _ => decide (2 ≤ es.length) && chkA sc l es
  | .fmt a, .FormattedValue x c none _ => decide (c = -1) && chkE sc a x
  | .prop q c f a, .Attribute x f' _ => !g.hot && ((decide (f = f') && decide (g.prs[q]? = some (c, f))) && (noSuper x && chkE sc a x))
  | .mxd a b, .Call (.Name x _) [y] [⟨some k, z, _⟩] _ => !g.hot && ((bltName sc x "max" && decide (k = "default")) && (noStar y && (chkE sc a y && chkE sc b z)))
  | .xf i f, .Attribute (.Name x _) f' _ => (g.hot && decide (f = f')) && (decide (f ∈ g.xfs) && nameAt N sc i x)
  | .xis i c, .Call (.Name x _) [.Name y _, .Name z _] [] _ => (g.hot && bltName sc x "isinstance") && ((decide (c = z) && decide (c ∈ g.xns)) && (gloB sc c && (okN c && nameAt N sc i y)))
  | .gcd a b, .Call (.Name x _) [y, z] [] _ => (g.gcd && decide (x = "gcd")) && (gloB sc x && ((noStar y && noStar z) && (chkE sc a y && chkE sc b z)))
  | _, _ => false
def chkK (sc : Scope) : A → List Str → List Keyword → Bool
  | .nil, [], [] => true
  | .cons a l, x :: xs, ⟨some y, e, _⟩ :: kws => decide (x = y) && (chkE sc a e && chkK sc l xs kws)
  | _, _, _ => false
def chkEL (sc : Scope) : EL → List Expr → Bool
  | .one a, [x] => chkE sc a x
  | .cons a l, x :: es => chkE sc a x && chkEL sc l es
  | _, _ => false
def chkA (sc : Scope) : A → List Expr → Bool
  | .nil, [] => true
  | .cons a l, x :: es => noStar x && (chkE sc a x && chkA sc l es)
  | _, _ => false
def chkO (sc : Scope) : O → Option Expr → Bool
  | .no, none => true
  | .so a, some x => chkE sc a x
  | _, _ => false
def chkT (sc : Scope) : T → Expr → Bool
  | .val a, x => plainT x && chkE sc a x
  | .tru a, x => plainT x && chkE sc a x
  | .cmp o a b, .Compare x [p] [y] _ => decide (o.op = p) && (noSet y && (chkE sc a x && chkE sc b y))
  | .chn o o' a b c, .Compare x [p, p'] [y, z] _ => (decide (o.op = p) && decide (o'.op = p')) && (noSet z && (chkE sc a x && (chkE sc b y && chkE sc c z)))
  | .and l, .BoolOp .And es _ => chkTL sc l es
  | .or l, .BoolOp .Or es _ => chkTL sc l es
  | .not t, .UnaryOp .Not x _ => chkT sc t x
  | _, _ => false
def chkTL (sc : Scope) : TL → List Expr → Bool
  | .one t, [x] => chkT sc t x
  | .cons t l, x :: es => chkT sc t x && chkTL sc l es
  | _, _ => false
def chkSc (sc : Scope) : Sc → Expr → Expr → Bool
  | .seq a, x, _ => chkE sc a x
  | .chars a, x, _ => chkE sc a x
  | .rng1 a, .Call (.Name f _) [x] [] _, _ => bltName sc f "range" && (noStar x && chkE sc a x)
  | .rng2 a b, .Call (.Name f _) [x, y] [] _, _ => bltName sc f "range" && ((noStar x && noStar y) && (chkE sc a x && chkE sc b y))
  | .rng3 a b c, .Call (.Name f _) [x, y, z] [] _, _ => bltName sc f "range" && ((noStar x && (noStar y && noStar z)) && (chkE sc a x && (chkE sc b y && chkE sc c z)))
  | .enm a, .Call (.Name f _) [x] [] _, .Tuple _ _ _ => bltName sc f "enumerate" && (noStar x && chkE sc a x)
  | _, _, _ => false
end
def chkTs (sc : Scope) (t : T) (ifs : List Expr) : Bool := match ifs with
  | [] => isYes t
  | [x] => chkT g N sc t x
  | _ => false
end
/-- the list is made in the name's own turn -/
def swB (sc : Scope) (v : Expr) (x : Str) (p : Pos) : Bool := match v with
  | .ListComp _ _ c q => (isLoc sc x && (p.line == q.line)) && !(c.names.any fun (n, k) => n == x && (k == .local || k == .cell))
  | _ => false
/-- a try's context: nothing else is handled; its suites: g.hot -/
abbrev Gs.inX (g : Gs) : Gs := { g with hot := true }
mutual
def chkS (g : Gs) (N : List Str) (sc : Scope) : S → Stmt → Bool
  | .set i e, .Assign [.Name x _] v _ => decide (N[i]? = some x) && (locB sc x && (lcOnly v && chkE g N sc e v))
  | .asg tg e, .Assign [y] v _ => (!noTup y && noTup v) && (chkG g N sc tg y && chkE g N sc e v)
  | .aug i o e, .AugAssign (.Name x _) p v _ => decide (N[i]? = some x) && (locB sc x && (decide (o.op = p) && chkE g N sc e v))
  | .setIx o j e, .Assign [.Subscript x y _] v _ => (noSlice y && noTup v) && (noComp v && (chkE g N sc o x && (chkE g N sc j y && chkE g N sc e v)))
  | .ex e, .Expr x _ => noComp x && chkE g N sc e x
  | .ret e, .Return (some x) _ => chkE g N sc e x
  | .retN, .Return none _ => true
  | .iff t a b, .If x y z _ => chkT g N sc t x && (chkB g N sc a y && chkB g N sc b z)
  | .fo tg s b _, .For y z body [] _ => (!g.hot && noSet z && chkSc g N sc s z y) && (chkG g N sc tg y && chkB g N sc b body)
  | .wh t b _, .While x body [] _ => chkT g N sc t x && chkB g N sc b body
  | .brk, .Break _ => true
  | .cont, .Continue _ => true
  | .pass, .Pass _ => true
  | .setF c f o e, .Assign [.Attribute x f' _] v _ => (decide (f = f') && decide ((c, f) ∈ g.flds)) && (noComp v && (chkE g N sc o x && chkE g N sc e v))
  | .dead, _ => true
  | .augIx o j p e, .AugAssign (.Subscript x y _) p' v _ => (decide (p.op = p') && noSlice y) && (chkE g N sc o x && (chkE g N sc j y && chkE g N sc e v))
  | .raise c l z, .Raise (some (.Call (.Name x _) es [] _)) none _ => (!g.hot && (!z && (decide (x = c) && decide (c ∈ g.rzs)))) && (!es.isEmpty && (gloB sc x && (okN x && chkA g N sc l es)))
  | .tr b h, .Try body hds [] [] _ => (!g.hot && !hds.isEmpty) && (chkB g N sc b body && chkH g N sc h hds)
  | _, _ => false
def chkB (g : Gs) (N : List Str) (sc : Scope) : B → List Stmt → Bool
  | .nil, [] => true
  | .cons (.nop _) b, l => chkB g N sc b l
  | .cons (.fz _) b, l => chkB g N sc b l
  | .cons s b, st :: l => chkS g N sc s st && chkB g N sc b l
  | _, _ => false
def chkH (g : Gs) (N : List Str) (sc : Scope) : HL → List ExceptHandler → Bool
  | .nil, [] => true
  | .cons c i b h, .ExceptHandler (some (.Name x _)) n suite _ :: l => ((decide (x = c) && decide (c ∈ g.xns)) && (gloB sc x && okN x)) && ((match i, n with
    | none, none => true
    | some i, some n => decide (N[i]? = some n) && decide (sc.names.lookup n = some .local)
    | _, _ => false) && ((!suite.isEmpty && chkB g.inX N sc b suite) && chkH g N sc h l))
  | _, _ => false
end

/-! ### what holds where the text stands -/
def fnames : List Str := ["super", "len", "abs", "max", "min", "sum", "all", "any", "isinstance", "sorted", "divmod", "str", "int", "list", "tuple", "bool", "range", "enumerate"]
/-- a call of the def x by n values: its meaning -/
structure CallOk (P : Program) (w : World) (K : PySem.W.Frag) (mg : Str → Option Value) (base : Heap) (L : Nat) (c : CI) (F : Fn) (f : Addr) : Prop where
  gl : mg c.name = some (.ref f)
  kp : PySem.W.keepIn K (.ref f) = true
  run : ∀ (A : Around) (outer : List Env) (s : Shared) (H : Hp) (us : List Value) (vs : List V) (Q : VK) (Ex : XK), Room L A → Env0 P w K mg base A outer s H → Vals vs us → vs.length = c.n → spF ⟨K, w⟩ F vs H Q Ex →
    codeAny (model P w) A (.call (.ref f) ⟨us, []⟩) (CR (L2.CX P w) outer P w H s Q Ex) s
/-- a def called by n values and keywords ks: its meaning -/
structure KwOk (P : Program) (w : World) (K : PySem.W.Frag) (mg : Str → Option Value) (base : Heap) (L n : Nat) (ks : List Str) (src : List Src) (F : Fn) (f : Addr) : Prop where
  ex : ∃ fd ps gg gV, FnOk P w K mg base (L2.CX P w) L f fd ps (spF ⟨K, w⟩ F) ∧ KBn K fd ps n ks gg gV ∧ ∀ (G : Hp) (B : List Addr) (ws zs : List W) (vs zv : List V) (us : List W), RepWs ⟨K, w⟩ G B ws vs → RepWs ⟨K, w⟩ G B zs zv → vs.length = n → zv.length = ks.length → arr ws zs src = some us → RepWs ⟨K, w⟩ G B us (gV vs zv)
/-- an own exception class that is raised: with an __init__ that stores its parameters ns, or with none -/
def RzOk (P : Program) (w : World) (K : PySem.W.Frag) (mg : Str → Option Value) (base : Heap) (L : Nat) (c : Str) (ns : List Str) : Prop :=
  (ns ≠ [] ∧ ∃ k, k + 1 ≤ L ∧ SxOk P w K mg base k c (He.ga K c) ns) ∨
  (ns = [] ∧ ∃ B newId initId bmB, ExcBaseFacts B newId initId bmB ∧ PySem.W.excIn K (He.ga K c) bmB newId = true ∧ mg c = some (.ref (He.ga K c)) ∧ PySem.W.keepIn K (.ref (He.ga K c)) = true ∧ PySem.W.subIn K (.ref (He.ga K c)) (.type "BaseException") = some true ∧ PySem.W.typeIn K (.ref (He.ga K c)) = some (.type "type"))
/-- what the top offers to a def's body -/
structure Top (P : Program) (w : World) (K : PySem.W.Frag) (mg : Str → Option Value) (base : Heap) (g : Gs) (t : Tb) (L : Nat) : Prop where
  free : ∀ x ∈ fnames, mg x = none
  con : ∀ (n : Nat) (x : Str), g.cons[n]? = some x → ∃ d v u, t.cn[n]? = some d ∧ mg x = some u ∧ RelV v u ∧ ∀ G, Rep ⟨K, w⟩ G d v
  call : ∀ (n : Nat) (c : CI), g.calls[n]? = some c → ∃ F f, t.fn[n]? = some F ∧ CallOk P w K mg base L c F f
  kc : ∀ (q : Nat) (c : KI), g.kcs[q]? = some c → ∃ F src f, t.kc[q]? = some (F, src) ∧ mg c.name = some (.ref f) ∧ PySem.W.keepIn K (.ref f) = true ∧ KwOk P w K mg base L c.n c.ks src F f
  mt : ∀ (q : Nat) (c : MI), g.mts[q]? = some c → ∃ F src f, t.mt[q]? = some (F, src) ∧ Cls K (He.ga K c.c) ∧ Meth K (He.ga K c.c) c.m f ∧ KwOk P w K mg base L (c.n + 1) c.ks src F f
  nw : ∀ (q : Nat) (c : NI), g.nws[q]? = some c → ∃ F src f k, t.nw[q]? = some (F, src) ∧ mg c.c = some (.ref (He.ga K c.c)) ∧ Mk K (He.ga K c.c) f ∧ k + 1 ≤ L ∧ KwOk P w K mg base k (c.n + 1) c.ks src F f
  fl : ∀ p ∈ g.flds, Cls K (He.ga K p.1) ∧ NoAttr K (He.ga K p.1) p.2
  gc : g.gcd = true → mg "gcd" = some (.builtin "math.gcd")
  pr : ∀ (q : Nat) (c : Str × Str), g.prs[q]? = some c → ∃ F f p k fd ps, t.pr[q]? = some F ∧ Cls K (He.ga K c.1) ∧ PropOf K (He.ga K c.1) c.2 p f ∧ k + 1 ≤ L ∧ FnOk P w K mg base (L2.CX P w) k f fd ps (spF ⟨K, w⟩ F) ∧ Binds K fd ps []
  xn : ∀ x ∈ g.xns, ∃ v cv, (mg x = some cv ∨ (mg x = none ∧ bootBuiltins x = some cv ∧ x ≠ "__name__")) ∧ RelV v cv ∧ (∀ u, RelV v u → u = cv) ∧ ∀ c us, t.sup.lookup c = some us → PySem.W.exmOne K (.ref (He.ga K c)) cv = some (us.contains x) ∧ PySem.W.kitOne K (.ref (He.ga K c)) cv = some (us.contains x)
  xc : ∀ c us, t.sup.lookup c = some us → XfC K (He.ga K c) ∧ ExcC K (He.ga K c) ∧ ∀ f ∈ g.xfs, PySem.W.findIn K (.ref (He.ga K c)) f = some none
  rz : ∀ c ∈ g.rzs, ∃ ns, t.exn.lookup c = some ns ∧ RzOk P w K mg base L c ns
structure Cxt (g : Gs) (t : Tb) (L : Nat) (N : List Str) (sc so : Scope) (X : Cx) : Prop where
  hN : X.N = N
  nd : N.Nodup
  hsc : X.env.scope = sc
  fk : sc.kind = .function
  fn : ∀ x, so.names.lookup x = some .cell → X.fn x = true ∧ sc.names.lookup x = some .cell
  fl : ∀ x, so.names.lookup x = some .local → sc.names.lookup x = some .local
  calm : g.hot = false → X.calm = true
  room : g.hot = false → Room L X.A
  units : X.A.units + 64 < cLine
  tp : Top X.prog X.w X.K X.mg X.base g t L
/-- the exception in hand, where one is: its address stands at the place that the interpreter knows -/
def XOk (g : Gs) (t : Tb) (X : Cx) (Z : Ent) : Prop := g.hot = true → ∀ j c ns l, t.xc = some (j, c, ns, l) → ∃ (Y : Cx) (a : Addr) (oe : Obj) (d : Option Addr) (pn : List (Addr × Obj)), X = Y.suite a ((a, oe) :: pn) ∧ Zc (.ref (He.ga X.K c)) d oe ∧ (∃ vs, oe.data = .fields vs) ∧ Z.B[j]? = some a ∧ (∃ us, t.sup.lookup c = some us) ∧ RepX ⟨X.K, X.w⟩ Z.G (.ref (He.ga X.K c)) d c ns l
theorem XOk.cold {g : Gs} {t : Tb} {X : Cx} {Z : Ent} (h : g.hot = false) : XOk g t X Z := fun q => by rw [h] at q; cases q
structure Tk (g : Gs) (t : Tb) (X : Cx) (Z : Ent) (Wx : WX) : Prop where
  tk : Takes X Wx
  xo : XOk g t X Z
section
variable {g : Gs} {t : Tb} {L : Nat} {N : List Str} {sc so : Scope} {X : Cx} {Z : Ent} {Wx : WX}
theorem cold_of {b : Bool} (h : (!b) = true) : b = false := by simpa using h
theorem Cxt.free (c : Cxt g t L N sc so X) : ∀ x ∈ fnames, X.mg x = none := c.tp.free
theorem Cxt.con (c : Cxt g t L N sc so X) : ∀ (n : Nat) (x : Str), g.cons[n]? = some x → ∃ d v u, t.cn[n]? = some d ∧ X.mg x = some u ∧ RelV v u ∧ ∀ G, Rep ⟨X.K, X.w⟩ G d v := c.tp.con
theorem Cxt.call (c : Cxt g t L N sc so X) : ∀ (n : Nat) (c : CI), g.calls[n]? = some c → ∃ F f, t.fn[n]? = some F ∧ CallOk X.prog X.w X.K X.mg X.base L c F f := c.tp.call
theorem ba {a b : Bool} (h : (a && b) = true) : a = true ∧ b = true := Bool.and_eq_true_iff.mp h
theorem Cxt.vis (c : Cxt g t L N sc so X) {x : Str} (h : visB sc x = true) : Vis X.env.scope x := by
  rw [c.hsc]
  unfold visB at h
  unfold Vis
  split at h
  · exact .inl (by assumption)
  · exact .inr (.inl (by assumption))
  · exact .inr (.inr (by assumption))
  · cases h
theorem locB_ok {x : Str} (h : locB sc x = true) : sc.names.lookup x = some .local ∨ sc.names.lookup x = some .cell := by
  unfold locB at h
  split at h
  · exact .inl (by assumption)
  · exact .inr (by assumption)
  · cases h
theorem Cxt.loc (c : Cxt g t L N sc so X) {x : Str} (h : locB so x = true) : Loc X.env.scope x ∧ (X.fn x = true ∨ X.env.scope.names.lookup x = some .local) := by
  rw [c.hsc]
  rcases locB_ok h with h | h
  · exact ⟨.inl (c.fl x h), .inr (c.fl x h)⟩
  · exact ⟨.inr (c.fn x h).2, .inl (c.fn x h).1⟩
theorem Cxt.gl (c : Cxt g t L N sc so X) {x : Str} (h : gloB sc x = true) : Gl X x := by
  show X.env.scope.names.lookup x = some .globalImplicit
  rw [c.hsc]
  unfold gloB at h
  split at h
  · assumption
  · cases h
theorem okN_ok {x : Str} (h : okN x = true) : (x == ("__debug__" : Str)) = false ∧ (x == ("__classdict__" : Str)) = false ∧ x ≠ "__name__" := by
  unfold okN at h
  obtain ⟨h, h3⟩ := ba h
  obtain ⟨h1, h2⟩ := ba h
  exact ⟨by simpa using h1, by simpa using h2, by simpa using h3⟩
theorem Cxt.at (c : Cxt g t L N sc so X) {i : Nat} {x : Str} (h : N[i]? = some x) : X.N[i]? = some x := by
  rw [c.hN]
  exact h
theorem noStar_ok {e : Expr} {es : List Expr} {env : Env} (h : noStar e = true) : starEach (e :: es) env = (false, eval e env) :: starEach es env := by
  cases e <;> first
    | (cases h; done)
    | rfl
theorem noSuper_ok {e : Expr} {f : Str} {env : Env} (h : noSuper e = true) : attributeBase e f env (eval e env) = eval e env := by
  unfold noSuper at h
  split at h
  · cases h
  · rename_i hne
    unfold attributeBase
    split
    · rename_i id p pos
      exact absurd rfl (hne _ _ _)
    · rfl
theorem plainT_ok {e : Expr} {env : Env} (h : plainT e = true) (whole : Sem Value) : isTrue e env whole = (do let v ← whole; standAt e.pos; holding [v] (truthy v)) := by
  cases e <;> first
    | (cases h; done)
    | rfl
    | (rename_i op _ _; cases op <;> first | (cases h; done) | rfl)
theorem noSlice_ok {e : Expr} (h : noSlice e = true) : PlainIx e := by
  intro o i
  cases e <;> first
    | (cases h; done)
    | rfl
theorem noSet_ok {e : Expr} {op : CmpOp} (h : noSet e = true) : behindInMarks op e = false := by
  cases e <;> first
    | (cases h; done)
    | rfl
theorem noSet_it {e : Expr} {env : Env} (h : noSet e = true) : ∀ x, foldedSetIterable e env x = pure x := by
  intro x
  cases e <;> first
    | (cases h; done)
    | rfl
theorem star_any {es : List Expr} {env : Env} {pos : Pos} (h : es.all noStar = true) : (backTo pos (starEach es env)).any (·.1) = false := by
  induction es with
  | nil => rfl
  | cons e es ih =>
    rw [List.all_cons] at h
    obtain ⟨h1, h2⟩ := ba h
    rw [noStar_ok h1]
    show (false || (backTo pos (starEach es env)).any (·.1)) = false
    rw [ih h2]
    rfl
theorem star_all {es : List Expr} {env : Env} {pos : Pos} (h : es.all noStar = true) : (backTo pos (starEach es env)).all (fun x => !x.1) = true := by
  induction es with
  | nil => rfl
  | cons e es ih =>
    rw [List.all_cons] at h
    obtain ⟨h1, h2⟩ := ba h
    rw [noStar_ok h1]
    show (!false && (backTo pos (starEach es env)).all (fun x => !x.1)) = true
    rw [ih h2]
    rfl
theorem Cxt.nofree (c : Cxt g t L N sc so X) {x y : Str} (h : bltName sc x y = true) (hy : y ∈ fnames) : x = y ∧ Gl X x ∧ X.mg x = none := by
  obtain ⟨h1, h2⟩ := ba h
  have e := of_decide_eq_true h1
  subst e
  exact ⟨rfl, c.gl h2, c.free _ hy⟩
theorem relS_look {c : Scope} {x : Str} {k : NameKind} (hk : k ≠ .free) : c.names.lookup x = some k → (relS c sc).names.lookup x = some k := by
  show c.names.lookup x = some k → (c.names.map fun (p : Str × NameKind) => if (p.2 == .free && sc.kind == .function && sc.names.lookup p.1 == some .cell) then (p.1, .cell) else (p.1, p.2)).lookup x = some k
  generalize c.names = l
  induction l with
  | nil => exact fun h => h
  | cons p r ih =>
    intro h
    rw [List.map_cons]
    cases e : x == p.1 with
    | true =>
      have h : some p.2 = some k := by
        rw [← h]
        show _ = (match x == p.1 with | true => some p.2 | false => _)
        rw [e]
      have h := Option.some.inj h
      have hq : (p.2 == NameKind.free) = false := by
        rw [h]
        cases k <;> first | rfl | exact absurd rfl hk
      rw [hq]
      simp only [Bool.false_and, Bool.false_eq_true, if_false]
      show (match x == p.1 with | true => some p.2 | false => _) = _
      rw [e, h]
    | false =>
      have h : r.lookup x = some k := by
        rw [← h]
        show _ = (match x == p.1 with | true => some p.2 | false => _)
        rw [e]
      have q := ih h
      split
      · show (match x == p.1 with | true => _ | false => _) = _
        rw [e]
        exact q
      · show (match x == p.1 with | true => _ | false => _) = _
        rw [e]
        exact q
/-- the same where a comprehension's own block stands -/
theorem Cxt.blk (c : Cxt g t L N sc so X) {scope : Scope} (hk : scope.kind = .function) (s : Shared) (H : Hp) (C : Addr) (cl : List (Str × Addr)) (fp : List Addr) : Cxt g t L N (relS scope sc) scope (X.blk s H scope (compEnvC scope cl C X.env) fp) := by
  refine ⟨c.hN, c.nd, ?_, hk, fun x h => ⟨?_, relS_look (by decide) h⟩, fun x h => relS_look (by decide) h, c.calm, c.room, c.units, c.tp⟩
  · show relS scope X.env.scope = _
    rw [c.hsc]
  · show (scope.names.lookup x == some .cell) = true
    rw [h]
    rfl
end
end En

namespace En
open PySem PySem.Spec PyProof.Rows L2
section
variable {g : Gs} {t : Tb} {L : Nat} {N : List Str} {sc so : Scope} {X : Cx} {Z : Ent} {Wx : WX}
/-- a slot that is read -/
theorem var_ok {i : Nat} {x : Str} {pos : Pos} (c : Cxt g t L N sc so X) (h : nameAt N sc i x = true) : PE X (.Name x pos) (RE X Z Wx fun e S => getE e i S) := by
  obtain ⟨h1, h2⟩ := ba h
  obtain ⟨h2, h3⟩ := ba h2
  obtain ⟨n1, n2, _⟩ := okN_ok h3
  refine PE.imp (pe_var (i := i) (c.at (of_decide_eq_true h1)) (c.vis h2) n1 n2) fun σ H Q q => ?_
  obtain ⟨G, B, e, S, s, q⟩ := q
  dsimp only [getE] at q
  split at q
  · rename_i w hw
    obtain ⟨v, e1, r⟩ := s.s.get hw
    exact ⟨v, e1, q.here s.h r⟩
  · exact q.elim
/-- .. and comes to rest -/
theorem frz_ok {i : Nat} {x : Str} {pos : Pos} (c : Cxt g t L N sc so X) (h : nameAt N sc i x = true) : PE X (.Name x pos) (RE X Z Wx fun e S => frzI e i S) := by
  obtain ⟨h1, h2⟩ := ba h
  obtain ⟨h2, h3⟩ := ba h2
  obtain ⟨n1, n2, _⟩ := okN_ok h3
  refine PE.imp (pe_var (i := i) (c.at (of_decide_eq_true h1)) (c.vis h2) n1 n2) fun σ H Q q => ?_
  obtain ⟨G, B, e, S, s, q⟩ := q
  dsimp only [frzI] at q
  split at q
  · rename_i j hw
    obtain ⟨v, e1, r⟩ := s.s.get hw
    split at q
    · rename_i l hl
      obtain ⟨a, vs, ev, h4, h5, h6⟩ := lv_ok (l := l) s.h r (by simp only [lv, hl])
      obtain ⟨b, hb, eb⟩ := r
      have : a = b := by
        rw [ev] at eb
        cases eb
        rfl
      subst this
      obtain ⟨s2, x2⟩ := s.h.rest hl hb h4
      refine ⟨v, e1, q v H _ _ s2 x2 ?_⟩
      show Rep (KX X) _ (.lst l) v
      simp only [Rep]
      exact ⟨a, vs, ev, upd_same, h5, RepL.mono x2.sub _ _ h6⟩
    · exact q.elim
  · rename_i w _ hw
    obtain ⟨v, e1, r⟩ := s.s.get hw
    exact ⟨v, e1, q.here s.h r⟩
  · exact q.elim
theorem cst_ok {e : Expr} {v : V} {d : D} (h : PE X e (tC v)) (r : ∀ K G, Rep K G d v) : PE X e (RE X Z Wx fun _ S => ok1 d S) := PE.imp h fun σ H Q q => by
  obtain ⟨G, B, en, S, s, q⟩ := q
  exact q.here s.h (r _ _)
theorem glo_ok {n : Nat} {x : Str} {pos : Pos} (c : Cxt g t L N sc so X) (h1 : g.cons[n]? = some x) (h2 : gloB sc x = true) (h3 : okN x = true) : PE X (.Name x pos) (RE X Z Wx fun _ S => optR t.cn[n]? S) := by
  obtain ⟨d, v, u, e1, e2, r, rp⟩ := c.con n x h1
  refine PE.imp (pe_glob (c.gl h2) e2 r (okN_ok h3).1) fun σ H Q q => ?_
  obtain ⟨G, B, en, S, s, q⟩ := q
  rw [e1] at q
  exact q.here s.h (rp G)
theorem op_ok {z : Bool} {o : Bop} {x y : Expr} {pos : Pos} {fa fb : Env' → Sto → R W} (ha : PE X x (RE X Z Wx fa)) (hb : PE X y (RE X Z Wx fb)) :
    PE X (.BinOp x o.op y pos) (RE X Z Wx fun e S => (fa e S).bind fun p S => (fb e S).bind fun q S => bin z o p q S) := PE.imp (pe_op (opr_bin o) ha hb) fun σ H Q h => by
  obtain ⟨G, B, e, S, s, h⟩ := h
  refine ⟨G, B, e, S, s, h.bind fun x1 H1 G1 B1 w1 S1 _ s1 x1' r1 h1 => ⟨G1, B1, e, S1, s.at s1 x1', h1.bind fun x2 H2 G2 B2 w2 S2 _ s2 x2' r2 h2 => ?_⟩⟩
  exact bin_sound s2 (RepW.mono x2' r1) r2 h2
theorem neg_ok {x : Expr} {pos : Pos} {fa : Env' → Sto → R W} (ha : PE X x (RE X Z Wx fa)) :
    PE X (.UnaryOp .USub x pos) (RE X Z Wx fun e S => (fa e S).bind fun x S => (match x with
    | .d (.int i) => ok1 (.int (-i)) S
    | _ => .st)) := PE.imp (pe_un un_neg ha) fun σ H Q h => by
  obtain ⟨G, B, e, S, s, h⟩ := h
  refine ⟨G, B, e, S, s, h.bind fun x1 H1 G1 B1 w1 S1 _ s1 x1' r1 h1 => ?_⟩
  split at h1
  · simp only [rV, RepW, Rep] at r1
    exact ⟨_, r1, h1.d1 s1 (by simp only [Rep])⟩
  · exact h1.elim
theorem QG.optBW {K : KW} {e : Env'} {σ : L2.St} {G : Hp} {B : List Addr} {S : Sto} {Q : VK} {o : Option Bool} (h : QG K Z (rV K) e σ Wx G B Q (optBW o S)) : ∃ r, o = some r ∧ QG K Z (rV K) e σ Wx G B Q (ok1 (.bl r) S) := by
  cases o with
  | none => exact h.elim
  | some r => exact ⟨r, rfl, h⟩
theorem QG.optB {K : KW} {e : Env'} {σ : L2.St} {G : Hp} {B : List Addr} {S : Sto} {Q : Bool → Hp → Prop} {o : Option Bool} (h : QG K Z rB e σ Wx G B Q (optB o S)) : ∃ r, o = some r ∧ QG K Z rB e σ Wx G B Q (.ok r S) := by
  cases o with
  | none => exact h.elim
  | some r => exact ⟨r, rfl, h⟩
theorem cmp_ok {o : Cop} {x y : Expr} {pos : Pos} {fa fb : Env' → Sto → R W} (hu : X.A.units + 64 < cLine) (hm : noSet y = true) (ha : PE X x (RE X Z Wx fa)) (hb : PE X y (RE X Z Wx fb)) :
    PE X (.Compare x [o.op] [y] pos) (RE X Z Wx fun e S => (fa e S).bind fun p S => (fb e S).bind fun q S => optBW (cmpW o p q S) S) := PE.imp (pe_cmpR (opr_cmp hu o) ha hb (noSet_ok hm)) fun σ H Q h => by
  obtain ⟨G, B, e, S, s, h⟩ := h
  refine ⟨G, B, e, S, s, h.bind fun x1 H1 G1 B1 w1 S1 _ s1 x1' r1 h1 => ⟨G1, B1, e, S1, s.at s1 x1', h1.bind fun x2 H2 G2 B2 w2 S2 _ s2 x2' r2 h2 => ?_⟩⟩
  obtain ⟨r, e1, h2⟩ := h2.optBW
  exact cmp_sound s2 (RepW.mono x2' r1) r2 e1 (h2.d1 s2 (by simp only [Rep]))
theorem cmpT_ok {o : Cop} {x y : Expr} {pos : Pos} {fa fb : Env' → Sto → R W} (hu : X.A.units + 64 < cLine) (hm : noSet y = true) (ha : PE X x (RE X Z Wx fa)) (hb : PE X y (RE X Z Wx fb)) :
    PT X (.Compare x [o.op] [y] pos) (RT X Z Wx fun e S => (fa e S).bind fun p S => (fb e S).bind fun q S => optB (cmpW o p q S) S) := PT.imp (pt_cmpR (opr_cmp hu o) ha hb (noSet_ok hm)) fun σ H Q h => by
  obtain ⟨G, B, e, S, s, h⟩ := h
  refine ⟨G, B, e, S, s, h.bind fun x1 H1 G1 B1 w1 S1 _ s1 x1' r1 h1 => ⟨G1, B1, e, S1, s.at s1 x1', h1.bind fun x2 H2 G2 B2 w2 S2 _ s2 x2' r2 h2 => ?_⟩⟩
  obtain ⟨r, e1, h2⟩ := h2.optB
  exact cmp_sound s2 (RepW.mono x2' r1) r2 e1 ⟨r, rfl, h2.here s2 rfl⟩
theorem chn_last {y z : Expr} {o o' : CmpOp} (h : noSet z = true) : lastMarks [o, o'] [y, z] = false := by
  show behindInMarks o' z = false
  exact noSet_ok h
theorem chn_ok {o o' : Cop} {x y z : Expr} {pos : Pos} {fa fb fc : Env' → Sto → R W} (hu : X.A.units + 64 < cLine) (hm : noSet z = true) (ha : PE X x (RE X Z Wx fa)) (hb : PE X y (RE X Z Wx fb)) (hc : PE X z (RE X Z Wx fc)) :
    PE X (.Compare x [o.op, o'.op] [y, z] pos) (RE X Z Wx fun e S => (fa e S).bind fun p S => (fb e S).bind fun q S => (optB (cmpW o p q S) S).bind fun k S => match k with
    | true => (fc e S).bind fun w S => optBW (cmpW o' q w S) S
    | false => ok1 (.bl false) S) := PE.imp (pe_chain (opr_cmp hu o) (opr_cmp hu o') ha hb hc (chn_last hm)) fun σ H Q h => by
  obtain ⟨G, B, e, S, s, h⟩ := h
  refine ⟨G, B, e, S, s, h.bind fun x1 H1 G1 B1 w1 S1 _ s1 x1' r1 h1 => ⟨G1, B1, e, S1, s.at s1 x1', h1.bind fun x2 H2 G2 B2 w2 S2 _ s2 x2' r2 h2 => ?_⟩⟩
  cases hk : cmpW o w1 w2 S2 with
  | none =>
    rw [hk] at h2
    exact h2.elim
  | some k =>
    rw [hk] at h2
    refine cmp_sound s2 (RepW.mono x2' r1) r2 hk ⟨k, rfl, ?_⟩
    simp only [optB, R.bind] at h2
    cases k with
    | false =>
      rw [if_neg Bool.false_ne_true]
      exact h2.d1 s2 (by simp only [Rep])
    | true =>
      rw [if_pos rfl]
      refine ⟨G2, B2, e, S2, (s.at s1 x1').at s2 x2', h2.bind fun x3 H3 G3 B3 w3 S3 _ s3 x3' r3 h3 => ?_⟩
      obtain ⟨r, e1, h3⟩ := h3.optBW
      exact cmp_sound s3 (RepW.mono x3' r2) r3 e1 (h3.d1 s3 (by simp only [Rep]))
theorem chnT_ok {o o' : Cop} {x y z : Expr} {pos : Pos} {fa fb fc : Env' → Sto → R W} (hu : X.A.units + 64 < cLine) (hm : noSet z = true) (ha : PE X x (RE X Z Wx fa)) (hb : PE X y (RE X Z Wx fb)) (hc : PE X z (RE X Z Wx fc)) :
    PT X (.Compare x [o.op, o'.op] [y, z] pos) (RT X Z Wx fun e S => (fa e S).bind fun p S => (fb e S).bind fun q S => (optB (cmpW o p q S) S).bind fun k S => match k with
    | true => (fc e S).bind fun w S => optB (cmpW o' q w S) S
    | false => .ok false S) := PT.imp (pt_chain (opr_cmp hu o) (opr_cmp hu o') ha hb hc (chn_last hm)) fun σ H Q h => by
  obtain ⟨G, B, e, S, s, h⟩ := h
  refine ⟨G, B, e, S, s, h.bind fun x1 H1 G1 B1 w1 S1 _ s1 x1' r1 h1 => ⟨G1, B1, e, S1, s.at s1 x1', h1.bind fun x2 H2 G2 B2 w2 S2 _ s2 x2' r2 h2 => ?_⟩⟩
  cases hk : cmpW o w1 w2 S2 with
  | none =>
    rw [hk] at h2
    exact h2.elim
  | some k =>
    rw [hk] at h2
    refine cmp_sound s2 (RepW.mono x2' r1) r2 hk ⟨k, rfl, ?_⟩
    simp only [optB, R.bind] at h2
    cases k with
    | false =>
      rw [if_neg Bool.false_ne_true]
      exact ⟨false, rfl, h2.here s2 rfl⟩
    | true =>
      rw [if_pos rfl]
      refine ⟨G2, B2, e, S2, (s.at s1 x1').at s2 x2', h2.bind fun x3 H3 G3 B3 w3 S3 _ s3 x3' r3 h3 => ?_⟩
      obtain ⟨r, e1, h3⟩ := h3.optB
      exact cmp_sound s3 (RepW.mono x3' r2) r3 e1 ⟨r, rfl, h3.here s3 rfl⟩
theorem and_ok {x y : Expr} {es : List Expr} {pos : Pos} {fa fb : Env' → Sto → R W} (ha : PE X x (RE X Z Wx fa)) (hb : PE X (.BoolOp .And (y :: es) pos) (RE X Z Wx fb)) :
    PE X (.BoolOp .And (x :: y :: es) pos) (RE X Z Wx fun e S => (fa e S).bind fun p S => (match p with
    | .d (.bl true) => fb e S
    | .d (.bl false) => ok1 (.bl false) S
    | _ => .st)) := PE.imp (pe_and ha hb) fun σ H Q h => by
  obtain ⟨G, B, e, S, s, h⟩ := h
  refine ⟨G, B, e, S, s, h.bind fun x1 H1 G1 B1 w1 S1 _ s1 x1' r1 h1 => ?_⟩
  split at h1
  · simp only [rV, RepW, Rep] at r1
    refine ⟨true, r1, ?_⟩
    rw [if_pos rfl]
    exact ⟨G1, B1, e, S1, s.at s1 x1', h1⟩
  · simp only [rV, RepW, Rep] at r1
    refine ⟨false, r1, ?_⟩
    rw [if_neg Bool.false_ne_true]
    exact h1.d1 s1 (by simp only [Rep])
  · exact h1.elim
theorem or_ok {x y : Expr} {es : List Expr} {pos : Pos} {fa fb : Env' → Sto → R W} (ha : PE X x (RE X Z Wx fa)) (hb : PE X (.BoolOp .Or (y :: es) pos) (RE X Z Wx fb)) :
    PE X (.BoolOp .Or (x :: y :: es) pos) (RE X Z Wx fun e S => (fa e S).bind fun p S => (match p with
    | .d (.bl false) => fb e S
    | .d (.bl true) => ok1 (.bl true) S
    | _ => .st)) := PE.imp (pe_or ha hb) fun σ H Q h => by
  obtain ⟨G, B, e, S, s, h⟩ := h
  refine ⟨G, B, e, S, s, h.bind fun x1 H1 G1 B1 w1 S1 _ s1 x1' r1 h1 => ?_⟩
  split at h1
  · simp only [rV, RepW, Rep] at r1
    refine ⟨false, r1, ?_⟩
    rw [if_neg Bool.false_ne_true]
    exact ⟨G1, B1, e, S1, s.at s1 x1', h1⟩
  · simp only [rV, RepW, Rep] at r1
    refine ⟨true, r1, ?_⟩
    rw [if_pos rfl]
    exact h1.d1 s1 (by simp only [Rep])
  · exact h1.elim
theorem not_ok {x : Expr} {pos : Pos} {fa : Env' → Sto → R W} (ha : PE X x (RE X Z Wx fa)) :
    PE X (.UnaryOp .Not x pos) (RE X Z Wx fun e S => (fa e S).bind fun p S => (match p with
    | .d (.bl b) => ok1 (.bl !b) S
    | _ => .st)) := PE.imp (pe_not ha) fun σ H Q h => by
  obtain ⟨G, B, e, S, s, h⟩ := h
  refine ⟨G, B, e, S, s, h.bind fun x1 H1 G1 B1 w1 S1 _ s1 x1' r1 h1 => ?_⟩
  split at h1
  · simp only [rV, RepW, Rep] at r1
    exact ⟨_, r1, h1.d1 s1 (by simp only [Rep])⟩
  · exact h1.elim
theorem ite_ok {x y z : Expr} {pos : Pos} {ft : Env' → Sto → R Bool} {fa fb : Env' → Sto → R W} (hx : PT X x (RT X Z Wx ft)) (ha : PE X y (RE X Z Wx fa)) (hb : PE X z (RE X Z Wx fb)) :
    PE X (.IfExp x y z pos) (RE X Z Wx fun e S => (ft e S).bind fun k S => match k with
    | true => fa e S
    | false => fb e S) := PE.imp (pe_ifExp hx ha hb) fun σ H Q h => by
  obtain ⟨G, B, e, S, s, h⟩ := h
  refine ⟨G, B, e, S, s, h.bind fun x1 H1 G1 B1 w1 S1 _ s1 x1' r1 h1 => ?_⟩
  have r1 : x1 = w1 := r1
  subst r1
  cases x1 with
  | true =>
    rw [if_pos rfl]
    exact ⟨G1, B1, e, S1, s.at s1 x1', h1⟩
  | false =>
    rw [if_neg Bool.false_ne_true]
    exact ⟨G1, B1, e, S1, s.at s1 x1', h1⟩
theorem dats_ok {K : KW} {G : Hp} {B : List Addr} : ∀ {ws : List W} {vs : List V} {ds : List D}, RepWs K G B ws vs → dats ws = some ds → RepL K G ds vs
  | [], vs, ds, r, h => by
    simp only [dats, Option.some.injEq] at h
    subst h
    have r : vs = [] := r
    rw [r]
    simp [RepL]
  | .d x :: ws, vs, ds, r, h => by
    obtain ⟨v, u, e1, r1, r2⟩ := r
    simp only [dats, Option.map_eq_some_iff] at h
    obtain ⟨l, h, rfl⟩ := h
    exact ⟨v, u, e1, r1, dats_ok r2 h⟩
  | .m i :: ws, vs, ds, r, h => by simp [dats] at h
theorem tup_ok {es : List Expr} {k : Nat} {pos : Pos} {fa : Env' → Sto → R (List W)} (ha : PA X es (RA X Z Wx fa)) :
    PE X (.Tuple es k pos) (RE X Z Wx fun e S => (fa e S).bind fun ws S => (match dats ws with
    | some ds => if ds.length ≤ sizeLine then ok1 (.tup ds) S else .st
    | none => .st)) := PE.imp (pe_tup ha) fun σ H Q h => by
  obtain ⟨G, B, e, S, s, h⟩ := h
  refine ⟨G, B, e, S, s, h.bind fun x1 H1 G1 B1 w1 S1 _ s1 x1' r1 h1 => ?_⟩
  split at h1
  · rename_i ds hd
    have r := dats_ok r1 hd
    have hl := r.length
    split at h1
    · rename_i hz
      exact ⟨by omega, h1.newT s1 r (by omega)⟩
    · exact h1.elim
  · exact h1.elim
theorem lst_ok {z : Bool} {es : List Expr} {pos : Pos} {fa : Env' → Sto → R (List W)} (ha : PA X es (RA X Z Wx fa)) :
    PE X (.List es pos) (RE X Z Wx fun e S => (fa e S).bind fun ws S => (match dats ws with
    | some ds => if ds.length ≤ sizeLine then mkL z ds S else .st
    | none => .st)) := PE.imp (pe_lst ha) fun σ H Q h => by
  obtain ⟨G, B, e, S, s, h⟩ := h
  refine ⟨G, B, e, S, s, h.bind fun x1 H1 G1 B1 w1 S1 _ s1 x1' r1 h1 => ?_⟩
  split at h1
  · rename_i ds hd
    have r := dats_ok r1 hd
    have hl := r.length
    split at h1
    · rename_i hz
      exact ⟨by omega, h1.mkL s1 r (by omega)⟩
    · exact h1.elim
  · exact h1.elim
theorem ix_ok {x y : Expr} {pos : Pos} {fa fb : Env' → Sto → R W} (hs : noSlice y = true) (ha : PE X x (RE X Z Wx fa)) (hb : PE X y (RE X Z Wx fb)) :
    PE X (.Subscript x y pos) (RE X Z Wx fun e S => (fa e S).bind fun p S => (fb e S).bind fun q S => ixW p q S) := PE.imp (pe_ix opr_ix ha hb (noSlice_ok hs)) fun σ H Q h => by
  obtain ⟨G, B, e, S, s, h⟩ := h
  refine ⟨G, B, e, S, s, h.bind fun x1 H1 G1 B1 w1 S1 _ s1 x1' r1 h1 => ⟨G1, B1, e, S1, s.at s1 x1', h1.bind fun x2 H2 G2 B2 w2 S2 _ s2 x2' r2 h2 => ?_⟩⟩
  exact ix_sound s2 (RepW.mono x2' r1) r2 h2
theorem sl_ok {z : Bool} {x : Expr} {lo hi : Option Expr} {p2 pos : Pos} {fa : Env' → Sto → R W} {fl fh : Env' → Sto → R (Option Int)} (ha : PE X x (RE X Z Wx fa)) (hl : PO X lo (RO X Z Wx fl)) (hh : PO X hi (RO X Z Wx fh)) :
    PE X (.Subscript x (.Slice lo hi none p2) pos) (RE X Z Wx fun e S => (fa e S).bind fun x S => (fl e S).bind fun l S => (fh e S).bind fun h S => slW z x l h S) := PE.imp (pe_slice opr_sl ha hl hh) fun σ H Q h => by
  obtain ⟨G, B, e, S, s, h⟩ := h
  refine ⟨G, B, e, S, s, h.bind fun x1 H1 G1 B1 w1 S1 _ s1 x1' r1 h1 => ⟨G1, B1, e, S1, s.at s1 x1', h1.bind fun x2 H2 G2 B2 w2 S2 _ s2 x2' r2 h2 =>
    ⟨G2, B2, e, S2, (s.at s1 x1').at s2 x2', h2.bind fun x3 H3 G3 B3 w3 S3 _ s3 x3' r3 h3 => ?_⟩⟩⟩
  have r2 : x2 = w2 := r2
  have r3 : x3 = w3 := r3
  subst r2 r3
  exact sl_sound s3 (RepW.mono (x2'.trans x3') r1) h3
theorem part_ok {x : Expr} {fa : Env' → Sto → R W} (ha : PE X x (RE X Z Wx fa)) : PO X (some x) (RO X Z Wx fun e S => (fa e S).bind fun x S => intPart x S) := PO.imp (po_some ha) fun σ H Q h => by
  obtain ⟨G, B, e, S, s, h⟩ := h
  refine ⟨G, B, e, S, s, h.bind fun x1 H1 G1 B1 w1 S1 _ s1 x1' r1 h1 => ?_⟩
  unfold intPart at h1
  split at h1
  · simp only [rV, RepW, Rep] at r1
    exact ⟨_, r1, h1.here s1 rfl⟩
  · exact h1.elim
theorem nopart_ok : PO X none (RO X Z Wx fun _ S => .ok none S) := PO.imp po_none fun σ H Q h => by
  obtain ⟨G, B, e, S, s, h⟩ := h
  exact h.here s.h rfl
theorem anil_ok : PA X [] (RA X Z Wx fun _ S => .ok [] S) := PA.imp pa_nil fun σ H Q h => by
  obtain ⟨G, B, e, S, s, h⟩ := h
  exact h.here s.h (show RepWs _ _ _ [] [] from rfl)
theorem acons_ok {x : Expr} {es : List Expr} {fa : Env' → Sto → R W} {fl : Env' → Sto → R (List W)} (hs : noStar x = true) (ha : PE X x (RE X Z Wx fa)) (hl : PA X es (RA X Z Wx fl)) :
    PA X (x :: es) (RA X Z Wx fun e S => (fa e S).bind fun x S => (fl e S).bind fun xs S => .ok (x :: xs) S) := PA.imp (pa_cons ha hl (noStar_ok hs)) fun σ H Q h => by
  obtain ⟨G, B, e, S, s, h⟩ := h
  refine ⟨G, B, e, S, s, h.bind fun x1 H1 G1 B1 w1 S1 _ s1 x1' r1 h1 => ⟨G1, B1, e, S1, s.at s1 x1', h1.bind fun x2 H2 G2 B2 w2 S2 _ s2 x2' r2 h2 => ?_⟩⟩
  exact h2.here s2 ⟨x1, x2, rfl, RepW.mono x2' r1, r2⟩

/-! ### calls -/
theorem Bf.mem : ∀ f : Bf, f.name ∈ fnames := by
  intro f
  cases f <;> decide +kernel
theorem Bf.okN : ∀ f : Bf, f.name ≠ "__name__" ∧ (f.name == ("__debug__" : Str)) = false := by
  intro f
  cases f <;> decide +kernel
theorem bi_ok {z : Bool} {f : Bf} {x : Expr} {es : List Expr} {p pos : Pos} {n : Str} {fa : Env' → Sto → R (List W)} (c : Cxt g t L N sc so X) (hh : (!g.hot || f.cold) = true) (hn : bltName sc n f.name = true) (hst : (x :: es).all noStar = true) (ha : PA X (x :: es) (RA X Z Wx fa)) :
    PE X (.Call (.Name n p) (x :: es) [] pos) (RE X Z Wx fun e S => (fa e S).bind fun ws S => biW z f ws S) := by
  obtain ⟨e1, gl, fr⟩ := c.nofree hn f.mem
  have st := hst
  rw [List.all_cons] at hst
  obtain ⟨s1, s2⟩ := ba hst
  have read : ∀ σ H Q, RE X Z Wx (fun e S => (fa e S).bind fun ws S => biW z f ws S) σ H Q → tCB (rdBi X.K f) (RA X Z Wx fa) σ H Q := fun σ H Q h => by
    obtain ⟨G, B, e, S, s, h⟩ := h
    exact ⟨G, B, e, S, s, h.bind fun x1 H1 G1 B1 w1 S1 _ s1 x1' r1 h1 => bi_sound s1 r1 h1⟩
  have o := opr_bi (X := X) f fun q => c.calm (by rw [q] at hh; simpa using hh)
  have bo := f.boot
  have k := f.okN
  rw [← e1] at bo k
  cases hv : f.val with
  | builtin id =>
    rw [hv] at o bo
    exact PE.imp (pe_callB o gl fr bo ha k.1 k.2 (noStar_ok s1) (star_any s2)) read
  | type T =>
    rw [hv] at o bo
    exact PE.imp (pe_callTy o gl fr bo ha k.1 k.2 (noStar_ok s1) (star_any s2)) read
  | _ => cases f <;> cases hv
theorem ty_boot {ty : String} (h : ["list", "bool", "int"].contains ty = true) : bootBuiltins (Str.ofString ty) = some (.type ty) ∧ Str.ofString ty ∈ fnames ∧ Str.ofString ty ≠ "__name__" ∧ (Str.ofString ty == ("__debug__" : Str)) = false := by
  simp only [List.contains_cons, List.contains_nil, Bool.or_false, Bool.or_eq_true, beq_iff_eq] at h
  rcases h with rfl | rfl | rfl <;> decide +kernel
theorem isi_ok {ty : String} {x : Expr} {p p2 pos : Pos} {n m : Str} {fa : Env' → Sto → R W} (c : Cxt g t L N sc so X) (hn : bltName sc n "isinstance" = true) (ht : ["list", "bool", "int"].contains ty = true) (hm : bltName sc m (Str.ofString ty) = true) (hst : noStar x = true) (ha : PE X x (RE X Z Wx fa)) :
    PE X (.Call (.Name n p) [x, .Name m p2] [] pos) (RE X Z Wx fun e S => (fa e S).bind fun x S => optBW (isiW ty x S) S) := by
  obtain ⟨e1, gl, fr⟩ := c.nofree hn (by decide +kernel)
  obtain ⟨b1, b2, b3, b4⟩ := ty_boot ht
  obtain ⟨e2, gl2, fr2⟩ := c.nofree hm b2
  subst e1 e2
  refine PE.imp (pe_callB (id := "isinstance") call_isi gl fr (by decide +kernel) (pa_cons ha (pa_cons (pe_bltn gl2 fr2 b1 (v := .ty ty) rfl b3 b4) pa_nil) (noStar_ok hst)) (by decide +kernel) (by decide +kernel) (noStar_ok hst) (star_any (by rfl))) fun σ H Q h => ?_
  obtain ⟨G, B, e, S, s, h⟩ := h
  refine ⟨G, B, e, S, s, h.bind fun x1 H1 G1 B1 w1 S1 _ s1 x1' r1 h1 => ?_⟩
  obtain ⟨r, e1, h1⟩ := h1.optBW
  exact isi_sound s1 r1 e1 (h1.d1 s1 (by simp only [Rep]))
theorem me_ok {z : Bool} {m : Mf} {x y : Expr} {es : List Expr} {ap pos : Pos} {fo : Env' → Sto → R W} {fa : Env' → Sto → R (List W)} (hb : noSuper x = true) (hl : (ap.endLine == pos.line) = true) (hst : (y :: es).all noStar = true) (h30 : (y :: es).length < 30)
    (ho : PE X x (RE X Z Wx fo)) (ha : PA X (y :: es) (RA X Z Wx fa)) :
    PE X (.Call (.Attribute x m.name ap) (y :: es) [] pos) (RE X Z Wx fun e S => (fo e S).bind fun x S => if meTy S m x then (fa e S).bind fun ws S => meW z m x ws S else .st) := by
  have st := hst
  rw [List.all_cons] at hst
  obtain ⟨s1, s2⟩ := ba hst
  refine PE.imp (pe_bm m.pa m.slot m.md (opr_me m) ho ha (noSuper_ok hb) ?_ hl (noStar_ok s1) (star_any s2)) fun σ H Q h => ?_
  · rw [star_all st]
    show (true && true && decide _) = true
    have : (y :: es).length + ([] : List Keyword).length + (if ([] : List Keyword).isEmpty then 0 else 1) < 30 := h30
    rw [decide_eq_true this]
    rfl
  · obtain ⟨G, B, e, S, s, h⟩ := h
    refine ⟨G, B, e, S, s, h.bind fun x1 H1 G1 B1 w1 S1 _ s1 x1' r1 h1 => ?_⟩
    split at h1
    · rename_i ty
      exact ⟨meTy_ok s1 r1 ty, G1, B1, e, S1, s.at s1 x1', h1.bind fun x2 H2 G2 B2 w2 S2 _ s2 x2' r2 h2 => me_sound s2 (RepW.mono x2' r1) r2 h2⟩
    · exact h1.elim
theorem run_call {pins : List (Addr × Obj)} {σ : L2.St} {H : Hp} {s : Shared} {Q : VK} {us : List Value} {vs : List V} {cI : CI} {F : Fn} {f : Addr} (tk : Takes X Wx) (co : CallOk X.prog X.w X.K X.mg X.base L cI F f) (hr : Room L X.A) (I : Inv X pins σ H s) (r : Vals vs us) (hl : vs.length = cI.n)
    (h : spF (KX X) F vs H Q (fun cls d H' => Wx cls d σ H')) : wpAny (model X.prog X.w) X.A (call (.ref f) us) (EP X pins σ Q) X.xe s := by
  refine wpAny_call (codeAny_mono (co.run X.A X.stack s H us vs Q _ hr I.env0 r hl h) fun r s' hq => ?_)
  cases r with
  | error e => exact passAt tk σ pins H s e s' I hq
  | ok fl =>
    cases fl with
    | ret u => exact I.after hq
    | next => exact False.elim hq
    | brk => exact False.elim hq
    | cont => exact False.elim hq
theorem call_ok {n : Nat} {cI : CI} {x : Expr} {es : List Expr} {p pos : Pos} {ps : List Pl} {fa : Env' → Sto → R (List W)} (c : Cxt g t L N sc so X) (hh : g.hot = false) (tk : Takes X Wx) (hc : g.calls[n]? = some cI) (hl : (x :: es).length = cI.n) (hg : gloB sc cI.name = true) (hk : okN cI.name = true) (hst : (x :: es).all noStar = true)
    (hal : ∀ e S ws S', fa e S = .ok ws S' → ws.length = (x :: es).length) (ha : PA X (x :: es) (RA X Z Wx fa)) :
    PE X (.Call (.Name cI.name p) (x :: es) [] pos) (RE X Z Wx fun e S => (fa e S).bind fun ws S => (match t.fn[n]? with
    | some F => callF F ws e ps S
    | none => .st)) := by
  obtain ⟨F, f, e1, co⟩ := c.call n cI hc
  refine ⟨fun pins s σ H Q I h => ?_⟩
  obtain ⟨G, B, e, S, sm, h⟩ := h
  have h' : RA X Z Wx fa σ H (fun vs H1 => vs.length = cI.n ∧ spF (KX X) F vs H1 Q (fun cls d H' => Wx cls d σ H')) := by
    refine ⟨G, B, e, S, sm, h.bind fun x1 H1 G1 B1 w1 S1 eq s1 x1' r1 h1 => ?_⟩
    rw [e1] at h1
    refine ⟨?_, call_sound s1 r1 h1⟩
    rw [← RepWs.length r1, hal e S w1 S1 eq, hl]
  refine wpAny_Call_Name_kw (ld_glob I (c.gl hg) co.gl ?_ (okN_ok hk).1)
  rw [List.all_cons] at hst
  obtain ⟨s1, s2⟩ := ba hst
  refine PySem.W.callWith_K (h₀ := X.base) I.ok.mod.kin co.kp (thn (ha.run pos pins s σ H _ I h') fun us s1 ⟨vs, H1, I1, r, ql, q⟩ => ⟨I1.kIn, ?_⟩) (noStar_ok s1) (star_any s2)
  exact run_call tk co (c.room hh) I1 r ql q
theorem call0_ok {n : Nat} {cI : CI} {p pos : Pos} {ps : List Pl} (c : Cxt g t L N sc so X) (hh : g.hot = false) (tk : Takes X Wx) (hc : g.calls[n]? = some cI) (hl : cI.n = 0) (hg : gloB sc cI.name = true) (hk : okN cI.name = true) :
    PE X (.Call (.Name cI.name p) [] [] pos) (RE X Z Wx fun e S => (R.ok [] S).bind fun ws S => (match t.fn[n]? with
    | some F => callF F ws e ps S
    | none => .st)) := by
  obtain ⟨F, f, e1, co⟩ := c.call n cI hc
  refine ⟨fun pins s σ H Q I h => ?_⟩
  obtain ⟨G, B, e, S, sm, h⟩ := h
  dsimp only [R.bind] at h
  rw [e1] at h
  refine wpAny_Call_Name_kw (ld_glob I (c.gl hg) co.gl ?_ (okN_ok hk).1)
  refine PySem.W.callWith_K0 I.kIn co.kp ?_
  exact run_call tk co (c.room hh) I .nil hl.symm (call_sound sm.h (ws := []) (vs := []) rfl h)
/-! ### keywords, methods, classes -/
theorem kw_ok {env : Env} {pos : Pos} : ∀ {l : A} {ks : List Str} {kws : List Keyword}, chkK g N sc l ks kws = true → (backToKw pos (keywordEach kws env)).all (·.1.isSome) = true ∧ (backToKw pos (keywordEach kws env)).filterMap (·.1) = ks ∧ (backToKw pos (keywordEach kws env)).any (·.1.isNone) = false
  | .nil, [], [], _ => ⟨rfl, rfl, rfl⟩
  | .cons a l, x :: xs, ⟨some y, v, p⟩ :: kws, h => by
    simp only [chkK] at h
    obtain ⟨h1, h2⟩ := ba h
    obtain ⟨h2, h3⟩ := ba h2
    obtain ⟨k1, k2, k3⟩ := kw_ok (env := env) (pos := pos) h3
    have e := of_decide_eq_true h1
    subst e
    refine ⟨?_, ?_, ?_⟩
    · show (true && (backToKw pos (keywordEach kws env)).all (·.1.isSome)) = true
      rw [k1]
      rfl
    · show x :: (backToKw pos (keywordEach kws env)).filterMap (·.1) = x :: xs
      rw [k2]
    · show (false || (backToKw pos (keywordEach kws env)).any (·.1.isNone)) = false
      rw [k3]
      rfl
  | .nil, [], _ :: _, h => by simp [chkK] at h
  | .nil, _ :: _, _, h => by simp [chkK] at h
  | .cons a l, [], _, h => by simp [chkK] at h
  | .cons a l, _ :: _, [], h => by simp [chkK] at h
  | .cons a l, _ :: _, ⟨none, _, _⟩ :: _, h => by simp [chkK] at h
theorem cons_read {fa : Env' → Sto → R W} {fl : Env' → Sto → R (List W)} {σ : L2.St} {H : Hp} {Q : List V → Hp → Prop} (h : RA X Z Wx (fun e S => (fa e S).bind fun x S => (fl e S).bind fun xs S => .ok (x :: xs) S) σ H Q) : tCons (RE X Z Wx fa) (RA X Z Wx fl) σ H Q := by
  obtain ⟨G, B, e, S, s, h⟩ := h
  refine ⟨G, B, e, S, s, h.bind fun x1 H1 G1 B1 w1 S1 _ s1 x1' r1 h1 => ⟨G1, B1, e, S1, s.at s1 x1', h1.bind fun x2 H2 G2 B2 w2 S2 _ s2 x2' r2 h2 => ?_⟩⟩
  exact h2.here s2 ⟨x1, x2, rfl, RepW.mono x2' r1, r2⟩
theorem PK.imp {X : Cx} {kws : List Keyword} {t t' : TA} (h : PK X kws t) (k : ∀ σ H Q, t' σ H Q → t σ H Q) : PK X kws t' := ⟨fun pos pins s σ H Q I q => h.run pos pins s σ H Q I (k σ H Q q)⟩
theorem knil_ok : PK X [] (RA X Z Wx fun _ S => .ok [] S) := PK.imp pk_nil fun σ H Q h => by
  obtain ⟨G, B, e, S, s, h⟩ := h
  exact h.here s.h (show RepWs _ _ _ [] [] from rfl)
theorem kcons_ok {x : Expr} {nm : Option Str} {p : Pos} {kws : List Keyword} {fa : Env' → Sto → R W} {fl : Env' → Sto → R (List W)} (ha : PE X x (RE X Z Wx fa)) (hl : PK X kws (RA X Z Wx fl)) :
    PK X (⟨nm, x, p⟩ :: kws) (RA X Z Wx fun e S => (fa e S).bind fun x S => (fl e S).bind fun xs S => .ok (x :: xs) S) := PK.imp (pk_cons ha hl) fun σ H Q h => cons_read h
theorem run_kw {pins : List (Addr × Obj)} {σ : L2.St} {H : Hp} {s : Shared} {Q : VK} {us ws : List Value} {vs zs : List V} {k n : Nat} {ks ps : List Str} {f : Addr} {fd : FuncData} {sp : Sp} {gg : List Value → List Value → List Value} {gV : List V → List V → List V} (tk : Takes X Wx) (F : FnOk X.prog X.w X.K X.mg X.base (L2.CX X.prog X.w) k f fd ps sp) (hr : Room k X.A) (hb : KBn X.K fd ps n ks gg gV)
    (I : Inv X pins σ H s) (r : Vals vs us) (rz : Vals zs ws) (l1 : vs.length = n) (l2 : zs.length = ks.length) (h : sp (gV vs zs) H Q (fun cls d H' => Wx cls d σ H')) : wpAny (model X.prog X.w) X.A (call (.ref f) us (ks.zip ws)) (EP X pins σ Q) X.xe s := by
  have r2 := hb.rel r rz
  refine wpAny_call (codeAny_mono (F.run X.A X.stack s H ⟨us, ks.zip ws⟩ (gg us ws) (gV vs zs) Q _ hr I.env0 (hb.to s us ws I.kIn (r.length.symm.trans l1) (rz.length.symm.trans l2)) r2 h) fun r s' hq => ?_)
  cases r with
  | error e => exact passAt tk σ pins H s e s' I hq
  | ok fl =>
    cases fl with
    | ret u => exact I.after hq
    | next => exact False.elim hq
    | brk => exact False.elim hq
    | cont => exact False.elim hq
theorem run_mk {pins : List (Addr × Obj)} {σ : L2.St} {H : Hp} {s : Shared} {Q : VK} {us ws : List Value} {vs zs : List V} {k n : Nat} {ks ps : List Str} {f C : Addr} {fd : FuncData} {sp : Sp} {gg : List Value → List Value → List Value} {gV : List V → List V → List V} (tk : Takes X Wx) (M : Mk X.K C f) (F : FnOk X.prog X.w X.K X.mg X.base (L2.CX X.prog X.w) k f fd ps sp) (hr : Room (k + 1) X.A) (hb : KBn X.K fd ps (n + 1) ks gg gV)
    (I : Inv X pins σ H s) (r : Vals vs us) (rz : Vals zs ws) (l1 : vs.length = n) (l2 : zs.length = ks.length)
    (h : ∀ x dx, H x = none → H dx = none → dx ≠ x → sp (gV (.ref x :: vs) zs) (upd (upd H dx (.own x)) x (.ins C dx [])) (fun v H2 => v = .non ∧ Q (.ref x) H2) (fun cls d H' => Wx cls d σ H')) :
    wpAny (model X.prog X.w) X.A (call (.ref C) us (ks.zip ws)) (EP X pins σ Q) X.xe s := by
  have hq := h (s.heap.objs.size + 1) s.heap.objs.size (I.hok.fresh (Nat.le_succ _)) (I.hok.fresh (Nat.le_refl _)) (Nat.ne_of_lt (Nat.lt_succ_self _))
  have I2 := Inv.made (C := C) I
  have r1 : Vals (V.ref (s.heap.objs.size + 1) :: vs) (Value.ref (s.heap.objs.size + 1) :: us) := .cons rfl r
  have r2 := hb.rel r1 rz
  have e1 : (Value.ref (s.heap.objs.size + 1) :: us).length = n + 1 := r1.length.symm.trans (congrArg Nat.succ l1)
  have e2 : ws.length = ks.length := rz.length.symm.trans l2
  refine wpAny_call (make_map (f := f) I.kIn M.makes M.init (beq_iff_eq.mp M.fn) (codeAny_mono (F.run _ X.stack _ _ ⟨Value.ref (s.heap.objs.size + 1) :: us, ks.zip ws⟩ (gg (Value.ref (s.heap.objs.size + 1) :: us) ws) _ _ _ (hr.make C us (ks.zip ws))
    (I2.env0.make C us (ks.zip ws)) (hb.to _ (Value.ref (s.heap.objs.size + 1) :: us) ws I2.kIn e1 e2) r2 hq) fun r s' hq' => ?_))
  cases r with
  | error e => exact passAt tk σ pins _ _ e s' I2 hq'
  | ok fl =>
    cases fl with
    | ret u =>
      obtain ⟨v, H', I3, rv, ev, q3⟩ := I2.after hq'
      subst ev
      exact ⟨rv, ⟨V.ref (s.heap.objs.size + 1), H', I3, rfl, q3⟩⟩
    | next => exact False.elim hq'
    | brk => exact False.elim hq'
    | cont => exact False.elim hq'
theorem callA_sound {K : KW} {Z : Ent} {G H : Hp} {B : List Addr} {S : Sto} {e : Env'} {σ : L2.St} {Wx : WX} {Q : VK} {F : Fn} {src : List Src} {ws zs : List W} {vs zv : List V} {ps : List Pl} {gV : List V → List V → List V} (s : SimH K Z G B S H) (r : ∀ us, arr ws zs src = some us → RepWs K G B us (gV vs zv)) (h : QG K Z (rV K) e σ Wx G B Q (callA (some (F, src)) ws zs e ps S)) : spF K F (gV vs zv) H Q (fun cls d H' => Wx cls d σ H') := by
  unfold callA at h
  dsimp only at h
  cases q : arr ws zs src with
  | none =>
    rw [q] at h
    exact h.elim
  | some us =>
    rw [q] at h
    exact call_sound s (r us q) h
/-- what the arguments of a call by keywords say -/
def KwRead (X : Cx) (Z : Ent) (Wx : WX) (n m : Nat) (fa fk : Env' → Sto → R (List W)) (σ : L2.St) (H : Hp) (T : List V → List V → Hp → Prop) : Prop := RA X Z Wx fa σ H fun vs H1 => vs.length = n ∧ RA X Z Wx fk σ H1 fun zs H2 => zs.length = m ∧ T vs zs H2
theorem kw_read {n m : Nat} {fa fk : Env' → Sto → R (List W)} {h2 : List W → List W → Env' → Sto → R W} {σ : L2.St} {H : Hp} {Q : VK} {T : List V → List V → Hp → Prop} {G : Hp} {B : List Addr} {e : Env'} {S : Sto} (sm : Sim (KX X) Z G B e S σ H)
    (h : QG (KX X) Z (rV (KX X)) e σ Wx G B Q ((fa e S).bind fun ws S => (fk e S).bind fun zs S => h2 ws zs e S))
    (l1 : ∀ e S ws S', fa e S = .ok ws S' → ws.length = n) (l2 : ∀ e S ws S', fk e S = .ok ws S' → ws.length = m)
    (k : ∀ G2 B2 H2 S2 ws zs vs zv, Ext G B G2 B2 → SimH (KX X) Z G2 B2 S2 H2 → RepWs (KX X) G2 B2 ws vs → RepWs (KX X) G2 B2 zs zv → vs.length = n → zv.length = m → QG (KX X) Z (rV (KX X)) e σ Wx G2 B2 Q (h2 ws zs e S2) → T vs zv H2) : KwRead X Z Wx n m fa fk σ H T := by
  refine ⟨G, B, e, S, sm, h.bind fun x1 H1 G1 B1 w1 S1 eq s1 x1' r1 h1 => ⟨?_, G1, B1, e, S1, sm.at s1 x1', h1.bind fun x2 H2 G2 B2 w2 S2 eq2 s2 x2' r2 h2 => ⟨?_, ?_⟩⟩⟩
  · rw [← RepWs.length r1, l1 e S w1 S1 eq]
  · rw [← RepWs.length r2, l2 e S1 w2 S2 eq2]
  · exact k G2 B2 H2 S2 w1 w2 x1 x2 (x1'.trans x2') s2 (RepWs.mono x2' r1) r2 (by rw [← RepWs.length r1, l1 e S w1 S1 eq]) (by rw [← RepWs.length r2, l2 e S1 w2 S2 eq2]) h2
theorem kw_run {f : Value} {first : List Value} {es : List Expr} {kws : List Keyword} {l : A} {ks : List Str} {pos : Pos} {n : Nat} {fa fk : Env' → Sto → R (List W)} {pins : List (Addr × Obj)} {σ : L2.St} {H : Hp} {s : Shared} {Q : Value → Shared → Prop} {T : List V → List V → Hp → Prop} (hk : PySem.W.keepIn X.K f = true) (hst : es.all noStar = true) (hkw : chkK g N sc l ks kws = true)
    (ha : PA X es (RA X Z Wx fa)) (h0 : es = [] → ∀ e S, fa e S = .ok [] S) (hz : PK X kws (RA X Z Wx fk)) (I : Inv X pins σ H s) (h : KwRead X Z Wx n ks.length fa fk σ H T)
    (k : ∀ us ws vs zs H2 s2, Inv X pins σ H2 s2 → Vals vs us → Vals zs ws → vs.length = n → zs.length = ks.length → T vs zs H2 → wpAny (model X.prog X.w) X.A (call f (first ++ us) (ks.zip ws)) Q X.xe s2) :
    wpAny (model X.prog X.w) X.A (callWith pos f first (backTo pos (starEach es X.env)) (backToKw pos (keywordEach kws X.env))) Q X.xe s := by
  obtain ⟨k1, k2, k3⟩ := kw_ok (env := X.env) (pos := pos) hkw
  cases es with
  | nil =>
    refine PySem.W.callWith_KW0 (h₀ := X.base) I.ok.mod.kin hk k1 ?_ (by
      rw [k3]
      rfl)
    obtain ⟨G, B, e, S, sm, h⟩ := h
    rw [h0 rfl] at h
    obtain ⟨l1, q⟩ := h.here sm.h (show RepWs _ _ _ [] [] from rfl)
    refine thn (hz.run pos pins s σ H _ I q) fun ws s2 ⟨zs, H2, I2, rz, l2, q2⟩ => ⟨I2.kIn, ?_⟩
    rw [k2]
    exact k [] ws [] zs H2 s2 I2 .nil rz l1 l2 q2
  | cons y es =>
    rw [List.all_cons] at hst
    obtain ⟨s1, s2⟩ := ba hst
    refine PySem.W.callWith_KW (h₀ := X.base) I.ok.mod.kin hk k1 (thn (ha.run pos pins s σ H _ I h) fun us s1 ⟨vs, H1, I1, r, l1, q⟩ => ?_) (by
      rw [k3, noStar_ok s1]
      show ((false || (backTo pos (starEach es X.env)).any (·.1)) || false) = false
      rw [star_any s2]
      rfl) (noStar_ok s1)
    refine thn (hz.run pos pins s1 σ H1 _ I1 q) fun ws s2 ⟨zs, H2, I2, rz, l2, q2⟩ => ⟨I2.kIn, ?_⟩
    rw [k2]
    exact k us ws vs zs H2 s2 I2 r rz l1 l2 q2
theorem kc_ok {q : Nat} {cI : KI} {es : List Expr} {kws : List Keyword} {k : A} {p pos : Pos} {ps : List Pl} {fa fk : Env' → Sto → R (List W)} (c : Cxt g t L N sc so X) (hh : g.hot = false) (tk : Takes X Wx) (hc : g.kcs[q]? = some cI) (hl : es.length = cI.n) (hkw : chkK g N sc k cI.ks kws = true) (hg : gloB sc cI.name = true) (hk : okN cI.name = true) (hst : es.all noStar = true)
    (l1 : ∀ e S ws S', fa e S = .ok ws S' → ws.length = es.length) (l2 : ∀ e S ws S', fk e S = .ok ws S' → ws.length = cI.ks.length) (ha : PA X es (RA X Z Wx fa)) (h0 : es = [] → ∀ e S, fa e S = .ok [] S) (hz : PK X kws (RA X Z Wx fk)) :
    PE X (.Call (.Name cI.name p) es kws pos) (RE X Z Wx fun e S => (fa e S).bind fun ws S => (fk e S).bind fun zs S => callA t.kc[q]? ws zs e ps S) := by
  obtain ⟨F, src, f, e1, gl, kp, ko⟩ := c.tp.kc q cI hc
  obtain ⟨fd, pn, gg, gV, hF, hb, har⟩ := ko.ex
  refine ⟨fun pins s σ H Q I h => ?_⟩
  obtain ⟨G, B, e, S, sm, h⟩ := h
  rw [e1] at h
  refine wpAny_Call_Name_kw (ld_glob I (c.gl hg) gl ?_ (okN_ok hk).1)
  refine kw_run kp hst hkw ha h0 hz I (T := fun vs zs H2 => spF (KX X) F (gV vs zs) H2 Q (fun cls d H' => Wx cls d σ H')) (kw_read (h2 := fun ws zs e S => callA (some (F, src)) ws zs e ps S) sm h (fun e S ws S' q => (l1 e S ws S' q).trans hl) l2 fun G2 B2 H2 S2 ws zs vs zv _ s2 r1 r2 n1 n2 h2 => callA_sound s2 (fun us q => har G2 B2 ws zs vs zv us r1 r2 n1 n2 q) h2) fun us ws vs zs H2 s2 I2 r rz n1 n2 hT => ?_
  exact run_kw tk hF (c.room hh) hb I2 r rz n1 n2 hT
theorem zip_none {m : Str} : ∀ {ns : List Str} {vs : List V}, ns.contains m = false → (ns.zip vs).lookup m = none
  | [], vs, _ => by simp
  | n :: ns, [], _ => by simp
  | n :: ns, v :: vs, h => by
    rw [List.contains_cons] at h
    obtain ⟨h1, h2⟩ := Bool.or_eq_false_iff.mp h
    show (match m == n with | true => some v | false => (ns.zip vs).lookup m) = none
    rw [h1]
    exact zip_none h2
theorem insV_ok {K : KW} {Z : Ent} {G H : Hp} {B : List Addr} {S : Sto} {w : W} {v : V} {c : Str} {ns : List Str} {l : List W} (s : SimH K Z G B S H) (r : RepW K G B w v) (h : insV S w = some (c, ns, l)) : ∃ a dx vs, v = .ref a ∧ H a = some (.ins (He.ga K.K c) dx (ns.zip vs)) ∧ ns.length = vs.length ∧ RepWs K G B l vs := by
  have dl : ∀ {ds : List D} {vs : List V}, RepL K G ds vs → RepWs K G B (ds.map .d) vs := fun {ds} => by
    induction ds with
    | nil =>
      intro vs q
      simp only [RepL] at q
      exact q
    | cons d ds ih =>
      intro vs q
      simp only [RepL] at q
      obtain ⟨v, u, e1, q1, q2⟩ := q
      exact ⟨v, u, e1, q1, ih q2⟩
  cases w with
  | d x =>
    cases x <;> first
      | (cases h; done)
      | skip
    simp only [insV, Option.some.injEq, Prod.mk.injEq] at h
    obtain ⟨rfl, rfl, rfl⟩ := h
    simp only [RepW, Rep] at r
    obtain ⟨a, dx, vs, e1, g1, g2, g3⟩ := r
    exact ⟨a, dx, vs, e1, s.gh _ _ g1, g2, dl g3⟩
  | m i =>
    obtain ⟨a, b1, b2⟩ := r
    simp only [insV] at h
    split at h
    · rename_i c' ns' l' hi
      simp only [Option.some.injEq, Prod.mk.injEq] at h
      obtain ⟨rfl, rfl, rfl⟩ := h
      obtain ⟨a', e1, e2, e3, e4⟩ := s.ob i _ hi
      rw [b1] at e1
      cases e1
      obtain ⟨dx, vs, g1, g2, g3⟩ := e3
      exact ⟨a, dx, vs, b2, g1, g2, g3⟩
    · cases h
theorem few_ok {es : List Expr} {kws : List Keyword} {k : A} {ks : List Str} {pos : Pos} {env : Env} (hst : es.all noStar = true) (hkw : chkK g N sc k ks kws = true) (hn : es.length + kws.length < 29) : methodCallForm (es.length + kws.length) (backTo pos (starEach es env)) (backToKw pos (keywordEach kws env)) = true := by
  obtain ⟨k1, k2, k3⟩ := kw_ok (env := env) (pos := pos) hkw
  unfold methodCallForm
  rw [star_all hst, k1]
  have : es.length + kws.length + (if (backToKw pos (keywordEach kws env)).isEmpty = true then 0 else 1) < 30 := by split <;> omega
  simpa using this
theorem mth_ok {q : Nat} {cI : MI} {x : Expr} {es : List Expr} {kws : List Keyword} {k : A} {ap pos : Pos} {ps : List Pl} {fo : Env' → Sto → R W} {fa fk : Env' → Sto → R (List W)} (c : Cxt g t L N sc so X) (hh : g.hot = false) (tk : Takes X Wx) (hc : g.mts[q]? = some cI) (hl : es.length = cI.n) (hkw : chkK g N sc k cI.ks kws = true) (hb0 : noSuper x = true) (hline : (ap.endLine == pos.line) = true) (hn : es.length + kws.length < 29) (hst : es.all noStar = true)
    (l1 : ∀ e S ws S', fa e S = .ok ws S' → ws.length = es.length) (l2 : ∀ e S ws S', fk e S = .ok ws S' → ws.length = cI.ks.length) (ho : PE X x (RE X Z Wx fo)) (ha : PA X es (RA X Z Wx fa)) (h0 : es = [] → ∀ e S, fa e S = .ok [] S) (hz : PK X kws (RA X Z Wx fk)) :
    PE X (.Call (.Attribute x cI.m ap) es kws pos) (RE X Z Wx fun e S => (fo e S).bind fun x S => if insOk S cI.c cI.m x then (fa e S).bind fun ws S => (fk e S).bind fun zs S => callA t.mt[q]? (x :: ws) zs e ps S else .st) := by
  obtain ⟨F, src, f, e1, cl, hm, ko⟩ := c.tp.mt q cI hc
  obtain ⟨fd, pn, gg, gV, hF, hb, har⟩ := ko.ex
  refine ⟨fun pins s σ H Q I h => ?_⟩
  obtain ⟨G, B, e, S, sm, h⟩ := h
  refine PySem.W.methodCall_KW (pl := plainOf x X.env) (thn (ho.run pins s σ H (fun v H1 => ∃ a dx fs, v = .ref a ∧ H1 a = some (.ins (He.ga X.K cI.c) dx fs) ∧ fs.lookup cI.m = none ∧ KwRead X Z Wx cI.n cI.ks.length fa fk σ H1 fun vs zs H2 => spF (KX X) F (gV (.ref a :: vs) zs) H2 Q (fun cls d H' => Wx cls d σ H')) I ?_) fun u s1 ⟨v, H1, I1, rx, a, dx, fs, ex, ea, hlk, q⟩ => ?_) (mcall_of (noSuper_ok hb0) fun ov => mcall_line (few_ok hst hkw hn) hline)
  · refine ⟨G, B, e, S, sm, h.bind fun x1 H1 G1 B1 w1 S1 eq s1 x1' r1 h1 => ?_⟩
    split at h1
    · rename_i hi
      unfold insOk at hi
      split at hi
      · rename_i c' ns l hv
        obtain ⟨q1, q2⟩ := ba hi
        have q1 := of_decide_eq_true q1
        subst q1
        obtain ⟨a, dx, vs, e2, g1, g2, g3⟩ := insV_ok s1 r1 hv
        have q2 : ns.contains cI.m = false := by simpa using q2
        refine ⟨a, dx, _, e2, g1, zip_none q2, ?_⟩
        rw [e1] at h1
        have r1' : RepW (KX X) G1 B1 w1 (.ref a) := e2 ▸ r1
        exact kw_read (h2 := fun ws zs e S => callA (some (F, src)) (w1 :: ws) zs e ps S) (sm.at s1 x1') h1 (fun e S ws S' q => (l1 e S ws S' q).trans hl) l2 fun G2 B2 H2 S2 ws zs vs zv x2 s2 ra rb n1 n2 h2 => callA_sound s2 (fun us q => har G2 B2 (w1 :: ws) zs (.ref a :: vs) zv us ⟨.ref a, vs, rfl, RepW.mono x2 r1', ra⟩ rb (by rw [List.length_cons, n1]) n2 q) h2
      · cases hi
    · exact h1.elim
  · subst ex
    obtain rfl : u = Value.ref a := rx
    refine getmeth_ok I1 ea cl hm hlk ?_
    refine kw_run (first := [.ref a]) hm.kp hst hkw ha h0 hz I1 q fun us ws vs zs H2 s2 I2 r rz n1 n2 hT => ?_
    exact run_kw (us := .ref a :: us) (vs := .ref a :: vs) tk hF (c.room hh) hb I2 (.cons rfl r) rz (by rw [List.length_cons, n1]) n2 hT
theorem mk_ok {q : Nat} {cI : NI} {es : List Expr} {kws : List Keyword} {k : A} {p pos : Pos} {fa fk : Env' → Sto → R (List W)} (c : Cxt g t L N sc so X) (hh : g.hot = false) (tk : Takes X Wx) (hc : g.nws[q]? = some cI) (hl : es.length = cI.n) (hkw : chkK g N sc k cI.ks kws = true) (hg : gloB sc cI.c = true) (hk : okN cI.c = true) (hst : es.all noStar = true)
    (l1 : ∀ e S ws S', fa e S = .ok ws S' → ws.length = es.length) (l2 : ∀ e S ws S', fk e S = .ok ws S' → ws.length = cI.ks.length) (ha : PA X es (RA X Z Wx fa)) (h0 : es = [] → ∀ e S, fa e S = .ok [] S) (hz : PK X kws (RA X Z Wx fk)) :
    PE X (.Call (.Name cI.c p) es kws pos) (RE X Z Wx fun e S => (fa e S).bind fun ws S => (fk e S).bind fun zs S => makeA t.nw[q]? cI.c ws zs S) := by
  obtain ⟨F, src, f, j, e1, gl, M, hj, ko⟩ := c.tp.nw q cI hc
  obtain ⟨fd, pn, gg, gV, hF, hb, har⟩ := ko.ex
  refine ⟨fun pins s σ H Q I h => ?_⟩
  obtain ⟨G, B, e, S, sm, h⟩ := h
  rw [e1] at h
  refine wpAny_Call_Name_kw (ld_glob I (c.gl hg) gl ?_ (okN_ok hk).1)
  refine kw_run M.kp hst hkw ha h0 hz I (T := fun vs zs H2 => ∀ x dx, H2 x = none → H2 dx = none → dx ≠ x → spF (KX X) F (gV (.ref x :: vs) zs) (upd (upd H2 dx (.own x)) x (.ins (He.ga X.K cI.c) dx [])) (fun v H3 => v = .non ∧ Q (.ref x) H3) (fun cls d H' => Wx cls d σ H')) (kw_read (h2 := fun ws zs e S => makeA (some (F, src)) cI.c ws zs S) sm h (fun e S ws S' q => (l1 e S ws S' q).trans hl) l2 fun G2 B2 H2 S2 ws zs vs zv _ s2 r1 r2 n1 n2 h2 => ?_) fun us ws vs zs H2 s2 I2 r rz n1 n2 hT => ?_
  · intro x dx hx hd ne
    unfold makeA at h2
    dsimp only at h2
    split at h2
    · rename_i hd2
      obtain ⟨d1, d2⟩ := ba hd2
      split at h2
      · rename_i us hus
        exact make_sound s2 hx hd ne (har G2 [x] (.m 0 :: ws) zs (.ref x :: vs) zv us ⟨.ref x, vs, rfl, ⟨x, rfl, rfl⟩, dats_any d1 r1⟩ (dats_any d2 r2) (by rw [List.length_cons, n1]) n2 hus) h2
      · exact h2.elim
    · exact h2.elim
  · exact run_mk tk M hF ((c.room hh).mono hj) hb I2 r rz n1 n2 hT
theorem fld_ok {cn f : Str} {x : Expr} {pos : Pos} {fa : Env' → Sto → R W} (c : Cxt g t L N sc so X) (hf : (cn, f) ∈ g.flds) (hb : noSuper x = true) (ha : PE X x (RE X Z Wx fa)) : PE X (.Attribute x f pos) (RE X Z Wx fun e S => (fa e S).bind fun x S => fldW cn f x S) := PE.imp (pe_fld ha (noSuper_ok hb)) fun σ H Q h => by
  obtain ⟨cl, na⟩ := c.tp.fl _ hf
  obtain ⟨G, B, e, S, s, h⟩ := h
  refine ⟨G, B, e, S, s, h.bind fun x1 H1 G1 B1 w1 S1 _ s1 x1' r1 h1 => ?_⟩
  unfold fldW at h1
  split at h1
  · rename_i c' ns l hv
    split at h1
    · rename_i ec
      subst ec
      obtain ⟨a, dx, vs, e2, g1, g2, g3⟩ := insV_ok s1 r1 hv
      split at h1
      · rename_i w hw
        have lk : ∀ {ns : List Str} {l : List W} {vs : List V}, RepWs (KX X) G1 B1 l vs → (ns.zip l).lookup f = some w → ∃ v, (ns.zip vs).lookup f = some v ∧ RepW (KX X) G1 B1 w v := fun {ns} => by
          induction ns with
          | nil => intro l vs _ q; simp at q
          | cons n ns ih =>
            intro l vs r q
            cases l with
            | nil => simp at q
            | cons y l =>
              obtain ⟨v, u, e3, r1, r2⟩ := r
              subst e3
              have q : (match f == n with | true => some y | false => (ns.zip l).lookup f) = some w := q
              show ∃ z, (match f == n with | true => some v | false => (ns.zip u).lookup f) = some z ∧ _
              cases e : f == n with
              | true =>
                rw [e] at q
                cases q
                exact ⟨v, rfl, r1⟩
              | false =>
                rw [e] at q
                exact ih r2 q
        obtain ⟨v, k1, k2⟩ := lk g3 hw
        exact ⟨a, _, dx, _, v, e2, g1, cl, na, k1, h1.here s1 k2⟩
      · exact h1.elim
    · exact h1.elim
  · exact h1.elim
theorem me0_ok {z : Bool} {m : Mf} {x : Expr} {ap pos : Pos} {fo : Env' → Sto → R W} (hb : noSuper x = true) (hl : (ap.endLine == pos.line) = true) (ho : PE X x (RE X Z Wx fo)) :
    PE X (.Call (.Attribute x m.name ap) [] [] pos) (RE X Z Wx fun e S => (fo e S).bind fun x S => if meTy S m x then meW z m x [] S else .st) := PE.imp (pe_bm0 m.pa m.slot m.md (opr_me m) ho (noSuper_ok hb) hl) fun σ H Q h => by
  obtain ⟨G, B, e, S, s, h⟩ := h
  refine ⟨G, B, e, S, s, h.bind fun x1 H1 G1 B1 w1 S1 _ s1 x1' r1 h1 => ?_⟩
  split at h1
  · rename_i ty
    exact ⟨meTy_ok s1 r1 ty, me_sound s1 r1 (show RepWs _ _ _ [] [] from rfl) h1⟩
  · exact h1.elim
theorem fmt_ok {x : Expr} {pos : Pos} {fa : Env' → Sto → R W} (ha : PE X x (RE X Z Wx fa)) : PE X (.FormattedValue x (-1) none pos) (RE X Z Wx fun e S => (fa e S).bind fun x S => fmtW x S) := PE.imp (pe_fmt ha) fun σ H Q h => by
  obtain ⟨G, B, e, S, s, h⟩ := h
  refine ⟨G, B, e, S, s, h.bind fun x1 H1 G1 B1 w1 S1 _ s1 x1' r1 h1 => ?_⟩
  unfold fmtW at h1
  split at h1
  · split at h1
    · rename_i hz
      simp only [rV, RepW, Rep] at r1
      exact .inl ⟨_, r1, hz, h1.d1 s1 (by simp only [Rep])⟩
    · exact h1.elim
  · split at h1
    · rename_i hz
      simp only [rV, RepW, Rep] at r1
      exact .inr ⟨_, r1, hz, h1.d1 s1 (by simp only [Rep])⟩
    · exact h1.elim
  · exact h1.elim
theorem gcd_ok {x y : Expr} {p pos : Pos} {fa fb : Env' → Sto → R W} (c : Cxt g t L N sc so X) (hg : g.gcd = true) (hn : gloB sc "gcd" = true) (s1 : noStar x = true) (s2 : noStar y = true) (ha : PE X x (RE X Z Wx fa)) (hb : PE X y (RE X Z Wx fb)) :
    PE X (.Call (.Name "gcd" p) [x, y] [] pos) (RE X Z Wx fun e S => (fa e S).bind fun x S => (fb e S).bind fun y S => (match x, y with
      | .d (.int i), .d (.int j) => ok1 (.int ((Nat.gcd i.natAbs j.natAbs : Nat) : Int)) S
      | _, _ => .st)) := by
  refine PE.imp (pe_callBfun cr_gcd (c.gl hn) (c.tp.gc hg) (pa_cons ha (pa_cons hb pa_nil (noStar_ok s2)) (noStar_ok s1)) (by decide +kernel) (noStar_ok s1) (star_any (by rw [List.all_cons, s2]; rfl))) fun σ H Q h => ?_
  obtain ⟨G, B, e, S, s, h⟩ := h
  refine ⟨G, B, e, S, s, h.bind fun x1 H1 G1 B1 w1 S1 _ s1 x1' r1 h1 => ⟨G1, B1, e, S1, s.at s1 x1', h1.bind fun x2 H2 G2 B2 w2 S2 _ s2 x2' r2 h2 => ?_⟩⟩
  split at h2
  · have r1 : Rep (KX X) G1 _ x1 := r1
    have r2 : Rep (KX X) G2 _ x2 := r2
    simp only [Rep] at r1 r2
    exact ⟨_, _, by rw [r1, r2], h2.d1 s2 (by simp only [Rep])⟩
  · exact h2.elim
end
end En

namespace En
open PySem PySem.Spec PyProof.Rows L2
section
variable {g : Gs} {t : Tb} {L : Nat} {N : List Str} {sc so : Scope} {X : Cx} {Z : Ent} {Wx : WX}
/-! ### tests -/
theorem val_ok {x : Expr} {fa : Env' → Sto → R W} (hp : plainT x = true) (ha : PE X x (RE X Z Wx fa)) :
    PT X x (RT X Z Wx fun e S => (fa e S).bind fun x S => (match x with
    | .d (.bl b) => .ok b S
    | _ => .st)) := PT.imp (pt_val ha (plainT_ok hp)) fun σ H Q h => by
  obtain ⟨G, B, e, S, s, h⟩ := h
  refine ⟨G, B, e, S, s, h.bind fun x1 H1 G1 B1 w1 S1 _ s1 x1' r1 h1 => ?_⟩
  split at h1
  · simp only [rV, RepW, Rep] at r1
    exact ⟨_, r1, h1.here s1 rfl⟩
  · exact h1.elim
theorem tru_sound {K : KW} {G H : Hp} {B : List Addr} {S : Sto} {w : W} {x : V} {k : Bool} (s : SimH K Z G B S H) (r : RepW K G B w x) (h : tru S w = some k) : TruV K.K x H k := by
  have seq : ∀ l, sv S w = some l → k = !l.isEmpty → TruV K.K x H k := fun l hl hk => by
    obtain ⟨a, vs, e1, h1, h2, h3⟩ := sv_ok s r hl
    have e2 : (!vs.isEmpty) = k := by
      rw [hk]
      have := h3.length
      cases l <;> cases vs <;> first | rfl | simp at this
    subst e1
    rcases h1 with h1 | h1
    · exact .inl ⟨vs, h1, e2.symm⟩
    · exact .inr (.inl ⟨vs, h1, e2.symm⟩)
  unfold tru at h
  split at h
  · simp only [RepW, Rep] at r
    subst r
    cases h
    exact rfl
  · simp only [RepW, Rep] at r
    subst r
    cases h
    exact rfl
  · simp only [RepW, Rep] at r
    subst r
    cases h
    exact rfl
  · split at h
    · rename_i hz
      simp only [RepW, Rep] at r
      subst r
      cases h
      refine ⟨hz, ?_⟩
      rename_i z
      cases e : z.length with
      | zero => rfl
      | succ n =>
        rw [Bool.eq_iff_iff]
        simp
        omega
    · cases h
  · simp only [Option.map_eq_some_iff] at h
    obtain ⟨l, h1, h2⟩ := h
    exact seq l h1 h2.symm
theorem tru_ok' {x : Expr} {fa : Env' → Sto → R W} (hp : plainT x = true) (ha : PE X x (RE X Z Wx fa)) :
    PT X x (RT X Z Wx fun e S => (fa e S).bind fun x S => optB (tru S x) S) := PT.imp (pt_truth ha (plainT_ok hp)) fun σ H Q h => by
  obtain ⟨G, B, e, S, s, h⟩ := h
  refine ⟨G, B, e, S, s, h.bind fun x1 H1 G1 B1 w1 S1 _ s1 x1' r1 h1 => ?_⟩
  obtain ⟨r, e1, h1⟩ := h1.optB
  exact ⟨r, tru_sound s1 r1 e1, h1.here s1 rfl⟩
theorem tnot_ok {x : Expr} {pos : Pos} {fa : Env' → Sto → R Bool} (ha : PT X x (RT X Z Wx fa)) :
    PT X (.UnaryOp .Not x pos) (RT X Z Wx fun e S => (fa e S).bind fun b S => .ok (!b) S) := PT.imp (pt_not ha) fun σ H Q h => by
  obtain ⟨G, B, e, S, s, h⟩ := h
  refine ⟨G, B, e, S, s, h.bind fun x1 H1 G1 B1 w1 S1 _ s1 x1' r1 h1 => ?_⟩
  have r1 : x1 = w1 := r1
  subst r1
  exact h1.here s1 rfl
theorem tand_ok {x y : Expr} {es : List Expr} {pos : Pos} {fa fb : Env' → Sto → R Bool} (ha : PT X x (RT X Z Wx fa)) (hb : PW X (.BoolOp .And (y :: es) pos) (RT X Z Wx fb)) :
    PW X (.BoolOp .And (x :: y :: es) pos) (RT X Z Wx fun e S => (fa e S).bind fun b S => match b with
    | true => fb e S
    | false => .ok false S) := PW.imp (pw_and ha hb) fun σ H Q h => by
  obtain ⟨G, B, e, S, s, h⟩ := h
  refine ⟨G, B, e, S, s, h.bind fun x1 H1 G1 B1 w1 S1 _ s1 x1' r1 h1 => ?_⟩
  have r1 : x1 = w1 := r1
  subst r1
  cases x1 with
  | true =>
    rw [if_pos rfl]
    exact ⟨G1, B1, e, S1, s.at s1 x1', h1⟩
  | false =>
    rw [if_neg Bool.false_ne_true]
    exact h1.here s1 rfl
theorem tor_ok {x y : Expr} {es : List Expr} {pos : Pos} {fa fb : Env' → Sto → R Bool} (ha : PT X x (RT X Z Wx fa)) (hb : PW X (.BoolOp .Or (y :: es) pos) (RT X Z Wx fb)) :
    PW X (.BoolOp .Or (x :: y :: es) pos) (RT X Z Wx fun e S => (fa e S).bind fun b S => match b with
    | true => .ok true S
    | false => fb e S) := PW.imp (pw_or ha hb) fun σ H Q h => by
  obtain ⟨G, B, e, S, s, h⟩ := h
  refine ⟨G, B, e, S, s, h.bind fun x1 H1 G1 B1 w1 S1 _ s1 x1' r1 h1 => ?_⟩
  have r1 : x1 = w1 := r1
  subst r1
  cases x1 with
  | true =>
    rw [if_pos rfl]
    exact h1.here s1 rfl
  | false =>
    rw [if_neg Bool.false_ne_true]
    exact ⟨G1, B1, e, S1, s.at s1 x1', h1⟩
theorem yes_ok : PTs X [] (RT X Z Wx fun _ S => .ok true S) := PTs.imp pts_nil fun σ H Q h => by
  obtain ⟨G, B, e, S, s, h⟩ := h
  exact h.here s.h rfl

/-! ### what is walked -/
theorem PI.or {tg it : Expr} {w w' : TI} (h : PI X tg it w) (h' : PI X tg it w') : PI X tg it (fun σ H R => w σ H R ∨ w' σ H R) := ⟨fun pins s σ H R I q => q.elim (h.run pins s σ H R I) (h'.run pins s σ H R I)⟩
theorem PI.nox {tg it : Expr} {w : TI} : PI X tg it (fun _ _ _ => False) := ⟨fun _ _ _ _ _ _ q => q.elim⟩
theorem map_get {l : List D} {i : Nat} {w : W} (h : (l.map W.d)[i]? = some w) : ∃ d, l[i]? = some d ∧ w = .d d := by
  rw [List.getElem?_map] at h
  cases e : l[i]? with
  | none =>
    rw [e] at h
    cases h
  | some d =>
    rw [e] at h
    exact ⟨d, rfl, (Option.some.inj h).symm⟩
theorem it_list {K : KW} {G1 : Hp} {a : Addr} {l : List D} {vs : List V} (h : SqL K.K G1 a vs) (r : RepL K G1 l vs) : ItOk K (Itl K.K a) G1 (l.map .d) := by
  intro Z G H B S sb s
  have q : SqL K.K H a vs := sub_l (sb.trans s.gh) h
  refine ⟨⟨vs, q, by rw [List.length_map, r.length]; exact Nat.le_refl _⟩, fun i w hw => ?_⟩
  obtain ⟨d, hd, rfl⟩ := map_get hw
  obtain ⟨v, hv, rv⟩ := r.get hd
  refine ⟨⟨vs, v, q, hv⟩, fun x H' y => ?_⟩
  obtain ⟨e, y⟩ := y
  subst e
  have := y vs q
  rw [hv] at this
  cases this
  exact ⟨G, s, Ext.refl G B, Rep.mono sb _ _ rv⟩
theorem it_tup {K : KW} {G1 : Hp} {a : Addr} {l : List D} {vs : List V} (h : SqT K.K G1 a vs) (r : RepL K G1 l vs) : ItOk K (Itt K.K a) G1 (l.map .d) := by
  intro Z G H B S sb s
  have q : SqT K.K H a vs := sub_t (sb.trans s.gh) h
  refine ⟨⟨vs, q, by rw [List.length_map, r.length]; exact Nat.le_refl _⟩, fun i w hw => ?_⟩
  obtain ⟨d, hd, rfl⟩ := map_get hw
  obtain ⟨v, hv, rv⟩ := r.get hd
  refine ⟨⟨vs, v, q, hv⟩, fun x H' y => ?_⟩
  obtain ⟨e, y⟩ := y
  subst e
  have := y vs q
  rw [hv] at this
  cases this
  exact ⟨G, s, Ext.refl G B, Rep.mono sb _ _ rv⟩
theorem it_rng {K : KW} {G1 : Hp} {lo : Int} {n : Nat} : ItOk K (Itr lo n) G1 (rngL lo n) := by
  intro Z G H B S sb s
  have hl : (rngL lo n).length = n := by
    unfold rngL
    rw [List.length_map, List.length_range]
  refine ⟨by show n ≤ (rngL lo n).length; omega, fun i w hw => ?_⟩
  have hi : i < n := by rw [← hl]; exact (List.getElem?_eq_some_iff.mp hw).1
  unfold rngL at hw
  rw [List.getElem?_map, List.getElem?_range hi] at hw
  cases hw
  refine ⟨hi, fun x H' y => ?_⟩
  obtain ⟨e, y⟩ := y
  subst e y
  exact ⟨G, s, Ext.refl G B, by simp only [RepW, Rep]⟩
theorem enmL_get : ∀ {l : List D} {k i : Nat} {w : W}, (enmL k l)[i]? = some w → ∃ d, l[i]? = some d ∧ w = .d (.tup [.int ((k + i : Nat) : Int), d])
  | [], k, i, w, h => by simp [enmL] at h
  | x :: l, k, 0, w, h => by
    simp [enmL] at h
    exact ⟨x, rfl, h.symm⟩
  | x :: l, k, i + 1, w, h => by
    have h : (enmL (k + 1) l)[i]? = some w := by simpa [enmL] using h
    obtain ⟨d, h1, h2⟩ := enmL_get h
    exact ⟨d, by simpa using h1, by rw [h2, show k + 1 + i = k + (i + 1) by omega]⟩
theorem enmL_len : ∀ {l : List D} {k : Nat}, (enmL k l).length = l.length
  | [], k => rfl
  | x :: l, k => by simp [enmL, enmL_len]
theorem it_enm {K : KW} {G1 : Hp} {a : Addr} {l : List D} {vs : List V} (h : SqL K.K G1 a vs) (r : RepL K G1 l vs) : ItOk K (Ite K.K a) G1 (enmL 0 l) := by
  intro Z G H B S sb s
  have q : SqL K.K H a vs := sub_l (sb.trans s.gh) h
  refine ⟨⟨vs, q, by rw [enmL_len, r.length]; exact Nat.le_refl _⟩, fun i w hw => ?_⟩
  obtain ⟨d, hd, rfl⟩ := enmL_get hw
  obtain ⟨v, hv, rv⟩ := r.get hd
  refine ⟨⟨vs, v, q, hv⟩, fun x H' y => ?_⟩
  obtain ⟨T, v', e1, e2, e3, y⟩ := y
  have := y vs q
  rw [hv] at this
  cases this
  subst e1 e3
  obtain ⟨s2, x2⟩ := s.newG (o := .tup [.int (i : Int), v]) e2
  refine ⟨_, s2, x2, ?_⟩
  simp only [RepW, Rep]
  refine ⟨T, [.int (i : Int), v], rfl, SqT.of upd_same, (by show 2 ≤ sizeLine; rw [sizeLine_eq]; omega), ?_⟩
  refine ⟨_, _, rfl, by simp only [Rep]; rw [Nat.zero_add], v, [], rfl, Rep.mono (sb.trans x2.sub) _ _ rv, by simp only [RepL]⟩
theorem it_chars {K : KW} {G1 : Hp} {z : Str} : ItOk K (Its z) G1 (z.cps.toList.map fun c => .d (.str ⟨#[c]⟩)) := by
  intro Z G H B S sb s
  have hl : (z.cps.toList.map fun c => W.d (.str ⟨#[c]⟩)).length = z.cps.size := by rw [List.length_map, Array.length_toList]
  refine ⟨by show z.cps.size ≤ _; omega, fun i w hw => ?_⟩
  rw [List.getElem?_map] at hw
  cases e : z.cps.toList[i]? with
  | none =>
    rw [e] at hw
    cases hw
  | some c =>
    rw [e] at hw
    cases hw
    refine ⟨by show i < z.cps.size; rw [← Array.length_toList]; exact (List.getElem?_eq_some_iff.mp e).1, fun x H' y => ?_⟩
    obtain ⟨e1, c', e2, e3⟩ := y
    subst e1 e3
    rw [Array.getElem?_toList] at e
    rw [e] at e2
    cases e2
    exact ⟨G, s, Ext.refl G B, by simp only [RepW, Rep]⟩
theorem seq_ok {tg x : Expr} {fa : Env' → Sto → R W} (ha : PE X x (RE X Z Wx fa)) :
    PI X tg x (RI X Z Wx fun e S => (fa e S).bind fun x S => (match x with
    | .d (.lst l) => .ok (l.map .d) S
    | .d (.tup l) => .ok (l.map .d) S
    | .d (.ro l) => .ok (l.map .d) S
    | _ => .st)) := PI.imp (PI.or (pi_list ha) (pi_tup ha)) fun σ H R h => by
  obtain ⟨G, B, e, S, s, h⟩ := h
  have main : ∀ l S1, fa e S = .ok (.d (.lst l)) S1 ∨ fa e S = .ok (.d (.ro l)) S1 → iList X.K (RE X Z Wx fa) σ H R := fun l S1 q => by
    refine ⟨G, B, e, S, s, h.bind fun x1 H1 G1 B1 w1 S2 eq s1 x1' r1 h1 => ?_⟩
    rcases q with q | q <;> rw [q] at eq <;> cases eq
    · simp only [rV, RepW, Rep] at r1
      obtain ⟨a, vs, e1, h2, h3, h4⟩ := r1
      exact ⟨a, e1, ⟨vs, SqL.of (s1.gh _ _ h2)⟩, h1.here s1 (it_list (SqL.of h2) h4)⟩
    · simp only [rV, RepW, Rep] at r1
      obtain ⟨a, vs, e1, h2, h3, h4⟩ := r1
      exact ⟨a, e1, ⟨vs, sub_l s1.gh h2⟩, h1.here s1 (it_list h2 h4)⟩
  dsimp only at h
  cases hf : fa e S with
  | st =>
    rw [hf] at h
    exact h.elim
  | ex c ns l S1 =>
    rw [hf] at h
    exact .inl ⟨G, B, e, S, s, by rw [hf]; exact h⟩
  | ok w S1 =>
    cases w with
    | m i =>
      rw [hf] at h
      exact h.elim
    | d y =>
      cases y with
      | lst l => exact .inl (main l S1 (.inl hf))
      | ro l => exact .inl (main l S1 (.inr hf))
      | tup l =>
        refine .inr ⟨G, B, e, S, s, h.bind fun x1 H1 G1 B1 w1 S2 eq s1 x1' r1 h1 => ?_⟩
        rw [hf] at eq
        cases eq
        simp only [rV, RepW, Rep] at r1
        obtain ⟨a, vs, e1, h2, h3, h4⟩ := r1
        exact ⟨a, e1, ⟨vs, sub_t s1.gh h2⟩, h1.here s1 (it_tup h2 h4)⟩
      | _ =>
        rw [hf] at h
        exact h.elim
theorem chars_ok {tg x : Expr} {fa : Env' → Sto → R W} (ha : PE X x (RE X Z Wx fa)) :
    PI X tg x (RI X Z Wx fun e S => (fa e S).bind fun x S => (match x with
    | .d (.str s) => .ok (s.cps.toList.map fun c => .d (.str ⟨#[c]⟩)) S
    | _ => .st)) := PI.imp (pi_str ha) fun σ H R h => by
  obtain ⟨G, B, e, S, s, h⟩ := h
  refine ⟨G, B, e, S, s, h.bind fun x1 H1 G1 B1 w1 S1 eq s1 x1' r1 h1 => ?_⟩
  split at h1
  · simp only [rV, RepW, Rep] at r1
    exact ⟨_, r1, h1.here s1 it_chars⟩
  · exact h1.elim
theorem rngOk_ok {i : Int} (h : rngOk i = true) : -(2 ^ 62) ≤ i ∧ i < 2 ^ 62 := by
  have h := of_decide_eq_true h
  omega
theorem one_ok {x : Expr} {fa : Env' → Sto → R W} (hs : noStar x = true) (ha : PE X x (RE X Z Wx fa)) : PA X [x] (RA X Z Wx fun e S => (fa e S).bind fun x S => .ok [x] S) := acons_ok hs ha anil_ok
theorem rng1_ok {tg x : Expr} {p pos : Pos} {n : Str} {fa : Env' → Sto → R W} (c : Cxt g t L N sc so X) (hn : bltName sc n "range" = true) (hs : noStar x = true) (ha : PE X x (RE X Z Wx fa)) :
    PI X tg (.Call (.Name n p) [x] [] pos) (RI X Z Wx fun e S => (fa e S).bind fun x S => (match x with
    | .d (.int i) => if rngOk i then .ok (rngL 0 i.toNat) S else .st
    | _ => .st)) := by
  obtain ⟨e1, gl, fr⟩ := c.nofree hn (by decide +kernel)
  subst e1
  refine PI.imp (pi_range1 gl fr (one_ok hs ha) (noStar_ok hs)) fun σ H R h => ?_
  obtain ⟨G, B, e, S, s, h⟩ := h
  refine ⟨G, B, e, S, s, QG.bind (rep' := rI (KX X)) (Q' := R) (g := fun ws S => match ws with
    | [.d (.int i)] => if rngOk i then .ok (rngL 0 i.toNat) S else .st
    | _ => .st) ?_ fun vs H1 G1 B1 ws S1 eq s1 x1' r1 h1 => ?_⟩
  · dsimp only at h ⊢
    cases hf : fa e S with
    | st =>
      rw [hf] at h
      exact h
    | ex c ns l S1 =>
      rw [hf] at h
      exact h
    | ok w S1 =>
      rw [hf] at h
      simp only [En.R.bind] at h ⊢
      split at h
      · exact h
      · exact h.elim
  · split at h1
    · split at h1
      · rename_i i _ hr
        obtain ⟨v, e2, r2⟩ := RepWs.one r1
        simp only [RepW, Rep] at r2
        obtain ⟨b1, b2⟩ := rngOk_ok hr
        exact ⟨_, by rw [e2, r2], b1, b2, h1.here s1 it_rng⟩
      · exact h1.elim
    · exact h1.elim
theorem rng2_ok {tg x y : Expr} {p pos : Pos} {n : Str} {fa fb : Env' → Sto → R W} (c : Cxt g t L N sc so X) (hn : bltName sc n "range" = true) (hs : noStar x = true) (hs' : noStar y = true) (ha : PE X x (RE X Z Wx fa)) (hb : PE X y (RE X Z Wx fb)) :
    PI X tg (.Call (.Name n p) [x, y] [] pos) (RI X Z Wx fun e S => (fa e S).bind fun x S => (fb e S).bind fun y S => (match x, y with
    | .d (.int i), .d (.int j) => if rngOk i && rngOk j then .ok (rngL i (j - i).toNat) S else .st
    | _, _ => .st)) := by
  obtain ⟨e1, gl, fr⟩ := c.nofree hn (by decide +kernel)
  subst e1
  refine PI.imp (pi_range2 gl fr (acons_ok hs ha (one_ok hs' hb)) (by rw [noStar_ok hs, noStar_ok hs']; rfl) (noStar_ok hs')) fun σ H R h => ?_
  obtain ⟨G, B, e, S, s, h⟩ := h
  refine ⟨G, B, e, S, s, QG.bind (rep' := rI (KX X)) (Q' := R) (g := fun ws S => match ws with
    | [.d (.int i), .d (.int j)] => if rngOk i && rngOk j then .ok (rngL i (j - i).toNat) S else .st
    | _ => .st) ?_ fun vs H1 G1 B1 ws S1 eq s1 x1' r1 h1 => ?_⟩
  · dsimp only at h ⊢
    cases hf : fa e S with
    | st =>
      rw [hf] at h
      exact h
    | ex c ns l S1 =>
      rw [hf] at h
      exact h
    | ok w S1 =>
      rw [hf] at h
      simp only [En.R.bind] at h ⊢
      cases hg : fb e S1 with
      | st =>
        rw [hg] at h
        exact h
      | ex c ns l S2 =>
        rw [hg] at h
        exact h
      | ok u S2 =>
        rw [hg] at h
        simp only [En.R.bind] at h ⊢
        split at h
        · exact h
        · exact h.elim
  · split at h1
    · split at h1
      · rename_i i j _ hr
        obtain ⟨hr1, hr2⟩ := ba hr
        obtain ⟨v, u, e2, r2, r3⟩ := RepWs.two r1
        simp only [RepW, Rep] at r2 r3
        obtain ⟨b1, b2⟩ := rngOk_ok hr1
        obtain ⟨b3, b4⟩ := rngOk_ok hr2
        exact ⟨_, _, by rw [e2, r2, r3], ⟨b1, b2, b3, b4⟩, h1.here s1 it_rng⟩
      · exact h1.elim
    · exact h1.elim
/-! ### targets -/
theorem Beside.refl (ts : List Nat) (σ : L2.St) : Beside ts σ σ := ⟨rfl, fun _ _ => rfl⟩
theorem nm_ok {i : Nat} {x : Str} {pos : Pos} (c : Cxt g t L N sc so X) (h1 : N[i]? = some x) (h2 : locB so x = true) : PG X (.Name x pos) (tgR (KX X) Z [i] (evG (.nm i))) := by
  obtain ⟨l1, l2⟩ := c.loc h2
  refine PG.imp (pg_name (i := i) (by rw [c.hN]; exact c.nd) (c.at h1) l1 l2) fun v σ H Q h => ?_
  obtain ⟨G, B, e, S, w, e1, s, r, hf, k⟩ := h
  simp only [evG] at hf
  split at hf
  · cases hf
    refine k _ (s.s.set r) ⟨by rw [List.length_set], fun j hj => ?_⟩
    exact List.getElem?_set_ne fun z => hj (by rw [z]; exact List.mem_singleton_self _)
  · cases hf
theorem gnil_ok : PGs X [] (tgL (KX X) Z [] (evGL .nil)) := PGs.imp pgs_nil fun vs σ H Q h => by
  obtain ⟨G, B, e, S, ds, e1, s, r, hf, k⟩ := h
  cases ds with
  | cons d ds => simp [evGL] at hf
  | nil =>
    simp only [evGL, Option.some.injEq] at hf
    subst hf
    simp only [RepL] at r
    exact ⟨r, k σ s.s (Beside.refl _ _)⟩
theorem assign_cons {e : Expr} {es : List Expr} {env : Env} (h : noStar e = true) : (assignEach (e :: es) env).map (·.2) = assign e env :: (assignEach es env).map (·.2) := by
  cases e <;> first
    | (cases h; done)
    | rfl
theorem assign_len {es : List Expr} {env : Env} : (assignEach es env).length = es.length := by
  induction es with
  | nil => rfl
  | cons e es ih =>
    cases e <;> (show (assignEach es env).length + 1 = es.length + 1; rw [ih])
theorem assign_star {es : List Expr} {env : Env} (h : es.all noStar = true) : (assignEach es env).findIdx? (·.1) = none := by
  induction es with
  | nil => rfl
  | cons e es ih =>
    rw [List.all_cons] at h
    obtain ⟨h1, h2⟩ := ba h
    have q : assignEach (e :: es) env = (false, assign e env) :: assignEach es env := by
      cases e <;> first
        | (cases h1; done)
        | rfl
    rw [q, List.findIdx?_cons]
    simp [ih h2]
theorem gcons_ok {x : Expr} {es : List Expr} {g1 : G} {l1 : GL} (hs : noStar x = true) (h1 : PG X x (tgR (KX X) Z g1.ts (evG g1))) (h2 : PGs X es (tgL (KX X) Z l1.ts (evGL l1))) :
    PGs X (x :: es) (tgL (KX X) Z (GL.cons g1 l1).ts (evGL (.cons g1 l1))) := PGs.imp (pgs_cons h1 h2 (assign_cons hs)) fun vs σ H Q h => by
  obtain ⟨G, B, e, S, ds, e1, s, r, hf, k⟩ := h
  cases ds with
  | nil => simp [evGL] at hf
  | cons d ds =>
    simp only [RepL] at r
    obtain ⟨v, u, ev, r1, r2⟩ := r
    simp only [evGL] at hf
    split at hf
    · rename_i e2 hg
      refine ⟨v, u, ev, G, B, e, S, .d d, e2, s, r1, hg, fun σ1 sl1 b1 => ⟨G, B, e2, S, ds, e1, ⟨s.h, sl1⟩, r2, hf, fun σ2 sl2 b2 => k σ2 sl2 ⟨b2.1.trans b1.1, fun i hi => ?_⟩⟩⟩
      rw [b2.2 i fun z => hi (List.mem_append_right _ z), b1.2 i fun z => hi (List.mem_append_left _ z)]
    · cases hf
theorem gtup_ok {es : List Expr} {k : Nat} {pos : Pos} {l1 : GL} (hc : X.calm = true) (hl : ∀ ds e S e1, evGL l1 ds e S = some e1 → ds.length = es.length) (hst : es.all noStar = true) (h : PGs X es (tgL (KX X) Z l1.ts (evGL l1))) :
    PG X (.Tuple es k pos) (tgR (KX X) Z (G.tup l1).ts (evG (.tup l1))) := PG.imp (pg_tup hc h rfl (assign_star hst)) fun v σ H Q h => by
  obtain ⟨G, B, e, S, w, e1, s, r, hf, k⟩ := h
  simp only [evG] at hf
  split at hf
  · simp only [RepW, Rep] at r
    obtain ⟨a, vs, e2, q1, q2, q3⟩ := r
    refine ⟨a, vs, e2, sub_t s.h.gh q1, ?_, G, B, e, S, _, e1, s, q3, hf, k⟩
    rw [assign_len, ← q3.length]
    exact hl _ _ _ _ hf
  · cases hf
end
end En

namespace En
open PySem PySem.Spec PyProof.Rows L2
/-! ### enumerate over a tuple -/
theorem enum_new1 {vv : Value} {ob : Obj} {HH : Heap → Prop} (Bg : Begins vv ob HH) : Meets (Builtin.«enumerate.__new__» ⟨[.type "enumerate", vv], []⟩) (fun _ R s => HH s.heap ∧
      R (.ok (.ret (.ref (s.heap.push ob).objs.size))) { s with heap := (s.heap.push ob).push { cls := .type "enumerate", data := .fields #[.none, .bool false, .ref s.heap.objs.size, rawInt 0, .none, .none] } }) :=
  .of_wp fun prog w A R s0 hh => by
    obtain ⟨hp0, g0, d0, t0, o0⟩ := s0
    obtain ⟨hB, hh⟩ := hh
    have hsub := sub_enumerate
    have qit : ∀ {AA : Around} {EE : Value → Shared → Prop} {QQ : Value → Shared → Prop}, QQ (.ref hp0.objs.size) ⟨hp0.push ob, g0, d0, t0, o0⟩ → wpAny (model prog w) AA (pyIter vv) QQ EE ⟨hp0, g0, d0, t0, o0⟩ :=
      fun q => Bg.iter prog w _ _ ⟨hp0, g0, d0, t0, o0⟩ _ hB q
    wp_walk using qit
    refine wpAny_stack_any fun st0 => wpAny_pure ?_
    split
    · rename_i cc _ _ _ _ _
      cases (cc == Value.type "enumerate")
      · wp_walk using qit
        exact ⟨_, rfl, hh⟩
      · wp_walk using qit
        exact ⟨_, rfl, hh⟩
    · wp_walk using qit
      exact ⟨_, rfl, hh⟩
theorem enum_made {prog : Program} {w : World} {A : Around} {E : Value → Shared → Prop} {s : Shared} {vv : Value} {ob : Obj} {HH : Heap → Prop} {Q : Value → Shared → Prop} (Bg : Begins vv ob HH) (hB : HH s.heap)
    (hq : ∀ h', IsEnum h' (s.heap.objs.size + 1) s.heap.objs.size 0 .none → h'.get? s.heap.objs.size = some ob → (∀ b u, s.heap.get? b = some u → h'.get? b = some u) → Q (.ref (s.heap.objs.size + 1)) { s with heap := h' }) :
    wpAny (model prog w) A (call (.type "enumerate") [vv]) Q E s := by
  refine callType_new F.called_enumerate (by decide) (F.typeCall_enumerate_1 _) (F.newCall_enumerate_1 _) (fun ob => F.args_object_init_2 ob _) F.entry_enumerate_new (enum_new1 Bg) ⟨hB, ?_⟩
  have hz0 : (s.heap.push ob).objs.size = s.heap.objs.size + 1 := Heap.size_push ..
  show _ ∧ _
  rw [hz0]
  have he0 : IsEnum ((s.heap.push ob).push { cls := .type "enumerate", data := .fields #[.none, .bool false, .ref s.heap.objs.size, rawInt 0, .none, .none] }) (s.heap.objs.size + 1) s.heap.objs.size 0 .none := by
    have q := Heap.get?_push_size (s.heap.push ob) (o := { cls := .type "enumerate", data := .fields #[.none, .bool false, .ref s.heap.objs.size, rawInt 0, .none, .none] }) rfl
    rw [hz0] at q
    exact q
  exact ⟨⟨_, he0, rfl⟩, hq _ he0 (Heap.get?_push_of_some _ (Heap.get?_push_size _ Bg.free)) fun b u x => Heap.get?_push_of_some _ (Heap.get?_push_of_some _ x)⟩
theorem enumT_end {prog : Program} {w : World} {A : Around} {E : Value → Shared → Prop} {s : Shared} {e it t : Addr} {c : Int} {i : Nat} {items : Array Value} {old : Value} {Q : Option Value → Shared → Prop} (hd : A.handled = none) (he : IsEnum s.heap e it c old) (hi : s.heap.IsTupleIter it t i) (ht : s.heap.IsTuple t items) (hx : items[i]? = none)
    (hq : ∀ h', Heap.ExtBut it s.heap h' → Q none { s with heap := h' }) : wpAny (model prog w) A (pyNext (.ref e)) Q E s := by
  have ty : s.TypeIs (.ref e) "enumerate" := ⟨_, he, rfl⟩
  unfold pyNext
  refine wpAny_bind (wpAny_attempt (wpAny_callSpecial?_slot (name := Str.ofString "__next__") ty F.slot_enumerate_next (wpAny_call_entry F.slot_enumerate_next ty F.entry_enumerate_next ?_ (F.args_enumerate_next_1 _))))
  show wpAny _ _ (field (.ref e) 2 >>= _) _ _ _
  refine wpAny_bind (wpAny_field he rfl (x := .ref it) rfl (wpAny_bind (wpAny_nextOf_tuple_end hd hi ht hx fun h' x he' hx' => ?_)))
  obtain ⟨o, ho, hc⟩ := hx'
  exact wpAny_bind (wpAny_isInstance (T := "StopIteration") (b := true) ⟨o, ho, hc⟩ isSubtype_stop (wpAny_pure (hq _ he')))
/-- the tuple at a, counted from k on -/
def ItET (K : PySem.W.Frag) (a : Addr) (k : Int) : It :=
  ⟨fun i H => ∃ (xs : List V) (x : V), SqT K H a xs ∧ xs[i]? = some x, fun i H v H' => ∃ T x, v = .ref T ∧ H T = none ∧ H' = upd H T (.tup [.int (k + ((i : Nat) : Int)), x]) ∧ ∀ xs, SqT K H a xs → xs[i]? = some x, fun i H => ∃ xs : List V, SqT K H a xs ∧ xs.length ≤ i⟩
theorem turn_enumT {P : Program} {w : World} {K : PySem.W.Frag} {elts : List Expr} {kk : Nat} {tpos : Pos} (a e it : Addr) (k : Int) :
    Turn P w K (.Tuple elts kk tpos) (ItET K a k) [e, it] e (fun i h => (∃ old, IsEnum h e it (k + ((i : Nat) : Int)) old) ∧ h.IsTupleIter it a i ∧ e ≠ it ∧ a ≠ it ∧ a ≠ e) where
  mem := by simp
  obj := fun i h st b hb => by
    obtain ⟨⟨old, he⟩, ⟨o, ho, hc, hd⟩, _⟩ := st
    rcases (show b = e ∨ b = it by simpa using hb) with z | z
    · rw [z]
      exact ⟨_, he, fun v q => nomatch q⟩
    · rw [z]
      exact ⟨o, ho, fun v q => by rw [hd] at q; cases q⟩
  keep := fun i h h' st kp => let ⟨⟨old, he⟩, hi, hne, h1, h2⟩ := st; ⟨⟨old, kp e (by simp) _ he⟩, hi.at fun o q => kp it (by simp) o q, hne, h1, h2⟩
  item := by
    intro X hP hw hK hc i pins s σ H E I hf st hg
    subst hP hw hK
    obtain ⟨⟨old, he⟩, hit, hne, n1, n2⟩ := st
    obtain ⟨xs, x, hq, hx⟩ := hg
    obtain ⟨its, rv, p, hz⟩ := I.tuple hq
    obtain ⟨u, hu, ru⟩ := rv.get hx
    have hel : e < s.heap.objs.size := Heap.lt_size he
    have hil : it < s.heap.objs.size := by obtain ⟨_, q, _⟩ := hit; exact Heap.lt_size q
    have hlt : i < its.toArray.size := by
      have := (List.getElem?_eq_some_iff.mp hu).1
      simpa using this
    have tup : s.heap.IsTuple a its.toArray := p
    refine wpAny_pyNext_enum_itemC (Draws.tuple (show X.A.in1.handled = none from I.ok.hd hc) it a n1 its.toArray) he ⟨hit, tup⟩ hlt hne (by
      intro q
      rcases (show e = it ∨ e = a by simpa using q) with z | z
      · exact hne z
      · exact n2 z.symm) fun x1 h' tk1 hP ho hs' hT hsz hk => ?_
    have ex : x1 = u := by
      have q : its.toArray[i]? = some x1 := hP
      rw [List.getElem?_toArray, hu] at q
      exact (Option.some.inj q).symm
    subst ex
    refine ⟨_, rfl, wpAny_letOwnedTupleGo_enum (s := { s with heap := h', toks := tk1 + 1 }) ho fun h'' he' sb => ?_⟩
    have hT2 : h''.get? s.heap.objs.size = some { cls := .type "tuple", data := .seq #[.int (k + ((i : Nat) : Int)) tk1, x1] } := (sb.2 _ (Nat.ne_of_gt hel)).trans hT
    have nw : ObjOk X.prog X.w (upd H s.heap.objs.size (.tup [.int (k + ((i : Nat) : Int)), x])) h'' s.heap.objs.size (.tup [.int (k + ((i : Nat) : Int)), x]) :=
      ⟨by show 2 ≤ sizeLine; decide, [.int (k + ((i : Nat) : Int)) tk1, x1], .cons ⟨_, rfl⟩ (.cons ru .nil), ⟨_, hT2, rfl, _, rfl⟩⟩
    have I1 : Inv X pins σ (upd H s.heap.objs.size (.tup [.int (k + ((i : Nat) : Int)), x])) { s with heap := h'', toks := tk1 + 1 } :=
      I.turnedNew (ch := [e, it]) (fun b ob hb q => (sb.2 b (fun z => hb (by simp [z]))).trans (hk b ob (fun z => hb (by simp [z])) (fun z => hb (by simp [z])) q)) hf (Nat.le_refl _) nw
    refine ⟨.ref s.heap.objs.size, _, I1, rfl, ⟨_, x, rfl, I.hok.fresh (Nat.le_refl _), rfl, fun ys hy => by rw [I.tuple_inj hy hq]; exact hx⟩, ⟨⟨x1, ?_⟩, hs'.1.at fun o q => (sb.2 it (Ne.symm hne)).trans q, hne, n1, n2⟩, fun b hb => ?_⟩
    · have e1 : k + (((i + 1 : Nat) : Int)) = k + ((i : Nat) : Int) + 1 := by omega
      rw [e1]
      exact he'
    · have hb' : b < s.heap.objs.size := by
        rcases (show b = e ∨ b = it by simpa using hb) with z | z
        · rw [z]
          exact hel
        · rw [z]
          exact hil
      rw [upd_ne (Nat.ne_of_lt hb')]
      exact (hf b hb).1
  done := by
    intro X hP hw hK hc i pins s σ H E I hf st hg
    subst hP hw hK
    obtain ⟨⟨old, he⟩, hit, hne, n1, n2⟩ := st
    obtain ⟨xs, hq, hx⟩ := hg
    obtain ⟨its, rv, p, hz⟩ := I.tuple hq
    obtain ⟨f0, f1, f2, f3, f4, f5⟩ := hf it (by simp)
    have hl := rv.length
    have tup : s.heap.IsTuple a its.toArray := p
    refine enumT_end (I.ok.hd hc) he hit tup ?_ fun h' eb => ⟨rfl, I.turned (t' := s.toks) (fun b o hb q => eb b o hb q) f0 f1 f3 f4 f5⟩
    simp
    omega
  self := fun A i s Q E st h => let ⟨⟨_, he⟩, _⟩ := st; wpAny_pyIter_enum he h
/-- enumerate of a list or a tuple -/
def iEnumT (K : PySem.W.Frag) (ta : TA) : TI := fun σ H R => ta σ H fun vs H1 => ∃ a xs, vs = [.ref a] ∧ SqT K H1 a xs ∧ R (ItET K a 0) H1
theorem pi_enumT {X : Cx} {e : Expr} {ta : TA} {p pos tpos : Pos} {elts : List Expr} {kk : Nat} (hg : Gl X "enumerate") (hm : X.mg "enumerate" = none) (ha : PA X [e] ta) (hs : starEach [e] X.env = [(false, eval e X.env)]) :
    PI X (.Tuple elts kk tpos) (.Call (.Name "enumerate" p) [e] [] pos) (iEnumT X.K ta) := by
  refine ⟨fun pins s σ H R I h => ?_⟩
  refine Call_ (ld_blt I hg hm boot_enumerate (PyProof.Rows.callWith_type1 (thn (ha.run pos pins s σ H _ I h) fun us s1 ⟨vs, H1, I1, r1, q1⟩ => ?_) hs rfl))
  obtain ⟨a, xs, ex, hq, q⟩ := q1
  subst ex
  cases r1 with
  | cons r rr =>
    cases rr
    cases r
    obtain ⟨its, rv, tup, hz⟩ := I1.tuple hq
    have tup : s1.heap.IsTuple a its.toArray := tup
    have al : a < s1.heap.objs.size := by
      obtain ⟨o, ho, _⟩ := tup
      exact Heap.lt_size ho
    refine enum_made (begins_tuple a its.toArray) tup fun h' he hit hk => wpAny_pyIter_enum he ?_
    have I2 : Inv X pins σ H1 { s1 with heap := h' } := I1.kept (t' := s1.toks) hk
    refine ⟨s1.heap.objs.size + 1, [s1.heap.objs.size + 1, s1.heap.objs.size], _, _, H1, rfl, I2, turn_enumT a (s1.heap.objs.size + 1) s1.heap.objs.size 0, ⟨⟨.none, he⟩, ⟨_, hit, rfl, rfl⟩, Nat.succ_ne_self _, Nat.ne_of_lt al, Nat.ne_of_lt (Nat.lt_succ_of_lt al)⟩, fun b hb => ?_, q⟩
    have hle : s1.heap.objs.size ≤ b := by
      rcases (show b = s1.heap.objs.size + 1 ∨ b = s1.heap.objs.size by simpa using hb) with z | z
      · rw [z]
        exact Nat.le_add_right _ _
      · rw [z]
        exact Nat.le_refl _
    exact I1.fpOk hle (I1.hok.fresh hle)
theorem it_enmT {K : KW} {G1 : Hp} {a : Addr} {l : List D} {vs : List V} (h : SqT K.K G1 a vs) (r : RepL K G1 l vs) : ItOk K (ItET K.K a 0) G1 (enmL 0 l) := by
  intro Z G H B S sb s
  have q : SqT K.K H a vs := sub_t (sb.trans s.gh) h
  refine ⟨⟨vs, q, by rw [enmL_len, r.length]; exact Nat.le_refl _⟩, fun i w hw => ?_⟩
  obtain ⟨d, hd, rfl⟩ := enmL_get hw
  obtain ⟨v, hv, rv⟩ := r.get hd
  refine ⟨⟨vs, v, q, hv⟩, fun x H' y => ?_⟩
  obtain ⟨T, v', e1, e2, e3, y⟩ := y
  have := y vs q
  rw [hv] at this
  cases this
  subst e1 e3
  obtain ⟨s2, x2⟩ := s.newG (o := .tup [.int (0 + ((i : Nat) : Int)), v]) e2
  refine ⟨_, s2, x2, ?_⟩
  simp only [RepW, Rep]
  refine ⟨T, [.int (0 + ((i : Nat) : Int)), v], rfl, SqT.of upd_same, (by show 2 ≤ sizeLine; rw [sizeLine_eq]; omega), ?_⟩
  refine ⟨_, _, rfl, by simp only [Rep]; rw [Nat.zero_add, Int.zero_add], v, [], rfl, Rep.mono (sb.trans x2.sub) _ _ rv, by simp only [RepL]⟩
section
variable {g : Gs} {t : Tb} {L : Nat} {N : List Str} {sc so : Scope} {X : Cx} {Z : Ent} {Wx : WX}
theorem one_bind {fa : Env' → Sto → R W} {e : Env'} {S : Sto} {w : W} {S1 : Sto} (h : fa e S = .ok w S1) : ((fa e S).bind fun x S => R.ok [x] S) = .ok [w] S1 := by
  rw [h]
  rfl
theorem enm_ok {x : Expr} {es : List Expr} {k : Nat} {p pos tp : Pos} {n : Str} {fa : Env' → Sto → R W} (c : Cxt g t L N sc so X) (hn : bltName sc n "enumerate" = true) (hs : noStar x = true) (ha : PE X x (RE X Z Wx fa)) :
    PI X (.Tuple es k tp) (.Call (.Name n p) [x] [] pos) (RI X Z Wx fun e S => (fa e S).bind fun x S => (match x with
    | .d (.lst l) => .ok (enmL 0 l) S
    | .d (.ro l) => .ok (enmL 0 l) S
    | .d (.tup l) => .ok (enmL 0 l) S
    | _ => .st)) := by
  obtain ⟨e1, gl, fr⟩ := c.nofree hn (by decide +kernel)
  subst e1
  refine PI.imp (PI.or (pi_enum gl fr (one_ok hs ha) (noStar_ok hs)) (pi_enumT gl fr (one_ok hs ha) (noStar_ok hs))) fun σ H R h => ?_
  obtain ⟨G, B, e, S, s, h⟩ := h
  dsimp only at h
  cases hf : fa e S with
  | st =>
    rw [hf] at h
    exact h.elim
  | ex c ns l S1 =>
    rw [hf] at h
    refine .inl ⟨G, B, e, S, s, ?_⟩
    dsimp only
    rw [hf]
    exact h
  | ok w S1 =>
    rw [hf] at h
    have eo := one_bind hf
    cases w with
    | m i => exact h.elim
    | d y =>
      cases y with
      | lst l =>
        refine .inl ⟨G, B, e, S, s, ?_⟩
        dsimp only
        rw [eo]
        intro vs H1 G1 B1 s1 x1 r1
        obtain ⟨v, e2, r2⟩ := RepWs.one r1
        simp only [RepW, Rep] at r2
        obtain ⟨a, us, e3, h2, h3, h4⟩ := r2
        exact ⟨a, us, by rw [e2, e3], SqL.of (s1.gh _ _ h2), (QG.ext x1 h).here s1 (it_enm (SqL.of h2) h4)⟩
      | ro l =>
        refine .inl ⟨G, B, e, S, s, ?_⟩
        dsimp only
        rw [eo]
        intro vs H1 G1 B1 s1 x1 r1
        obtain ⟨v, e2, r2⟩ := RepWs.one r1
        simp only [RepW, Rep] at r2
        obtain ⟨a, us, e3, h2, h3, h4⟩ := r2
        exact ⟨a, us, by rw [e2, e3], sub_l s1.gh h2, (QG.ext x1 h).here s1 (it_enm h2 h4)⟩
      | tup l =>
        refine .inr ⟨G, B, e, S, s, ?_⟩
        dsimp only
        rw [eo]
        intro vs H1 G1 B1 s1 x1 r1
        obtain ⟨v, e2, r2⟩ := RepWs.one r1
        simp only [RepW, Rep] at r2
        obtain ⟨a, us, e3, h2, h3, h4⟩ := r2
        exact ⟨a, us, by rw [e2, e3], sub_t s1.gh h2, (QG.ext x1 h).here s1 (it_enmT h2 h4)⟩
      | _ => exact h.elim
end
end En

namespace En
open PySem PySem.Spec PyProof.Rows L2
section
variable {g : Gs} {t : Tb} {L : Nat} {N : List Str} {sc so : Scope} {X : Cx} {Z : Ent} {Wx : WX}
theorem lc_ok {x y z : Expr} {ifs : List Expr} {cs : Scope} {pos : Pos} {own : List (Str × Nat)} {tg : G} {b : Bool} {fi : Env' → Sto → R (List W)} {ft : Env' → Sto → R Bool} {fe : Env' → Sto → R W} (c : Cxt g t L N sc so X) (hh : g.hot = false) (hb : blkC N sc cs own = true) (hts : (tg.ts.all fun i => (own.map (·.2)).contains i) = true) (hz : noSet z = true)
    (hi : PI X y z (RI X Z Wx fi)) (hg : ∀ X', Cxt g t L N (relS cs sc) cs X' → ∀ Z', PG X' y (tgR (KX X') Z' tg.ts (evG tg)))
    (ht : ∀ X', Cxt g t L N (relS cs sc) cs X' → ∀ Z', Takes X' W0 → PTs X' ifs (RT X' Z' W0 ft)) (he : ∀ X', Cxt g t L N (relS cs sc) cs X' → ∀ Z', Takes X' W0 → PE X' x (RE X' Z' W0 fe)) :
    PE X (.ListComp x [⟨y, z, ifs, 0⟩] cs pos) (RE X Z Wx fun e S => (fi e S).bind fun ws S => (loopC (evG tg) ft fe ws (kill e (own.map (·.2))) [] S).noX.bind fun l S => mkL b l S) := by
  have ok := blkOk_by hb
  have ok' : BlkOk X.N X.env.scope cs own := by
    rw [c.hN, c.hsc]
    exact ok
  refine PE.imp (pe_lc (c.calm hh) (by rw [c.hN]; exact c.nd) hi ok' (g := fun v σ H Q => ∃ Z', tgR (KX X) Z' tg.ts (evG tg) v σ H Q) (tt := fun σ H Q => ∃ Z', RT X Z' W0 ft σ H Q) (te := fun σ H Q => ∃ Z', RE X Z' W0 fe σ H Q)
    (fun s H C cl fp => PG.ex fun Z' => hg _ (c.blk ok.kind s H C cl fp) Z') (fun s H C cl fp => PTs.ex fun Z' => ht _ (c.blk ok.kind s H C cl fp) Z' takes0) (fun s H C cl fp => PE.ex fun Z' => he _ (c.blk ok.kind s H C cl fp) Z' takes0) (noSet_it hz)) fun σ H Q h => ?_
  refine lc_read (fun i hi => ?_) σ H Q h
  have q := List.all_eq_true.mp hts i hi
  simpa using q
theorem setLc_ok {x y z : Expr} {ifs : List Expr} {cs : Scope} {pos spos py : Pos} {own : List (Str × Nat)} {tg : G} {b : Bool} {i : Nat} {n : Str} {fi : Env' → Sto → R (List W)} {ft : Env' → Sto → R Bool} {fe : Env' → Sto → R W} (c : Cxt g t L N sc so X) (hh : g.hot = false) (hb : blkC N sc cs own = true) (hts : (tg.ts.all fun i => (own.map (·.2)).contains i) = true) (hz : noSet z = true)
    (h1 : N[i]? = some n) (hloc : sc.names.lookup n = some .local) (hsw : swapsWith (.ListComp x [⟨y, z, ifs, 0⟩] cs pos) (some (.Name n py)) spos.line X.env = pure true)
    (hi : PI X y z (RI X Z Wx fi)) (hg : ∀ X', Cxt g t L N (relS cs sc) cs X' → ∀ Z', PG X' y (tgR (KX X') Z' tg.ts (evG tg)))
    (ht : ∀ X', Cxt g t L N (relS cs sc) cs X' → ∀ Z', Takes X' W0 → PTs X' ifs (RT X' Z' W0 ft)) (he : ∀ X', Cxt g t L N (relS cs sc) cs X' → ∀ Z', Takes X' W0 → PE X' x (RE X' Z' W0 fe)) :
    PS X (.Assign [.Name n py] (.ListComp x [⟨y, z, ifs, 0⟩] cs pos) spos) (fun D σ H => RE X Z Wx (fun e S => (fi e S).bind fun ws S => (loopC (evG tg) ft fe ws (kill e (own.map (·.2))) [] S).noX.bind fun l S => mkL b l S) σ H (fun v H1 => D.nx (σ.set i (some v)) H1)) := by
  have ok := blkOk_by hb
  have ok' : BlkOk X.N X.env.scope cs own := by
    rw [c.hN, c.hsc]
    exact ok
  refine PS.imp (ps_setLc (i := i) (c.calm hh) (by rw [c.hN]; exact c.nd) (c.at h1) (by rw [c.hsc]; exact hloc) hsw hi ok' (g := fun v σ H Q => ∃ Z', tgR (KX X) Z' tg.ts (evG tg) v σ H Q) (tt := fun σ H Q => ∃ Z', RT X Z' W0 ft σ H Q) (te := fun σ H Q => ∃ Z', RE X Z' W0 fe σ H Q)
    (fun s H C cl fp => PG.ex fun Z' => hg _ (c.blk ok.kind s H C cl fp) Z') (fun s H C cl fp => PTs.ex fun Z' => ht _ (c.blk ok.kind s H C cl fp) Z' takes0) (fun s H C cl fp => PE.ex fun Z' => he _ (c.blk ok.kind s H C cl fp) Z' takes0) (noSet_it hz)) fun D σ H h => ?_
  refine lc_read (fun i hi => ?_) σ H _ h
  have q := List.all_eq_true.mp hts i hi
  simpa using q
theorem chkA_star : ∀ {l : A} {es : List Expr}, chkA g N sc l es = true → es.all noStar = true
  | .nil, [], _ => rfl
  | .nil, _ :: _, h => by simp [chkA] at h
  | .cons a l, [], h => by simp [chkA] at h
  | .cons a l, x :: es, h => by
    simp only [chkA] at h
    obtain ⟨h1, h2⟩ := ba h
    obtain ⟨h2, h3⟩ := ba h2
    rw [List.all_cons, h1, chkA_star h3]
    rfl
theorem evA_len : ∀ {l : A} {es : List Expr}, chkA g N sc l es = true → ∀ e S ws S', evA t l e S = .ok ws S' → ws.length = es.length
  | .nil, [], _, e, S, ws, S', q => by
    simp only [evA, R.ok.injEq] at q
    rw [← q.1]
    rfl
  | .nil, _ :: _, h, _, _, _, _, _ => by simp [chkA] at h
  | .cons a l, [], h, _, _, _, _, _ => by simp [chkA] at h
  | .cons a l, x :: es, h, e, S, ws, S', q => by
    simp only [chkA] at h
    obtain ⟨h1, h2⟩ := ba h
    obtain ⟨h2, h3⟩ := ba h2
    simp only [evA] at q
    cases e1 : evE t a e S with
    | st =>
      rw [e1] at q
      cases q
    | ex c ns l S1 =>
      rw [e1] at q
      cases q
    | ok w S1 =>
      rw [e1] at q
      simp only [R.bind] at q
      cases e2 : evA t l e S1 with
      | st =>
        rw [e2] at q
        cases q
      | ex c ns l S1 =>
        rw [e2] at q
        cases q
      | ok us S2 =>
        rw [e2] at q
        simp only [R.bind, R.ok.injEq] at q
        rw [← q.1, List.length_cons, List.length_cons, evA_len h3 e S1 us S2 e2]
theorem evK_len : ∀ {l : A} {ks : List Str} {kws : List Keyword}, chkK g N sc l ks kws = true → ∀ e S ws S', evA t l e S = .ok ws S' → ws.length = ks.length
  | .nil, [], [], _, e, S, ws, S', q => by
    simp only [evA, R.ok.injEq] at q
    rw [← q.1]
    rfl
  | .cons a l, x :: xs, ⟨some y, v, p⟩ :: kws, h, e, S, ws, S', q => by
    simp only [chkK] at h
    obtain ⟨h1, h2⟩ := ba h
    obtain ⟨h2, h3⟩ := ba h2
    simp only [evA] at q
    cases e1 : evE t a e S with
    | st =>
      rw [e1] at q
      cases q
    | ex c ns l S1 =>
      rw [e1] at q
      cases q
    | ok w S1 =>
      rw [e1] at q
      simp only [R.bind] at q
      cases e2 : evA t l e S1 with
      | st =>
        rw [e2] at q
        cases q
      | ex c ns l S1 =>
        rw [e2] at q
        cases q
      | ok us S2 =>
        rw [e2] at q
        simp only [R.bind, R.ok.injEq] at q
        rw [← q.1, List.length_cons, List.length_cons, evK_len h3 e S1 us S2 e2]
  | .nil, [], _ :: _, h, _, _, _, _, _ => by simp [chkK] at h
  | .nil, _ :: _, _, h, _, _, _, _, _ => by simp [chkK] at h
  | .cons a l, [], _, h, _, _, _, _, _ => by simp [chkK] at h
  | .cons a l, _ :: _, [], h, _, _, _, _, _ => by simp [chkK] at h
  | .cons a l, _ :: _, ⟨none, _, _⟩ :: _, h, _, _, _, _, _ => by simp [chkK] at h
theorem evA_nil {l : A} (h : chkA g N sc l [] = true) : ∀ e S, evA t l e S = .ok [] S := by
  cases l with
  | nil => intro e S; rfl
  | cons a l => simp [chkA] at h
theorem chkGL_len : ∀ {l : GL} {es : List Expr}, chkGL g N so l es = true → ∀ ds e S e1, evGL l ds e S = some e1 → ds.length = es.length
  | .nil, [], _, ds, e, S, e1, q => by
    cases ds with
    | nil => rfl
    | cons d ds => simp [evGL] at q
  | .nil, _ :: _, h, _, _, _, _, _ => by simp [chkGL] at h
  | .cons a l, [], h, _, _, _, _, _ => by simp [chkGL] at h
  | .cons a l, x :: es, h, ds, e, S, e1, q => by
    simp only [chkGL] at h
    obtain ⟨h1, h2⟩ := ba h
    obtain ⟨h2, h3⟩ := ba h2
    cases ds with
    | nil => simp [evGL] at q
    | cons d ds =>
      simp only [evGL] at q
      split at q
      · rw [List.length_cons, List.length_cons, chkGL_len h3 _ _ _ _ q]
      · cases q
theorem chkGL_star : ∀ {l : GL} {es : List Expr}, chkGL g N so l es = true → es.all noStar = true
  | .nil, [], _ => rfl
  | .nil, _ :: _, h => by simp [chkGL] at h
  | .cons a l, [], h => by simp [chkGL] at h
  | .cons a l, x :: es, h => by
    simp only [chkGL] at h
    obtain ⟨h1, h2⟩ := ba h
    obtain ⟨h2, h3⟩ := ba h2
    rw [List.all_cons, h1, chkGL_star h3]
    rfl
end
section
variable {g : Gs} {t : Tb} {L : Nat} {N : List Str}
mutual
theorem sG : ∀ (u : G) (x : Expr) (sc so : Scope) (X : Cx) (Z : Ent), chkG g N so u x = true → Cxt g t L N sc so X → PG X x (tgR (KX X) Z u.ts (evG u))
  | .nm i, x, sc, so, X, Z, h, c => by
    cases x <;> first
      | (simp [chkG] at h; done)
      | (simp only [chkG] at h
         obtain ⟨h1, h2⟩ := ba h
         exact nm_ok c (of_decide_eq_true h1) h2)
  | .tup l, x, sc, so, X, Z, h, c => by
    cases x <;> first
      | (simp [chkG] at h; done)
      | (simp only [chkG] at h
         obtain ⟨hh, h⟩ := ba h
         exact gtup_ok (c.calm (cold_of hh)) (chkGL_len h) (chkGL_star h) (sGL l _ sc so X Z h c))
  | .two a b, x, sc, so, X, Z, h, c => by cases x <;> simp [chkG] at h
theorem sGL : ∀ (u : GL) (x : List Expr) (sc so : Scope) (X : Cx) (Z : Ent), chkGL g N so u x = true → Cxt g t L N sc so X → PGs X x (tgL (KX X) Z u.ts (evGL u))
  | .nil, [], sc, so, X, Z, h, c => gnil_ok
  | .nil, _ :: _, sc, so, X, Z, h, c => by simp [chkGL] at h
  | .cons a l, [], sc, so, X, Z, h, c => by simp [chkGL] at h
  | .cons a l, x :: es, sc, so, X, Z, h, c => by
    simp only [chkGL] at h
    obtain ⟨h1, h2⟩ := ba h
    obtain ⟨h2, h3⟩ := ba h2
    exact gcons_ok h1 (sG a x sc so X Z h2 c) (sGL l es sc so X Z h3 c)
end
end
end En

namespace En
open PySem PySem.Spec PyProof.Rows L2
section
variable {g : Gs} {t : Tb} {L : Nat} {N : List Str} {sc so : Scope} {X : Cx} {Z : Ent} {Wx : WX}
theorem QG.noX0 {α γ : Type} {K : KW} {rep : Hp → List Addr → α → γ → Prop} {e : Env'} {σ : L2.St} {W1 W2 : WX} {G : Hp} {B : List Addr} {Q : γ → Hp → Prop} : ∀ {r : R α}, QG K Z rep e σ W1 G B Q r.noX → QG K Z rep e σ W2 G B Q r
  | .ok w S, h => h
  | .ex c ns l S, h => h.elim
  | .st, h => h.elim
/-! ### a property -/
theorem prop_ok {q : Nat} {cn f : Str} {x : Expr} {pos : Pos} {fo : Env' → Sto → R W} (c : Cxt g t L N sc so X) (hh : g.hot = false) (hc : g.prs[q]? = some (cn, f)) (hb : noSuper x = true) (ho : PE X x (RE X Z Wx fo)) :
    PE X (.Attribute x f pos) (RE X Z Wx fun e S => (fo e S).bind fun x S => if insOk S cn f x then (match t.pr[q]? with
      | some F => (callF F [x] e [] S).noX
      | none => .st) else .st) := by
  obtain ⟨F, fA, p, k, fd, ps, e1, cl, po, hk, hF, hbd⟩ := c.tp.pr q _ hc
  refine PE.imp (pe_prop ho cl po hF ((c.room hh).mono hk) hbd .nil (passL (X := X.nox)) (noSuper_ok hb)) fun σ H Q h => ?_
  obtain ⟨G, B, e, S, s, h⟩ := h
  refine ⟨G, B, e, S, s, h.bind fun x1 H1 G1 B1 w1 S1 _ s1 x1' r1 h1 => ?_⟩
  rw [e1] at h1
  split at h1
  · rename_i hi
    unfold insOk at hi
    split at hi
    · rename_i c' ns l hv
      obtain ⟨q1, q2⟩ := ba hi
      have q1 := of_decide_eq_true q1
      subst q1
      obtain ⟨a, dx, vs, e2, g1, g2, g3⟩ := insV_ok s1 r1 hv
      subst e2
      exact ⟨a, dx, _, rfl, g1, call_sound (Wx := W0) (σ := σ) (ws := [w1]) (vs := [.ref a]) s1 ⟨.ref a, [], rfl, r1, rfl⟩ (QG.noX0 h1)⟩
    · cases hi
  · exact h1.elim
/-! ### max with a default -/
theorem maxL_mem : ∀ {l : List Int} {m : Int}, l ≠ [] → m ∈ l → (∀ y ∈ l, y ≤ m) → m = maxL l
  | [], m, h, _, _ => absurd rfl h
  | [a], m, _, h, _ => by
    simp at h
    rw [h]
    rfl
  | a :: b :: l, m, _, h, q => by
    show m = if a < maxL (b :: l) then maxL (b :: l) else a
    have mm : maxL (b :: l) ∈ b :: l := by
      have : ∀ l : List Int, l ≠ [] → maxL l ∈ l := fun l => by
        induction l with
        | nil => intro h; exact absurd rfl h
        | cons a l ih =>
          intro _
          cases l with
          | nil => exact List.mem_cons_self
          | cons b l =>
            show (if a < maxL (b :: l) then maxL (b :: l) else a) ∈ _
            split
            · exact List.mem_cons_of_mem _ (ih (by simp))
            · exact List.mem_cons_self
      exact this _ (by simp)
    have q1 := q a List.mem_cons_self
    have q2 := q _ (List.mem_cons_of_mem _ mm)
    have up : ∀ y ∈ b :: l, y ≤ maxL (b :: l) := by
      have : ∀ l : List Int, ∀ y ∈ l, y ≤ maxL l := fun l => by
        induction l with
        | nil => intro y hy; cases hy
        | cons a l ih =>
          intro y hy
          cases l with
          | nil =>
            simp at hy
            rw [hy]
            exact Int.le_refl _
          | cons b l =>
            show y ≤ if a < maxL (b :: l) then maxL (b :: l) else a
            rcases List.mem_cons.mp hy with rfl | hy
            · split <;> omega
            · have := ih y hy
              split <;> omega
      exact this _
    rcases List.mem_cons.mp h with rfl | h
    · split <;> omega
    · have := up m h
      split <;> omega
theorem mxd_ok {x y : Expr} {p pos kp : Pos} {n : Str} {fa fb : Env' → Sto → R W} (c : Cxt g t L N sc so X) (hh : g.hot = false) (hn : bltName sc n "max" = true) (hs : noStar x = true) (ha : PE X x (RE X Z Wx fa)) (hb : PE X y (RE X Z Wx fb)) :
    PE X (.Call (.Name n p) [x] [⟨some "default", y, kp⟩] pos) (RE X Z Wx fun e S => (fa e S).bind fun x S => (fb e S).bind fun y S => (match (qv S x).bind allInt, y with
      | some [], .d d => ok1 d S
      | some (i :: l), _ => ok1 (.int (maxL (i :: l))) S
      | _, _ => .st)) := by
  obtain ⟨e1, gl, fr⟩ := c.nofree hn (by decide +kernel)
  subst e1
  refine PE.imp (pe_callBK (call_maxd (c.calm hh)) gl fr (by decide +kernel) (pa_cons ha pa_nil (noStar_ok hs)) (pk_cons hb pk_nil) (by decide +kernel) (by decide +kernel) (by rw [noStar_ok hs]; rfl) (by rw [noStar_ok hs]; rfl)) fun σ H Q h => ?_
  obtain ⟨G, B, e, S, s, h⟩ := h
  refine ⟨G, B, e, S, s, h.bind fun x1 H1 G1 B1 w1 S1 _ s1 x1' r1 h1 => ⟨G1, B1, e, S1, s.at s1 x1', h1.bind fun x2 H2 G2 B2 w2 S2 _ s2 x2' r2 h2 => ?_⟩⟩
  show rMaxd X.K [x1] [x2] H2 Q
  replace r1 := RepW.mono x2' r1
  cases hq : (qv S2 w1).bind allInt with
  | none =>
    rw [hq] at h2
    exact h2.elim
  | some ns =>
    rw [hq] at h2
    simp only [Option.bind_eq_some_iff] at hq
    obtain ⟨l, hl, hi⟩ := hq
    obtain ⟨q, us, e3, k1, k3⟩ := qv_ok hl s2 r1
    have e4 := allInt_rep k3 hi
    cases ns with
    | nil =>
      cases w2 with
      | d d => exact ⟨q, [], x2, by rw [e3], rfl, by rw [← e4]; exact k1, fun _ => h2.d1 s2 r2, fun m hm => by cases hm⟩
      | m k => exact h2.elim
    | cons i l' =>
      refine ⟨q, i :: l', x2, by rw [e3], rfl, by rw [← e4]; exact k1, fun z => (by cases z), fun m hm hy => ?_⟩
      rw [maxL_mem (by simp) hm hy]
      exact h2.d1 s2 (by simp only [Rep])
/-! ### the exception in hand -/
theorem look_rep {K : KW} {G : Hp} {f : Str} {d : D} : ∀ {ns : List Str} {l : List D} {vs : List V}, RepL K G l vs → (ns.zip l).lookup f = some d → ∃ v, (ns.zip vs).lookup f = some v ∧ Rep K G d v
  | [], l, vs, _, q => by simp at q
  | n :: ns, [], vs, _, q => by simp at q
  | n :: ns, y :: l, vs, r, q => by
    simp only [RepL] at r
    obtain ⟨v, u, e, r1, r2⟩ := r
    subst e
    rw [List.zip_cons_cons, List.lookup_cons] at q
    rw [List.zip_cons_cons, List.lookup_cons]
    cases z : f == n with
    | true =>
      rw [z] at q
      cases q
      exact ⟨v, rfl, r1⟩
    | false =>
      rw [z] at q
      exact look_rep r2 q
theorem never_ok {x : Expr} {f : Env' → Sto → R W} (h : ∀ e S, f e S = .st) : PE X x (RE X Z Wx f) := ⟨fun pins s σ H Q I q => by
  obtain ⟨G, B, e, S, sm, q⟩ := q
  rw [h] at q
  exact q.elim⟩
theorem xf_ok {i : Nat} {x f : Str} {p pos : Pos} (c : Cxt g t L N sc so X) (tk : Tk g t X Z Wx) (hh : g.hot = true) (hf : f ∈ g.xfs) (hn : nameAt N sc i x = true) : PE X (.Attribute (.Name x p) f pos) (RE X Z Wx fun e S => (match t.xc, e[i]? with
    | some (j, _, ns, l), some (some (.m k)) => if j = k then optR ((ns.zip l).lookup f) S else .st
    | _, _ => .st)) := by
  cases hx : t.xc with
  | none => exact never_ok fun e S => rfl
  | some q =>
    obtain ⟨j, cn, ns, l⟩ := q
    obtain ⟨h1, h2⟩ := ba hn
    obtain ⟨h2, h3⟩ := ba h2
    obtain ⟨n1, n2, _⟩ := okN_ok h3
    obtain ⟨Y, a, oe, d, pn, eX, hz, hfs, hB, ⟨us, hus⟩, rx⟩ := tk.xo hh _ _ _ _ hx
    obtain ⟨XF, XE, nf⟩ := c.tp.xc _ _ hus
    have nf := nf f hf
    have ev : PE X (.Name x p) (tVar i) := pe_var (c.at (of_decide_eq_true h1)) (c.vis h2) n1 n2
    have pe : PE X (.Attribute (.Name x p) f pos) (tXf a (.ref (He.ga X.K cn)) d (He.ga X.K cn) f (tVar i)) := by
      clear c tk rx
      subst eX
      exact pe_xf XF nf hz hfs ev rfl
    refine PE.imp pe fun σ H Q q => ?_
    obtain ⟨G, B, e, S, s, q⟩ := q
    dsimp only at q
    rcases hw : e[i]? with _ | _ | _ | k
    · rw [hw] at q; exact q.elim
    · rw [hw] at q; exact q.elim
    · rw [hw] at q; exact q.elim
    · rw [hw] at q
      dsimp only at q
      split at q
      · rename_i ejk
        subst ejk
        obtain ⟨v, e1, a', b1, b2⟩ := s.s.get hw
        obtain ⟨tl, eB⟩ := s.h.pre
        have b3 : B[j]? = some a := by
          rw [eB]
          exact pre_get hB
        rw [b3] at b1
        cases b1
        obtain ⟨d0, e3, q⟩ := q.opt
        refine ⟨v, e1, b2, rfl, ?_⟩
        obtain ⟨_, rx | ⟨dd, vs, k1, k2, k3, k4⟩⟩ := rx
        · rw [rx.1] at e3
          simp at e3
        · obtain ⟨u, u1, u2⟩ := look_rep k4 e3
          exact ⟨dd, _, u, k1, s.h.gh _ _ (s.h.mono _ _ k2), u1, q.d1 s.h (Rep.mono s.h.mono _ _ u2)⟩
      · exact q.elim
theorem xis_ok {i : Nat} {n x z : Str} {p p1 p2 pos : Pos} (c : Cxt g t L N sc so X) (tk : Tk g t X Z Wx) (hh : g.hot = true) (hi : bltName sc n "isinstance" = true) (hz : z ∈ g.xns) (hg : gloB sc z = true) (hk : okN z = true) (hn : nameAt N sc i x = true) :
    PE X (.Call (.Name n p) [.Name x p1, .Name z p2] [] pos) (RE X Z Wx fun e S => (match t.xc, e[i]? with
    | some (j, c, _, _), some (some (.m k)) => if j = k then (match t.sup.lookup c with
      | some us => ok1 (.bl (us.contains z)) S
      | none => .st) else .st
    | _, _ => .st)) := by
  obtain ⟨e0, gl, fr⟩ := c.nofree hi (by decide +kernel)
  subst e0
  cases hx : t.xc with
  | none => exact never_ok fun e S => rfl
  | some q =>
    obtain ⟨j, cn, ns, l⟩ := q
    obtain ⟨h1, h2⟩ := ba hn
    obtain ⟨h2, h3⟩ := ba h2
    obtain ⟨n1, n2, _⟩ := okN_ok h3
    obtain ⟨Y, a, oe, d, pn, eX, hz', hfs, hB, ⟨us, hus⟩, rx⟩ := tk.xo hh _ _ _ _ hx
    obtain ⟨XF, XE, nf⟩ := c.tp.xc _ _ hus
    obtain ⟨v0, cv, hcv, rcv, ucv, hsub⟩ := c.tp.xn z hz
    obtain ⟨_, hk1⟩ := hsub _ _ hus
    have ev : PE X (.Name x p1) (tVar i) := pe_var (c.at (of_decide_eq_true h1)) (c.vis h2) n1 n2
    have ez : PE X (.Name z p2) (tC v0) := by
      rcases hcv with hm | ⟨hm, hb, hne⟩
      · exact pe_glob (c.gl hg) hm rcv (okN_ok hk).1
      · exact pe_bltn (c.gl hg) hm hb rcv hne (okN_ok hk).1
    have pe : PE X (.Call (.Name "isinstance" p) [.Name x p1, .Name z p2] [] pos) (tCB (rIsX X.K (He.ga X.K cn) a d) (tCons (tVar i) (tCons (tC v0) tNil))) := by
      clear c tk rx
      subst eX
      exact pe_callB (id := "isinstance") (call_isX XE hz' hfs) gl fr (by decide +kernel) (pa_cons ev (pa_cons ez pa_nil)) (by decide +kernel) (by decide +kernel)
    refine PE.imp pe fun σ H Q q => ?_
    obtain ⟨G, B, e, S, s, q⟩ := q
    dsimp only at q
    rcases hw : e[i]? with _ | _ | _ | k
    · rw [hw] at q; exact q.elim
    · rw [hw] at q; exact q.elim
    · rw [hw] at q; exact q.elim
    · rw [hw] at q
      dsimp only at q
      split at q
      · rename_i ejk
        subst ejk
        rw [hus] at q
        obtain ⟨v, e1, a', b1, b2⟩ := s.s.get hw
        obtain ⟨tl, eB⟩ := s.h.pre
        have b3 : B[j]? = some a := by
          rw [eB]
          exact pre_get hB
        rw [b3] at b1
        cases b1
        refine ⟨v, e1, ?_⟩
        show rIsX X.K (He.ga X.K cn) a d [v, v0] H Q
        refine ⟨v0, cv, _, by rw [b2], ucv, ?_, hk1, q.d1 s.h (by simp only [Rep])⟩
        obtain ⟨_, rx | ⟨dd, vs, k1, k2, k3, k4⟩⟩ := rx
        · exact .inl rx.2.2
        · exact .inr ⟨dd, _, k1, s.h.gh _ _ (s.h.mono _ _ k2)⟩
      · exact q.elim
/-! ### range with a step -/
theorem it_rng3 {K : KW} {G1 : Hp} {lo c : Int} {n : Nat} : ItOk K (Itc lo c n) G1 (rngL3 lo c n) := by
  intro Z G H B S sb s
  have hl : (rngL3 lo c n).length = n := by
    unfold rngL3
    rw [List.length_map, List.length_range]
  refine ⟨by show n ≤ (rngL3 lo c n).length; omega, fun i w hw => ?_⟩
  have hi : i < n := by rw [← hl]; exact (List.getElem?_eq_some_iff.mp hw).1
  unfold rngL3 at hw
  rw [List.getElem?_map, List.getElem?_range hi] at hw
  cases hw
  refine ⟨hi, fun x H' y => ?_⟩
  obtain ⟨e, y⟩ := y
  subst e y
  exact ⟨G, s, Ext.refl G B, by simp only [RepW, Rep]⟩
theorem rng3_ok {tg x y z : Expr} {p pos : Pos} {n : Str} {fa fb fc : Env' → Sto → R W} (c : Cxt g t L N sc so X) (hn : bltName sc n "range" = true) (h1 : noStar x = true) (h2 : noStar y = true) (h3 : noStar z = true) (ha : PE X x (RE X Z Wx fa)) (hb : PE X y (RE X Z Wx fb)) (hc : PE X z (RE X Z Wx fc)) :
    PI X tg (.Call (.Name n p) [x, y, z] [] pos) (RI X Z Wx fun e S => (fa e S).bind fun x S => (fb e S).bind fun y S => (fc e S).bind fun z S => (match x, y, z with
    | .d (.int i), .d (.int j), .d (.int c) => (match rngN i j c with
      | some n => .ok (rngL3 i c n) S
      | none => .st)
    | _, _, _ => .st)) := by
  obtain ⟨e1, gl, fr⟩ := c.nofree hn (by decide +kernel)
  subst e1
  refine PI.imp (pi_range3 gl fr (pa_cons ha (pa_cons hb (pa_cons hc pa_nil (noStar_ok h3)) (noStar_ok h2)) (noStar_ok h1)) (noStar_ok h1) (by rw [noStar_ok h2, noStar_ok h3]; rfl)) fun σ H R h => ?_
  obtain ⟨G, B, e, S, s, h⟩ := h
  refine ⟨G, B, e, S, s, h.bind fun x1 H1 G1 B1 w1 S1 _ s1 x1' r1 k1 => ⟨G1, B1, e, S1, s.at s1 x1', k1.bind fun x2 H2 G2 B2 w2 S2 _ s2 x2' r2 k2 => ⟨G2, B2, e, S2, (s.at s1 x1').at s2 x2', k2.bind fun x3 H3 G3 B3 w3 S3 _ s3 x3' r3 k3 => ?_⟩⟩⟩
  replace r1 := RepW.mono (x2'.trans x3') r1
  replace r2 := RepW.mono x3' r2
  show ∃ (i j c : Int) (n : Nat), [x1, x2, x3] = [.int i, .int j, .int c] ∧ RgC i j c n ∧ R (Itc i c n) H3
  split at k3
  · split at k3
    · rename_i hn
      simp only [rV, RepW, Rep] at r1 r2 r3
      unfold rngN at hn
      split at hn
      · rename_i q
        obtain ⟨q1, q2, q3, q4, q5⟩ := q
        cases hn
        exact ⟨_, _, _, _, by rw [r1, r2, r3], ⟨q1, q2, q3, by omega⟩, k3.here s3 it_rng3⟩
      · cases hn
    · exact k3.elim
  · exact k3.elim
/-! ### o[j] op= e -/
def rGetI (K : PySem.W.Frag) : V → V → Hp → VK → Prop := fun o i H Q => ∃ p xs k j v, o = .ref p ∧ i = .int k ∧ H p = some (.lst xs) ∧ ixN xs.length k = some j ∧ xs[j]? = some v ∧ Q v H
theorem get_lst {X : Cx} : PGet X (rGetI X.K) := by
  intro pins s σ H o i ov iv Q I ro ri h
  obtain ⟨p, xs, k, j, v, rfl, rfl, hp, hj, hv, q⟩ := h
  cases ro
  obtain ⟨t, rfl⟩ := ri
  obtain ⟨its, r, pl, hz⟩ := I.list (xs := xs) (a := p) (.inl (.inl hp))
  obtain ⟨h1, h2, h3, h4⟩ := ixN_seq hj
  obtain ⟨w, ew, rw'⟩ := r.get hv
  have hl := r.length
  have hn := line63
  have fin : EP X pins σ Q w s := ⟨v, H, I, rw', q⟩
  by_cases h0 : 0 ≤ k
  · have hjj : k.toNat = j := by
      rw [seqIndex_of h0 h4] at h1
      exact Option.some.inj h1
    exact wpAny_getItem_list pl.isList h0 (by omega) (by rw [hjj]; simpa using ew) fin
  · have hjj : (k + (its.toArray.size : Int)).toNat = j := by
      rw [seqIndex_neg (by omega) h3] at h1
      rw [List.size_toArray, ← hl]
      exact Option.some.inj h1
    exact wpAny_getItem_list_neg pl.isList (by omega) (by rw [List.size_toArray] <;> omega) (by omega) (by rw [hjj]; simpa using ew) fin
end
end En

namespace En
open PySem PySem.Spec PyProof.Rows L2
section
variable {g : Gs} {t : Tb} {L : Nat} {N : List Str}
theorem units_ok {sc so : Scope} {X : Cx} (c : Cxt g t L N sc so X) : X.A.units + 64 < cLine := c.units
theorem pts_of {u : T} {es : List Expr} {sc : Scope} {X : Cx} {Z : Ent} {Wx : WX} (h : chkTs g N sc u es = true) (k : ∀ x, chkT g N sc u x = true → PT X x (RT X Z Wx (evT t u))) : PTs X es (RT X Z Wx (evT t u)) := by
  rcases es with _ | ⟨x, _ | ⟨y, es⟩⟩
  · cases u <;> first
      | exact yes_ok
      | (cases (show false = true from h))
  · exact pts_one (k x h)
  · cases (show false = true from h)
mutual
theorem sE : ∀ (u : E) (x : Expr) (sc so : Scope) (X : Cx) (Z : Ent) (Wx : WX), chkE g N sc u x = true → Cxt g t L N sc so X → Tk g t X Z Wx → PE X x (RE X Z Wx (evE t u))
  | .var i, x, sc, so, X, Z, Wx, h, c, tk => by
    cases x <;> first
      | (unfold chkE at h; simp at h; done)
      | (simp only [chkE] at h
         exact var_ok c h)
  | .frz i, x, sc, so, X, Z, Wx, h, c, tk => by
    cases x <;> first
      | (unfold chkE at h; simp at h; done)
      | (simp only [chkE] at h
         exact frz_ok c h)
  | .int i, x, sc, so, X, Z, Wx, h, c, tk => by
    cases x <;> first
      | (unfold chkE at h; simp at h; done)
      | (rename_i v k p
         cases v <;> first
           | (unfold chkE at h; simp at h; done)
           | (simp only [chkE] at h
              have e := of_decide_eq_true h
              subst e
              exact cst_ok pe_int fun K G => by simp only [Rep]))
  | .str i, x, sc, so, X, Z, Wx, h, c, tk => by
    cases x <;> first
      | (unfold chkE at h; simp at h; done)
      | (rename_i v k p
         cases v <;> first
           | (unfold chkE at h; simp at h; done)
           | (simp only [chkE] at h
              have e := of_decide_eq_true h
              subst e
              exact cst_ok pe_str fun K G => by simp only [Rep]))
  | .bl i, x, sc, so, X, Z, Wx, h, c, tk => by
    cases x <;> first
      | (unfold chkE at h; simp at h; done)
      | (rename_i v k p
         cases v <;> first
           | (unfold chkE at h; simp at h; done)
           | (simp only [chkE] at h
              have e := beq_iff_eq.mp h
              subst e
              exact cst_ok pe_bl fun K G => by simp only [Rep]))
  | .non, x, sc, so, X, Z, Wx, h, c, tk => by
    cases x <;> first
      | (unfold chkE at h; simp at h; done)
      | (rename_i v k p
         cases v <;> first
           | (unfold chkE at h; simp at h; done)
           | exact cst_ok pe_non fun K G => by simp only [Rep])
  | .glo n, x, sc, so, X, Z, Wx, h, c, tk => by
    cases x <;> first
      | (unfold chkE at h; simp at h; done)
      | (simp only [chkE] at h
         obtain ⟨h1, h2⟩ := ba h
         obtain ⟨h2, h3⟩ := ba h2
         exact glo_ok c (of_decide_eq_true h1) h2 h3)
  | .op z o a b, x, sc, so, X, Z, Wx, h, c, tk => by
    cases x <;> first
      | (unfold chkE at h; simp at h; done)
      | (simp only [chkE] at h
         obtain ⟨h1, h2⟩ := ba h
         obtain ⟨h2, h3⟩ := ba h2
         have e := of_decide_eq_true h1
         rw [← e]
         exact op_ok (sE a _ sc so X Z Wx h2 c tk) (sE b _ sc so X Z Wx h3 c tk))
  | .neg a, x, sc, so, X, Z, Wx, h, c, tk => by
    cases x <;> first
      | (unfold chkE at h; simp at h; done)
      | (rename_i o y p
         cases o <;> first
           | (unfold chkE at h; simp at h; done)
           | (simp only [chkE] at h
              exact neg_ok (sE a _ sc so X Z Wx h c tk)))
  | .cmp o a b, x, sc, so, X, Z, Wx, h, c, tk => by
    cases x <;> first
      | (unfold chkE at h; simp at h; done)
      | (rename_i y ops ys p
         rcases ops with _ | ⟨p1, _ | ⟨p2, ops⟩⟩ <;> rcases ys with _ | ⟨y1, _ | ⟨y2, ys⟩⟩ <;> first
           | (unfold chkE at h; simp at h; done)
           | (simp only [chkE] at h
              obtain ⟨h1, h2⟩ := ba h
              obtain ⟨h2, h3⟩ := ba h2
              obtain ⟨h3, h4⟩ := ba h3
              have e := of_decide_eq_true h1
              rw [← e]
              exact cmp_ok (units_ok c) h2 (sE a _ sc so X Z Wx h3 c tk) (sE b _ sc so X Z Wx h4 c tk)))
  | .chn o o' a b d, x, sc, so, X, Z, Wx, h, c, tk => by
    cases x <;> first
      | (unfold chkE at h; simp at h; done)
      | (rename_i y ops ys p
         rcases ops with _ | ⟨p1, _ | ⟨p2, _ | ⟨p3, ops⟩⟩⟩ <;> rcases ys with _ | ⟨y1, _ | ⟨y2, _ | ⟨y3, ys⟩⟩⟩ <;> first
           | (unfold chkE at h; simp at h; done)
           | (simp only [chkE] at h
              obtain ⟨h1, h2⟩ := ba h
              obtain ⟨h1, h1'⟩ := ba h1
              obtain ⟨h2, h3⟩ := ba h2
              obtain ⟨h3, h4⟩ := ba h3
              obtain ⟨h4, h5⟩ := ba h4
              have e := of_decide_eq_true h1
              have e' := of_decide_eq_true h1'
              rw [← e, ← e']
              exact chn_ok (units_ok c) h2 (sE a _ sc so X Z Wx h3 c tk) (sE b _ sc so X Z Wx h4 c tk) (sE d _ sc so X Z Wx h5 c tk)))
  | .and l, x, sc, so, X, Z, Wx, h, c, tk => by
    cases x <;> first
      | (unfold chkE at h; simp at h; done)
      | (rename_i o es p
         cases o <;> first
           | (unfold chkE at h; simp at h; done)
           | (simp only [chkE] at h
              exact sAnd l _ sc so X Z Wx _ h c tk))
  | .or l, x, sc, so, X, Z, Wx, h, c, tk => by
    cases x <;> first
      | (unfold chkE at h; simp at h; done)
      | (rename_i o es p
         cases o <;> first
           | (unfold chkE at h; simp at h; done)
           | (simp only [chkE] at h
              exact sOr l _ sc so X Z Wx _ h c tk))
  | .not a, x, sc, so, X, Z, Wx, h, c, tk => by
    cases x <;> first
      | (unfold chkE at h; simp at h; done)
      | (rename_i o y p
         cases o <;> first
           | (unfold chkE at h; simp at h; done)
           | (simp only [chkE] at h
              exact not_ok (sE a _ sc so X Z Wx h c tk)))
  | .ite q a b, x, sc, so, X, Z, Wx, h, c, tk => by
    cases x <;> first
      | (unfold chkE at h; simp at h; done)
      | (simp only [chkE] at h
         obtain ⟨h1, h2⟩ := ba h
         obtain ⟨h2, h3⟩ := ba h2
         exact ite_ok (sT q _ sc so X Z Wx h1 c tk) (sE a _ sc so X Z Wx h2 c tk) (sE b _ sc so X Z Wx h3 c tk))
  | .tup l, x, sc, so, X, Z, Wx, h, c, tk => by
    cases x <;> first
      | (unfold chkE at h; simp at h; done)
      | (simp only [chkE] at h
         exact tup_ok (sA l _ sc so X Z Wx h c tk))
  | .lst z l, x, sc, so, X, Z, Wx, h, c, tk => by
    cases x <;> first
      | (unfold chkE at h; simp at h; done)
      | (simp only [chkE] at h
         exact lst_ok (sA l _ sc so X Z Wx h c tk))
  | .ix a b, x, sc, so, X, Z, Wx, h, c, tk => by
    cases x <;> first
      | (unfold chkE at h; simp at h; done)
      | (simp only [chkE] at h
         obtain ⟨h1, h2⟩ := ba h
         obtain ⟨h2, h3⟩ := ba h2
         exact ix_ok h1 (sE a _ sc so X Z Wx h2 c tk) (sE b _ sc so X Z Wx h3 c tk))
  | .sl z a lo hi, x, sc, so, X, Z, Wx, h, c, tk => by
    cases x <;> first
      | (unfold chkE at h; simp at h; done)
      | (rename_i y s p
         cases s <;> first
           | (unfold chkE at h; simp at h; done)
           | (rename_i l u st p2
              cases st <;> first
                | (unfold chkE at h; simp at h; done)
                | (simp only [chkE] at h
                   obtain ⟨h1, h2⟩ := ba h
                   obtain ⟨h2, h3⟩ := ba h2
                   exact sl_ok (sE a _ sc so X Z Wx h1 c tk) (sO lo _ sc so X Z Wx h2 c tk) (sO hi _ sc so X Z Wx h3 c tk))))
  | .call n l ps, x, sc, so, X, Z, Wx, h, c, tk => by
    cases x <;> first
      | (unfold chkE at h; simp at h; done)
      | (rename_i f es kws p
         cases f <;> first
           | (unfold chkE at h; simp at h; done)
           | (cases kws <;> first
                | (unfold chkE at h; simp at h; done)
                | (rename_i nm np
                   simp only [chkE] at h
                   obtain ⟨hh, h⟩ := ba h
                   replace hh := cold_of hh
                   obtain ⟨h1, k2⟩ := ba h
                   obtain ⟨h2, k3⟩ := ba k2
                   obtain ⟨h3, h4⟩ := ba k3
                   clear k2 k3 h
                   cases hc : g.calls[n]? with
                   | none =>
                     rw [hc] at h1
                     cases h1
                   | some cI =>
                     rw [hc] at h1
                     obtain ⟨h5, h6⟩ := ba h1
                     have e1 := of_decide_eq_true h5
                     have e2 := of_decide_eq_true h6
                     subst e1
                     cases es with
                     | nil =>
                       cases l with
                       | nil =>
                         have q := call0_ok (p := np) (pos := p) (Z := Z) (ps := ps) c hh tk.tk hc e2.symm h2 h3
                         exact q
                       | cons a l => (unfold chkA at h4; simp at h4)
                     | cons y es =>
                       exact call_ok c hh tk.tk hc e2 h2 h3 (chkA_star h4) (fun e S ws S' q => evA_len h4 e S ws S' q) (sA l _ sc so X Z Wx h4 c tk))))
  | .bi z f l, x, sc, so, X, Z, Wx, h, c, tk => by
    cases x <;> first
      | (unfold chkE at h; simp at h; done)
      | (rename_i fe es kws p
         cases fe <;> first
           | (unfold chkE at h; simp at h; done)
           | (cases kws <;> first
                | (unfold chkE at h; simp at h; done)
                | (simp only [chkE] at h
                   obtain ⟨hh, h⟩ := ba h
                   obtain ⟨h1, h2⟩ := ba h
                   obtain ⟨h2, h3⟩ := ba h2
                   cases es with
                   | nil => simp at h2
                   | cons y es => exact bi_ok c hh h1 (chkA_star h3) (sA l _ sc so X Z Wx h3 c tk))))
  | .isi a ty, x, sc, so, X, Z, Wx, h, c, tk => by
    cases x <;> first
      | (unfold chkE at h; simp at h; done)
      | (rename_i fe es kws p
         cases fe <;> first
           | (unfold chkE at h; simp at h; done)
           | (cases kws <;> first
                | (unfold chkE at h; simp at h; done)
                | (rcases es with _ | ⟨y, _ | ⟨w, _ | ⟨w2, es⟩⟩⟩ <;> first
                     | (unfold chkE at h; simp at h; done)
                     | (cases w <;> first
                          | (unfold chkE at h; simp at h; done)
                          | (simp only [chkE] at h
                             obtain ⟨h1, h2⟩ := ba h
                             obtain ⟨h2, h3⟩ := ba h2
                             obtain ⟨h2, h2'⟩ := ba h2
                             obtain ⟨h3, h4⟩ := ba h3
                             exact isi_ok c h1 h2 h2' h3 (sE a _ sc so X Z Wx h4 c tk))))))
  | .me z m o l, x, sc, so, X, Z, Wx, h, c, tk => by
    cases x <;> first
      | (unfold chkE at h; simp at h; done)
      | (rename_i fe es kws p
         cases fe <;> first
           | (unfold chkE at h; simp at h; done)
           | (cases kws <;> first
                | (unfold chkE at h; simp at h; done)
                | (simp only [chkE] at h
                   obtain ⟨h1, k2⟩ := ba h
                   obtain ⟨k2, k3⟩ := ba k2
                   obtain ⟨h2, h2'⟩ := ba k2
                   obtain ⟨k3, k4⟩ := ba k3
                   obtain ⟨h3, h3'⟩ := ba k3
                   obtain ⟨h4, h5⟩ := ba k4
                   have e := of_decide_eq_true h1
                   clear h k2 k3 k4
                   subst e
                   cases es with
                   | nil => simp at h3
                   | cons y es => exact me_ok h2 h2' (chkA_star h5) (of_decide_eq_true h3') (sE o _ sc so X Z Wx h4 c tk) (sA l _ sc so X Z Wx h5 c tk))))
  | .lc z own tg s tt e, x, sc, so, X, Z, Wx, h, c, tk => by
    cases x <;> first
      | (unfold chkE at h; simp at h; done)
      | (rename_i y gens cs p
         rcases gens with _ | ⟨⟨w, it, ifs, n⟩, _ | ⟨g2, gens⟩⟩ <;> first
           | (unfold chkE at h; simp at h; done)
           | (simp only [chkE] at h
              obtain ⟨hh, h⟩ := ba h
              replace hh := cold_of hh
              obtain ⟨h0, h9⟩ := ba h
              clear h
              have h7 := of_decide_eq_true h0
              clear h0
              subst h7
              obtain ⟨h1, h2⟩ := ba h9
              obtain ⟨h1, h1'⟩ := ba h1
              obtain ⟨h2, h3⟩ := ba h2
              obtain ⟨h2, h2'⟩ := ba h2
              obtain ⟨h3, h4⟩ := ba h3
              obtain ⟨h4, h5⟩ := ba h4
              exact lc_ok c hh h1 h1' h2 (sSc s _ _ sc so X Z Wx h2' c tk) (fun X' c' Z' => sG tg _ _ _ X' Z' h3 c') (fun X' c' Z' tk' => pts_of h4 fun x hx => sT tt x _ _ X' Z' W0 hx c' ⟨tk', XOk.cold hh⟩) (fun X' c' Z' tk' => sE e _ _ _ X' Z' W0 h5 c' ⟨tk', XOk.cold hh⟩)))
  | .fld cn f a, x, sc, so, X, Z, Wx, h, c, tk => by
    cases x <;> first
      | (unfold chkE at h; simp at h; done)
      | (simp only [chkE] at h
         obtain ⟨h1, h2⟩ := ba h
         obtain ⟨h1, h1'⟩ := ba h1
         obtain ⟨h2, h3⟩ := ba h2
         have e := of_decide_eq_true h1
         subst e
         exact fld_ok c (of_decide_eq_true h1') h2 (sE a _ sc so X Z Wx h3 c tk))
  | .kc q l k ps, x, sc, so, X, Z, Wx, h, c, tk => by
    cases x <;> first
      | (unfold chkE at h; simp at h; done)
      | (rename_i f es kws p
         cases f <;> first
           | (unfold chkE at h; simp at h; done)
           | (rename_i nm np
              simp only [chkE] at h
              obtain ⟨hh, h⟩ := ba h
              replace hh := cold_of hh
              obtain ⟨h1, k2⟩ := ba h
              obtain ⟨h2, k3⟩ := ba k2
              obtain ⟨h3, h4⟩ := ba k3
              clear k2 k3 h
              cases hc : g.kcs[q]? with
              | none =>
                rw [hc] at h1
                cases h1
              | some cI =>
                rw [hc] at h1
                obtain ⟨h5, h6⟩ := ba h1
                obtain ⟨h7, h8⟩ := ba h5
                have e1 := of_decide_eq_true h7
                have e2 := of_decide_eq_true h8
                subst e1
                exact kc_ok c hh tk.tk hc e2 h6 h2 h3 (chkA_star h4) (fun e S ws S' q => evA_len h4 e S ws S' q) (fun e S ws S' q => evK_len h6 e S ws S' q) (sA l _ sc so X Z Wx h4 c tk) (fun e => evA_nil (e ▸ h4)) (sK k _ _ sc so X Z Wx h6 c tk)))
  | .mth q cn m o l k ps, x, sc, so, X, Z, Wx, h, c, tk => by
    cases x <;> first
      | (unfold chkE at h; simp at h; done)
      | (rename_i f es kws p
         cases f <;> first
           | (unfold chkE at h; simp at h; done)
           | (simp only [chkE] at h
              obtain ⟨hh, h⟩ := ba h
              replace hh := cold_of hh
              obtain ⟨h1, k2⟩ := ba h
              obtain ⟨k3, k4⟩ := ba k2
              obtain ⟨h2, h3⟩ := ba k3
              obtain ⟨h4, k5⟩ := ba k4
              obtain ⟨h5, h6⟩ := ba k5
              clear k2 k3 k4 k5 h
              cases hc : g.mts[q]? with
              | none =>
                rw [hc] at h1
                cases h1
              | some cI =>
                rw [hc] at h1
                obtain ⟨h7, h8⟩ := ba h1
                obtain ⟨h9, h10⟩ := ba h7
                obtain ⟨h11, h12⟩ := ba h9
                obtain ⟨h13, h14⟩ := ba h12
                have e1 := of_decide_eq_true h11
                have e2 := of_decide_eq_true h13
                have e3 := of_decide_eq_true h14
                subst e1 e2 e3
                exact mth_ok c hh tk.tk hc (of_decide_eq_true h10) h8 h2 h3 (of_decide_eq_true h4) (chkA_star h6) (fun e S ws S' q => evA_len h6 e S ws S' q) (fun e S ws S' q => evK_len h8 e S ws S' q) (sE o _ sc so X Z Wx h5 c tk) (sA l _ sc so X Z Wx h6 c tk) (fun e => evA_nil (e ▸ h6)) (sK k _ _ sc so X Z Wx h8 c tk)))
  | .mk q cn l k, x, sc, so, X, Z, Wx, h, c, tk => by
    cases x <;> first
      | (unfold chkE at h; simp at h; done)
      | (rename_i f es kws p
         cases f <;> first
           | (unfold chkE at h; simp at h; done)
           | (rename_i nm np
              simp only [chkE] at h
              obtain ⟨hh, h⟩ := ba h
              replace hh := cold_of hh
              obtain ⟨h1, k2⟩ := ba h
              obtain ⟨h2, k3⟩ := ba k2
              obtain ⟨h3, h4⟩ := ba k3
              clear k2 k3 h
              cases hc : g.nws[q]? with
              | none =>
                rw [hc] at h1
                cases h1
              | some cI =>
                rw [hc] at h1
                obtain ⟨h5, h6⟩ := ba h1
                obtain ⟨h7, h8⟩ := ba h5
                obtain ⟨h9, h10⟩ := ba h8
                have e1 := of_decide_eq_true h7
                have e2 := of_decide_eq_true h9
                subst e2
                subst e1
                exact mk_ok c hh tk.tk hc (of_decide_eq_true h10) h6 h2 h3 (chkA_star h4) (fun e S ws S' q => evA_len h4 e S ws S' q) (fun e S ws S' q => evK_len h6 e S ws S' q) (sA l _ sc so X Z Wx h4 c tk) (fun e => evA_nil (e ▸ h4)) (sK k _ _ sc so X Z Wx h6 c tk)))
  | .me0 z m o, x, sc, so, X, Z, Wx, h, c, tk => by
    cases x <;> first
      | (unfold chkE at h; simp at h; done)
      | (rename_i fe es kws p
         cases fe <;> first
           | (unfold chkE at h; simp at h; done)
           | (cases kws <;> first
                | (unfold chkE at h; simp at h; done)
                | (cases es <;> first
                     | (unfold chkE at h; simp at h; done)
                     | (simp only [chkE] at h
                        obtain ⟨h1, h2⟩ := ba h
                        obtain ⟨h2, h3⟩ := ba h2
                        obtain ⟨h2, h2'⟩ := ba h2
                        have e := of_decide_eq_true h1
                        subst e
                        exact me0_ok h2 h2' (sE o _ sc so X Z Wx h3 c tk)))))
  | .fst l, x, sc, so, X, Z, Wx, h, c, tk => by
    cases x <;> first
      | (unfold chkE at h; simp at h; done)
      | (rename_i es p
         simp only [chkE] at h
         obtain ⟨h1, h2⟩ := ba h
         obtain ⟨ts, pj, rd⟩ := sJ l es sc so X Z Wx h2 c tk
         rcases es with _ | ⟨x, _ | ⟨y, es⟩⟩
         · cases h1
         · cases h1
         · exact PE.imp (pe_joined pj) fun σ H Q q => rd Str.empty σ H Q q)
  | .fmt a, x, sc, so, X, Z, Wx, h, c, tk => by
    cases x <;> first
      | (unfold chkE at h; simp at h; done)
      | (rename_i y cv sp p
         cases sp <;> first
           | (unfold chkE at h; simp at h; done)
           | (simp only [chkE] at h
              obtain ⟨h1, h2⟩ := ba h
              have e := of_decide_eq_true h1
              subst e
              exact fmt_ok (sE a _ sc so X Z Wx h2 c tk)))
  | .gcd a b, x, sc, so, X, Z, Wx, h, c, tk => by
    cases x <;> first
      | (unfold chkE at h; simp at h; done)
      | (rename_i f es kws p
         cases f <;> first
           | (unfold chkE at h; simp at h; done)
           | (cases kws <;> first
                | (unfold chkE at h; simp at h; done)
                | (rcases es with _ | ⟨x1, _ | ⟨x2, _ | ⟨x3, es⟩⟩⟩ <;> first
                     | (unfold chkE at h; simp at h; done)
                     | (simp only [chkE] at h
                        obtain ⟨h1, h2⟩ := ba h
                        obtain ⟨g1, h1'⟩ := ba h1
                        obtain ⟨h2, h3⟩ := ba h2
                        obtain ⟨h3, h4⟩ := ba h3
                        obtain ⟨h3, h3'⟩ := ba h3
                        obtain ⟨h4, h5⟩ := ba h4
                        have e := of_decide_eq_true h1'
                        subst e
                        exact gcd_ok c g1 h2 h3 h3' (sE a _ sc so X Z Wx h4 c tk) (sE b _ sc so X Z Wx h5 c tk)))))
  | .prop q cn f a, x, sc, so, X, Z, Wx, h, c, tk => by
    cases x <;> first
      | (unfold chkE at h; simp at h; done)
      | (simp only [chkE] at h
         obtain ⟨hh, h⟩ := ba h
         obtain ⟨h1, h2⟩ := ba h
         obtain ⟨h1, h1'⟩ := ba h1
         obtain ⟨h2, h3⟩ := ba h2
         have e := of_decide_eq_true h1
         subst e
         exact prop_ok c (cold_of hh) (of_decide_eq_true h1') h2 (sE a _ sc so X Z Wx h3 c tk))
  | .mxd a b, x, sc, so, X, Z, Wx, h, c, tk => by
    cases x <;> first
      | (unfold chkE at h; simp at h; done)
      | (rename_i f es kws p
         cases f <;> first
           | (unfold chkE at h; simp at h; done)
           | (rcases es with _ | ⟨x1, _ | ⟨x2, es⟩⟩ <;> rcases kws with _ | ⟨⟨nm, v, kp⟩, _ | ⟨k2, kws⟩⟩ <;> first
                | (unfold chkE at h; simp at h; done)
                | (cases nm <;> first
                     | (unfold chkE at h; simp at h; done)
                     | (simp only [chkE] at h
                        obtain ⟨hh, h⟩ := ba h
                        obtain ⟨h1, h2⟩ := ba h
                        obtain ⟨k1, k1'⟩ := ba h1
                        clear h1
                        obtain ⟨h2, h3⟩ := ba h2
                        obtain ⟨h3, h4⟩ := ba h3
                        have e := of_decide_eq_true k1'
                        subst e
                        exact mxd_ok c (cold_of hh) k1 h2 (sE a _ sc so X Z Wx h3 c tk) (sE b _ sc so X Z Wx h4 c tk)))))
  | .xf i f, x, sc, so, X, Z, Wx, h, c, tk => by
    cases x <;> first
      | (unfold chkE at h; simp at h; done)
      | (rename_i o f' p
         cases o <;> first
           | (unfold chkE at h; simp at h; done)
           | (simp only [chkE] at h
              obtain ⟨h1, h2⟩ := ba h
              obtain ⟨k1, k1'⟩ := ba h1
              clear h1
              obtain ⟨h2, h3⟩ := ba h2
              have e := of_decide_eq_true k1'
              subst e
              exact xf_ok c tk k1 (of_decide_eq_true h2) h3))
  | .xis i z, x, sc, so, X, Z, Wx, h, c, tk => by
    cases x <;> first
      | (unfold chkE at h; simp at h; done)
      | (rename_i f es kws p
         cases f <;> first
           | (unfold chkE at h; simp at h; done)
           | (cases kws <;> first
                | (unfold chkE at h; simp at h; done)
                | (rcases es with _ | ⟨x1, _ | ⟨x2, _ | ⟨x3, es⟩⟩⟩ <;> first
                     | (unfold chkE at h; simp at h; done)
                     | (cases x1 <;> cases x2 <;> first
                          | (unfold chkE at h; simp at h; done)
                          | (simp only [chkE] at h
                             obtain ⟨h1, h2⟩ := ba h
                             obtain ⟨h1, h1'⟩ := ba h1
                             obtain ⟨h2, h3⟩ := ba h2
                             obtain ⟨h2, h2'⟩ := ba h2
                             obtain ⟨h3, h4⟩ := ba h3
                             obtain ⟨h4, h5⟩ := ba h4
                             have e := of_decide_eq_true h2
                             subst e
                             exact xis_ok c tk h1 h1' (of_decide_eq_true h2') h3 h4 h5)))))
termination_by structural u => u
theorem sJ : ∀ (u : A) (es : List Expr) (sc so : Scope) (X : Cx) (Z : Ent) (Wx : WX), chkA g N sc u es = true → Cxt g t L N sc so X → Tk g t X Z Wx → ∃ ts, PJ X es ts ∧ ∀ acc σ H Q, RE X Z Wx (evJ t u acc) σ H Q → tJs ts acc σ H fun out H1 => Q (.str out) H1
  | .nil, es, sc, so, X, Z, Wx, h, c, tk => by
    cases es <;> first
      | (unfold chkA at h; simp at h; done)
      | skip
    refine ⟨[], .nil, fun acc σ H Q q => ?_⟩
    obtain ⟨G, B, e, S, s, q⟩ := q
    exact QG.d1 q s.h (by simp only [Rep])
  | .cons a l, es, sc, so, X, Z, Wx, h, c, tk => by
    cases es <;> first
      | (unfold chkA at h; simp at h; done)
      | skip
    simp only [chkA] at h
    obtain ⟨h1, h2⟩ := ba h
    obtain ⟨h2, h3⟩ := ba h2
    obtain ⟨ts, pj, rd⟩ := sJ l _ sc so X Z Wx h3 c tk
    refine ⟨_ :: ts, .cons (sE a _ sc so X Z Wx h2 c tk) pj, fun acc σ H Q q => ?_⟩
    obtain ⟨G, B, e, S, s, q⟩ := q
    refine ⟨G, B, e, S, s, QG.bind q fun x1 H1 G1 B1 w1 S1 eq s1 x1' r1 q1 => ?_⟩
    clear eq
    split at q1
    · rename_i y
      split at q1
      · rename_i hz
        have r1 : Rep (KX X) G1 (.str y) x1 := r1
        simp only [Rep] at r1
        exact ⟨y, r1, hz, rd _ σ H1 Q ⟨G1, B1, e, S1, s.at s1 x1', q1⟩⟩
      · exact q1.elim
    · exact q1.elim
termination_by structural u => u
theorem sK : ∀ (u : A) (ks : List Str) (kws : List Keyword) (sc so : Scope) (X : Cx) (Z : Ent) (Wx : WX), chkK g N sc u ks kws = true → Cxt g t L N sc so X → Tk g t X Z Wx → PK X kws (RA X Z Wx (evA t u))
  | .nil, ks, kws, sc, so, X, Z, Wx, h, c, tk => by
    cases ks <;> cases kws <;> first
      | (unfold chkK at h; simp at h; done)
      | exact knil_ok
  | .cons a l, ks, kws, sc, so, X, Z, Wx, h, c, tk => by
    rcases ks with _ | ⟨x, xs⟩ <;> rcases kws with _ | ⟨⟨nm, v, p⟩, kws⟩ <;> first
      | (unfold chkK at h; simp at h; done)
      | (cases nm <;> first
          | (unfold chkK at h; simp at h; done)
          | (simp only [chkK] at h
             obtain ⟨h1, h2⟩ := ba h
             obtain ⟨h2, h3⟩ := ba h2
             exact kcons_ok (sE a _ sc so X Z Wx h2 c tk) (sK l xs kws sc so X Z Wx h3 c tk)))
termination_by structural u => u
theorem sAnd : ∀ (u : EL) (es : List Expr) (sc so : Scope) (X : Cx) (Z : Ent) (Wx : WX) (p : Pos), chkEL g N sc u es = true → Cxt g t L N sc so X → Tk g t X Z Wx → PE X (.BoolOp .And es p) (RE X Z Wx (evAnd t u))
  | .one a, es, sc, so, X, Z, Wx, p, h, c, tk => by
    rcases es with _ | ⟨x, _ | ⟨y, es⟩⟩ <;> first
      | (unfold chkEL at h; simp at h; done)
      | (simp only [chkEL] at h
         exact pe_one (sE a _ sc so X Z Wx h c tk))
  | .cons a l, es, sc, so, X, Z, Wx, p, h, c, tk => by
    rcases es with _ | ⟨x, _ | ⟨y, es⟩⟩
    · (unfold chkEL at h; simp at h)
    · simp only [chkEL] at h
      obtain ⟨h1, h2⟩ := ba h
      cases l <;> cases (show false = true from h2)
    · simp only [chkEL] at h
      obtain ⟨h1, h2⟩ := ba h
      exact and_ok (sE a _ sc so X Z Wx h1 c tk) (sAnd l _ sc so X Z Wx _ h2 c tk)
termination_by structural u => u
theorem sOr : ∀ (u : EL) (es : List Expr) (sc so : Scope) (X : Cx) (Z : Ent) (Wx : WX) (p : Pos), chkEL g N sc u es = true → Cxt g t L N sc so X → Tk g t X Z Wx → PE X (.BoolOp .Or es p) (RE X Z Wx (evOr t u))
  | .one a, es, sc, so, X, Z, Wx, p, h, c, tk => by
    rcases es with _ | ⟨x, _ | ⟨y, es⟩⟩ <;> first
      | (unfold chkEL at h; simp at h; done)
      | (simp only [chkEL] at h
         exact pe_one (sE a _ sc so X Z Wx h c tk))
  | .cons a l, es, sc, so, X, Z, Wx, p, h, c, tk => by
    rcases es with _ | ⟨x, _ | ⟨y, es⟩⟩
    · (unfold chkEL at h; simp at h)
    · simp only [chkEL] at h
      obtain ⟨h1, h2⟩ := ba h
      cases l <;> cases (show false = true from h2)
    · simp only [chkEL] at h
      obtain ⟨h1, h2⟩ := ba h
      exact or_ok (sE a _ sc so X Z Wx h1 c tk) (sOr l _ sc so X Z Wx _ h2 c tk)
termination_by structural u => u
theorem sA : ∀ (u : A) (es : List Expr) (sc so : Scope) (X : Cx) (Z : Ent) (Wx : WX), chkA g N sc u es = true → Cxt g t L N sc so X → Tk g t X Z Wx → PA X es (RA X Z Wx (evA t u))
  | .nil, es, sc, so, X, Z, Wx, h, c, tk => by
    cases es <;> first
      | (unfold chkA at h; simp at h; done)
      | exact anil_ok
  | .cons a l, es, sc, so, X, Z, Wx, h, c, tk => by
    cases es <;> first
      | (unfold chkA at h; simp at h; done)
      | (simp only [chkA] at h
         obtain ⟨h1, h2⟩ := ba h
         obtain ⟨h2, h3⟩ := ba h2
         exact acons_ok h1 (sE a _ sc so X Z Wx h2 c tk) (sA l _ sc so X Z Wx h3 c tk))
termination_by structural u => u
theorem sO : ∀ (u : O) (x : Option Expr) (sc so : Scope) (X : Cx) (Z : Ent) (Wx : WX), chkO g N sc u x = true → Cxt g t L N sc so X → Tk g t X Z Wx → PO X x (RO X Z Wx (evO t u))
  | .no, x, sc, so, X, Z, Wx, h, c, tk => by
    cases x <;> first
      | (unfold chkO at h; simp at h; done)
      | exact nopart_ok
  | .so a, x, sc, so, X, Z, Wx, h, c, tk => by
    cases x <;> first
      | (unfold chkO at h; simp at h; done)
      | (simp only [chkO] at h
         exact part_ok (sE a _ sc so X Z Wx h c tk))
termination_by structural u => u
theorem sT : ∀ (u : T) (x : Expr) (sc so : Scope) (X : Cx) (Z : Ent) (Wx : WX), chkT g N sc u x = true → Cxt g t L N sc so X → Tk g t X Z Wx → PT X x (RT X Z Wx (evT t u))
  | .yes, x, sc, so, X, Z, Wx, h, c, tk => by cases x <;> (unfold chkT at h; simp at h)
  | .val a, x, sc, so, X, Z, Wx, h, c, tk => by
    simp only [chkT] at h
    obtain ⟨h1, h2⟩ := ba h
    exact val_ok h1 (sE a _ sc so X Z Wx h2 c tk)
  | .tru a, x, sc, so, X, Z, Wx, h, c, tk => by
    simp only [chkT] at h
    obtain ⟨h1, h2⟩ := ba h
    exact tru_ok' h1 (sE a _ sc so X Z Wx h2 c tk)
  | .cmp o a b, x, sc, so, X, Z, Wx, h, c, tk => by
    cases x <;> first
      | (unfold chkT at h; simp at h; done)
      | (rename_i y ops ys p
         rcases ops with _ | ⟨p1, _ | ⟨p2, ops⟩⟩ <;> rcases ys with _ | ⟨y1, _ | ⟨y2, ys⟩⟩ <;> first
           | (unfold chkT at h; simp at h; done)
           | (simp only [chkT] at h
              obtain ⟨h1, h2⟩ := ba h
              obtain ⟨h2, h3⟩ := ba h2
              obtain ⟨h3, h4⟩ := ba h3
              have e := of_decide_eq_true h1
              rw [← e]
              exact cmpT_ok (units_ok c) h2 (sE a _ sc so X Z Wx h3 c tk) (sE b _ sc so X Z Wx h4 c tk)))
  | .chn o o' a b d, x, sc, so, X, Z, Wx, h, c, tk => by
    cases x <;> first
      | (unfold chkT at h; simp at h; done)
      | (rename_i y ops ys p
         rcases ops with _ | ⟨p1, _ | ⟨p2, _ | ⟨p3, ops⟩⟩⟩ <;> rcases ys with _ | ⟨y1, _ | ⟨y2, _ | ⟨y3, ys⟩⟩⟩ <;> first
           | (unfold chkT at h; simp at h; done)
           | (simp only [chkT] at h
              obtain ⟨h1, h2⟩ := ba h
              obtain ⟨h1, h1'⟩ := ba h1
              obtain ⟨h2, h3⟩ := ba h2
              obtain ⟨h3, h4⟩ := ba h3
              obtain ⟨h4, h5⟩ := ba h4
              have e := of_decide_eq_true h1
              have e' := of_decide_eq_true h1'
              rw [← e, ← e']
              exact chnT_ok (units_ok c) h2 (sE a _ sc so X Z Wx h3 c tk) (sE b _ sc so X Z Wx h4 c tk) (sE d _ sc so X Z Wx h5 c tk)))
  | .and l, x, sc, so, X, Z, Wx, h, c, tk => by
    cases x <;> first
      | (unfold chkT at h; simp at h; done)
      | (rename_i o es p
         cases o <;> first
           | (unfold chkT at h; simp at h; done)
           | (simp only [chkT] at h
              exact (sTA l _ sc so X Z Wx _ h c tk).pt))
  | .or l, x, sc, so, X, Z, Wx, h, c, tk => by
    cases x <;> first
      | (unfold chkT at h; simp at h; done)
      | (rename_i o es p
         cases o <;> first
           | (unfold chkT at h; simp at h; done)
           | (simp only [chkT] at h
              exact (sTO l _ sc so X Z Wx _ h c tk).pt))
  | .not a, x, sc, so, X, Z, Wx, h, c, tk => by
    cases x <;> first
      | (unfold chkT at h; simp at h; done)
      | (rename_i o y p
         cases o <;> first
           | (unfold chkT at h; simp at h; done)
           | (simp only [chkT] at h
              exact tnot_ok (sT a _ sc so X Z Wx h c tk)))
termination_by structural u => u
theorem sTA : ∀ (u : TL) (es : List Expr) (sc so : Scope) (X : Cx) (Z : Ent) (Wx : WX) (p : Pos), chkTL g N sc u es = true → Cxt g t L N sc so X → Tk g t X Z Wx → PW X (.BoolOp .And es p) (RT X Z Wx (evTA t u))
  | .one a, es, sc, so, X, Z, Wx, p, h, c, tk => by
    rcases es with _ | ⟨x, _ | ⟨y, es⟩⟩ <;> first
      | (unfold chkTL at h; simp at h; done)
      | (simp only [chkTL] at h
         exact pw_and1 (sT a _ sc so X Z Wx h c tk))
  | .cons a l, es, sc, so, X, Z, Wx, p, h, c, tk => by
    rcases es with _ | ⟨x, _ | ⟨y, es⟩⟩
    · (unfold chkTL at h; simp at h)
    · simp only [chkTL] at h
      obtain ⟨h1, h2⟩ := ba h
      cases l <;> cases (show false = true from h2)
    · simp only [chkTL] at h
      obtain ⟨h1, h2⟩ := ba h
      exact tand_ok (sT a _ sc so X Z Wx h1 c tk) (sTA l _ sc so X Z Wx _ h2 c tk)
termination_by structural u => u
theorem sTO : ∀ (u : TL) (es : List Expr) (sc so : Scope) (X : Cx) (Z : Ent) (Wx : WX) (p : Pos), chkTL g N sc u es = true → Cxt g t L N sc so X → Tk g t X Z Wx → PW X (.BoolOp .Or es p) (RT X Z Wx (evTO t u))
  | .one a, es, sc, so, X, Z, Wx, p, h, c, tk => by
    rcases es with _ | ⟨x, _ | ⟨y, es⟩⟩ <;> first
      | (unfold chkTL at h; simp at h; done)
      | (simp only [chkTL] at h
         exact pw_or1 (sT a _ sc so X Z Wx h c tk))
  | .cons a l, es, sc, so, X, Z, Wx, p, h, c, tk => by
    rcases es with _ | ⟨x, _ | ⟨y, es⟩⟩
    · (unfold chkTL at h; simp at h)
    · simp only [chkTL] at h
      obtain ⟨h1, h2⟩ := ba h
      cases l <;> cases (show false = true from h2)
    · simp only [chkTL] at h
      obtain ⟨h1, h2⟩ := ba h
      exact tor_ok (sT a _ sc so X Z Wx h1 c tk) (sTO l _ sc so X Z Wx _ h2 c tk)
termination_by structural u => u
theorem sSc : ∀ (u : Sc) (x y : Expr) (sc so : Scope) (X : Cx) (Z : Ent) (Wx : WX), chkSc g N sc u x y = true → Cxt g t L N sc so X → Tk g t X Z Wx → PI X y x (RI X Z Wx (evSc t u))
  | .seq a, x, y, sc, so, X, Z, Wx, h, c, tk => by
    simp only [chkSc] at h
    exact seq_ok (sE a _ sc so X Z Wx h c tk)
  | .chars a, x, y, sc, so, X, Z, Wx, h, c, tk => by
    simp only [chkSc] at h
    exact chars_ok (sE a _ sc so X Z Wx h c tk)
  | .rng1 a, x, y, sc, so, X, Z, Wx, h, c, tk => by
    cases x <;> first
      | (unfold chkSc at h; simp at h; done)
      | (rename_i f es kws p
         cases f <;> first
           | (unfold chkSc at h; simp at h; done)
           | (cases kws <;> first
                | (unfold chkSc at h; simp at h; done)
                | (rcases es with _ | ⟨x1, _ | ⟨x2, es⟩⟩ <;> first
                     | (unfold chkSc at h; simp at h; done)
                     | (simp only [chkSc] at h
                        obtain ⟨h1, h2⟩ := ba h
                        obtain ⟨h2, h3⟩ := ba h2
                        exact rng1_ok c h1 h2 (sE a _ sc so X Z Wx h3 c tk)))))
  | .rng2 a b, x, y, sc, so, X, Z, Wx, h, c, tk => by
    cases x <;> first
      | (unfold chkSc at h; simp at h; done)
      | (rename_i f es kws p
         cases f <;> first
           | (unfold chkSc at h; simp at h; done)
           | (cases kws <;> first
                | (unfold chkSc at h; simp at h; done)
                | (rcases es with _ | ⟨x1, _ | ⟨x2, _ | ⟨x3, es⟩⟩⟩ <;> first
                     | (unfold chkSc at h; simp at h; done)
                     | (simp only [chkSc] at h
                        obtain ⟨h1, h2⟩ := ba h
                        obtain ⟨h2, h3⟩ := ba h2
                        obtain ⟨h2, h2'⟩ := ba h2
                        obtain ⟨h3, h4⟩ := ba h3
                        exact rng2_ok c h1 h2 h2' (sE a _ sc so X Z Wx h3 c tk) (sE b _ sc so X Z Wx h4 c tk)))))
  | .rng3 a b d, x, y, sc, so, X, Z, Wx, h, c, tk => by
    cases x <;> first
      | (unfold chkSc at h; simp at h; done)
      | (rename_i f es kws p
         cases f <;> first
           | (unfold chkSc at h; simp at h; done)
           | (cases kws <;> first
                | (unfold chkSc at h; simp at h; done)
                | (rcases es with _ | ⟨x1, _ | ⟨x2, _ | ⟨x3, _ | ⟨x4, es⟩⟩⟩⟩ <;> first
                     | (unfold chkSc at h; simp at h; done)
                     | (simp only [chkSc] at h
                        obtain ⟨h1, h2⟩ := ba h
                        obtain ⟨h2, h3⟩ := ba h2
                        obtain ⟨h2, h2'⟩ := ba h2
                        obtain ⟨h2', h2''⟩ := ba h2'
                        obtain ⟨h3, h4⟩ := ba h3
                        obtain ⟨h4, h5⟩ := ba h4
                        exact rng3_ok c h1 h2 h2' h2'' (sE a _ sc so X Z Wx h3 c tk) (sE b _ sc so X Z Wx h4 c tk) (sE d _ sc so X Z Wx h5 c tk)))))
  | .enm a, x, y, sc, so, X, Z, Wx, h, c, tk => by
    cases x <;> first
      | (unfold chkSc at h; simp at h; done)
      | (rename_i f es kws p
         cases f <;> first
           | (unfold chkSc at h; simp at h; done)
           | (cases kws <;> first
                | (unfold chkSc at h; simp at h; done)
                | (rcases es with _ | ⟨x1, _ | ⟨x2, es⟩⟩ <;> first
                     | (unfold chkSc at h; simp at h; done)
                     | (cases y <;> first
                          | (unfold chkSc at h; simp at h; done)
                          | (simp only [chkSc] at h
                             obtain ⟨h1, h2⟩ := ba h
                             obtain ⟨h2, h3⟩ := ba h2
                             exact enm_ok c h1 h2 (sE a _ sc so X Z Wx h3 c tk))))))
termination_by structural u => u
end
theorem sTs (u : T) (es : List Expr) (sc so : Scope) (X : Cx) (Z : Ent) (Wx : WX) (h : chkTs g N sc u es = true) (c : Cxt g t L N sc so X) (tk : Tk g t X Z Wx) : PTs X es (RT X Z Wx (evT t u)) := pts_of h fun x hx => sT u x sc so X Z Wx hx c tk
end
end En

namespace En
open PySem PySem.Spec PyProof.Rows L2
section
variable {g : Gs} {t : Tb} {L : Nat} {N : List Str} {sc so : Scope} {X : Cx} {Z : Ent} {Wx : WX}
theorem sw_set {v : Expr} {x : Str} {p : Pos} {l : Nat} (c : Cxt g t L N sc so X) (hv : lcOnly v = true) (h : swB sc v x p = false) : swapsWith v (some (.Name x p)) l X.env = pure false := by
  cases v <;> first
    | rfl
    | (cases hv; done)
    | skip
  rename_i e gs cs q
  have hb : X.env.blockKind = .function := by unfold Env.blockKind; rw [c.hsc, c.fk]; rfl
  unfold swapsWith
  simp only [hb, Expr.pos]
  show pure _ = pure false
  congr 1
  unfold swB isLoc at h
  simp only at h
  have e1 : (X.env.kindOf x == some NameKind.local) = (match sc.names.lookup x with | some .local => true | _ => false) := by
    show (X.env.scope.names.lookup x == some NameKind.local) = _
    rw [c.hsc]
    cases sc.names.lookup x with
    | none => rfl
    | some k => cases k <;> rfl
  refine Eq.trans ?_ h
  rw [e1]
  rfl
theorem sw_true' {e : Expr} {gs : List Comprehension} {cs : Scope} {q p : Pos} {x : Str} {l : Nat} (c : Cxt g t L N sc so X) (h : swB sc (.ListComp e gs cs q) x p = true) : sc.names.lookup x = some .local ∧ swapsWith (.ListComp e gs cs q) (some (.Name x p)) l X.env = pure true := by
  unfold swB at h
  simp only at h
  obtain ⟨h1, h3⟩ := ba h
  obtain ⟨h1, h2⟩ := ba h1
  have hl : sc.names.lookup x = some .local := by
    unfold isLoc at h1
    split at h1
    · assumption
    · cases h1
  have h3' : (cs.names.any fun (n, k) => n == x && (k == .local || k == .cell)) = false := by
    simpa using h3
  exact ⟨hl, sw_true (by rw [c.hsc]; exact c.fk) (by rw [c.hsc]; exact hl) h2 h3'⟩
theorem Cxt.locN (c : Cxt g t L N sc so X) {x : Str} (h : locB sc x = true) (hf : sc.names.lookup x = some .local ∨ X.fn x = true) : Loc X.env.scope x ∧ (X.fn x = true ∨ X.env.scope.names.lookup x = some .local) := by
  rw [c.hsc]
  exact ⟨locB_ok h, hf.symm⟩
theorem noComp_sw {e : Expr} {tg : Option Expr} {l : Nat} {env : Env} (h : noComp e = true) : swapsWith e tg l env = pure false := by
  cases e <;> first
    | rfl
    | (cases h; done)
theorem noTup_ss {e : Expr} {ts : List Expr} {env : Env} (h : noTup e = true) : swappedStores ts e env = pure none := by
  unfold swappedStores
  split
  · rename_i a ts' vs hm
    split at hm <;> first
      | (cases h; done)
      | cases hm
  · rfl

/-! ### small statements -/
theorem read_set {i : Nat} {f : Env' → Sto → R W} {D : Ends} {σ : L2.St} {H : Hp} (h : RS X Z Wx (fun e S => (f e S).sr e fun w S => if i < e.length then .nx (e.set i (some w)) S else .st) D σ H) :
    RE X Z Wx f σ H (fun v H1 => D.nx (σ.set i (some v)) H1) := by
  obtain ⟨G, B, e, S, s, h⟩ := h
  refine ⟨G, B, e, S, s, QG.sr s.s h fun v H1 G1 B1 w S1 s1 x1 r1 h1 => ?_⟩
  split at h1
  · exact h1 _ H1 G1 B1 ⟨s1, (s.s.mono x1).set r1⟩ (Sub.refl _)
  · exact h1.elim
theorem set_ok {i : Nat} {x : Str} {v : Expr} {p pos : Pos} {f : Env' → Sto → R W} (c : Cxt g t L N sc so X) (h1 : N[i]? = some x) (hl : Loc X.env.scope x ∧ (X.fn x = true ∨ X.env.scope.names.lookup x = some .local)) (hv : lcOnly v = true) (hs : swB sc v x p = false) (he : PE X v (RE X Z Wx f)) :
    PS X (.Assign [.Name x p] v pos) (RS X Z Wx fun e S => (f e S).sr e fun w S => if i < e.length then .nx (e.set i (some w)) S else .st) := by
  have hN : X.N.Nodup := by rw [c.hN]; exact c.nd
  exact PS.imp (ps_set hN (c.at h1) hl.1 he (sw_set c hv hs) hl.2) fun D σ H h => read_set h
theorem asg_ok {tg : G} {y v : Expr} {pos : Pos} {f : Env' → Sto → R W} (c : Cxt g t L N sc so X) (h1 : noTup y = false) (h2 : noTup v = true) (hg : PG X y (tgR (KX X) Z tg.ts (evG tg))) (he : PE X v (RE X Z Wx f)) :
    PS X (.Assign [y] v pos) (RS X Z Wx fun e S => (f e S).sr e fun w S => (match evG tg w e S with
      | some e1 => .nx e1 S
      | none => .st)) := by
  cases y <;> first
    | (cases h1; done)
    | skip
  rename_i es k p
  have hsw : swapsWithSole [.Tuple es k p] v pos.line X.env = pure false := by
    show swapsWith v (some (.Tuple es k p)) pos.line X.env = pure false
    unfold swapsWith
    split
    · rfl
    · rfl
  refine PS.imp (ps_asg he hg hsw (noTup_ss h2)) fun D σ H h => ?_
  obtain ⟨G, B, e, S, s, h⟩ := h
  refine ⟨G, B, e, S, s, QG.sr s.s h fun v H1 G1 B1 w S1 s1 x1 r1 h1 => ?_⟩
  cases eg : evG tg w e S1 with
  | none =>
    rw [eg] at h1
    exact h1.elim
  | some e1 =>
    rw [eg] at h1
    exact ⟨G1, B1, e, S1, w, e1, s.at s1 x1, r1, eg, fun σ1 sl _ => h1 σ1 H1 G1 B1 ⟨s1, sl⟩ (Sub.refl _)⟩
theorem setIx_ok {x y v : Expr} {p pos : Pos} {fo fj fa : Env' → Sto → R W} (c : Cxt g t L N sc so X) (h1 : noSlice y = true) (h2 : noTup v = true) (h3 : noComp v = true) (ho : PE X x (RE X Z Wx fo)) (hj : PE X y (RE X Z Wx fj)) (ha : PE X v (RE X Z Wx fa)) :
    PS X (.Assign [.Subscript x y p] v pos) (RS X Z Wx fun e S => (fa e S).sr e fun x S => (fo e S).sr e fun l S => (fj e S).sr e fun k S => (match l, k, x with
      | .m q, .d (.int i), .d y => (match S[q]? with
        | some (some (.lst l)) => (match ixN l.length i with
          | some n => .nx e (S.set q (some (.lst (l.set n y))))
          | none => .st)
        | _ => .st)
      | _, _, _ => .st)) := by
  refine PS.imp (ps_asg ha (pg_sub ho hj set_list ?_) (show swapsWithSole [.Subscript x y p] v pos.line X.env = pure false by unfold swapsWithSole; exact noComp_sw h3) (noTup_ss h2)) fun D σ H h => ?_
  · intro v
    cases y <;> first
      | rfl
      | (cases h1; done)
  obtain ⟨G, B, e, S, s, h⟩ := h
  refine ⟨G, B, e, S, s, QG.sr s.s h fun v H1 G1 B1 w1 S1 s1 x1 r1 h1 => ?_⟩
  have sm1 := s.at s1 x1
  refine ⟨G1, B1, e, S1, sm1, QG.sr sm1.s h1 fun o H2 G2 B2 w2 S2 s2 x2 r2 h2 => ?_⟩
  have sm2 := sm1.at s2 x2
  refine ⟨G2, B2, e, S2, sm2, QG.sr sm2.s h2 fun j H3 G3 B3 w3 S3 s3 x3 r3 h3 => ?_⟩
  have sm3 := sm2.at s3 x3
  replace r1 := RepW.mono (x2.trans x3) r1
  replace r2 := RepW.mono x3 r2
  split at h3
  · rename_i q i d
    split at h3
    · rename_i l hl
      split at h3
      · rename_i n hn
        obtain ⟨a, b1, b2⟩ := r2
        obtain ⟨a', e1, e2, e3, e4⟩ := s3.ob _ _ hl
        rw [b1] at e1
        cases e1
        obtain ⟨vs, g1, g2, g3⟩ := e3
        have r3' : Rep (KX X) G3 (.int i) j := r3
        simp only [Rep] at r3'
        refine ⟨a, vs, i, n, b2, r3', g1, by rw [← g3.length]; exact hn, ?_⟩
        have r1' : Rep (KX X) G3 d v := r1
        refine h3 σ _ G3 B3 ⟨s3.set hl b1 ⟨vs.set n v, upd_same, by rw [List.length_set]; exact g2, g3.set r1' n⟩, sm3.s⟩ (Sub.refl _)
      · exact h3.elim
    · exact h3.elim
  · exact h3.elim
theorem ex_ok {x : Expr} {pos : Pos} {f : Env' → Sto → R W} (hc : noComp x = true) (he : PE X x (RE X Z Wx f)) : PS X (.Expr x pos) (RS X Z Wx fun e S => (f e S).sr e fun _ S => .nx e S) := by
  refine PS.imp (ps_expr he (noComp_sw hc)) fun D σ H h => ?_
  obtain ⟨G, B, e, S, s, h⟩ := h
  exact ⟨G, B, e, S, s, QG.sr s.s h fun v H1 G1 B1 w S1 s1 x1 r1 h1 => h1 σ H1 G1 B1 (s.at s1 x1) (Sub.refl _)⟩
theorem ret_ok {x : Expr} {pos : Pos} {f : Env' → Sto → R W} (he : PE X x (RE X Z Wx f)) : PS X (.Return (some x) pos) (RS X Z Wx fun e S => (f e S).sr e fun w S => .rt w S) := by
  refine PS.imp (ps_ret he) fun D σ H h => ?_
  obtain ⟨G, B, e, S, s, h⟩ := h
  exact ⟨G, B, e, S, s, QG.sr s.s h fun v H1 G1 B1 w S1 s1 x1 r1 h1 => h1 v H1 G1 B1 s1 (Sub.refl _) r1⟩
theorem retN_ok {pos : Pos} : PS X (.Return none pos) (RS X Z Wx fun e S => .rt (.d .non) S) := by
  refine PS.imp ps_retN fun D σ H h => ?_
  obtain ⟨G, B, e, S, s, h⟩ := h
  exact h .non H G B s.h (Sub.refl _) (by simp only [RepW, Rep])
theorem nx_ok {st : Stmt} {u : TS} {f : Env' → Sto → SR} (h : PS X st u) (k : ∀ D σ H, RS X Z Wx f D σ H → u D σ H) : PS X st (RS X Z Wx f) := PS.imp h k
theorem brk_ok {pos : Pos} : PS X (.Break pos) (RS X Z Wx fun e S => .bk e S) := PS.imp ps_break fun D σ H ⟨G, B, e, S, s, h⟩ => h σ H G B s (Sub.refl _)
theorem cont_ok {pos : Pos} : PS X (.Continue pos) (RS X Z Wx fun e S => .ct e S) := PS.imp ps_continue fun D σ H ⟨G, B, e, S, s, h⟩ => h σ H G B s (Sub.refl _)
theorem pass_ok {pos : Pos} : PS X (.Pass pos) (RS X Z Wx fun e S => .nx e S) := PS.imp ps_pass fun D σ H ⟨G, B, e, S, s, h⟩ => h σ H G B s (Sub.refl _)
theorem iff_ok {x : Expr} {y z : List Stmt} {pos : Pos} {ft : Env' → Sto → R Bool} {fa fb : Env' → Sto → SR} (ht : PT X x (RT X Z Wx ft)) (ha : PSs X y (RS X Z Wx fa)) (hb : PSs X z (RS X Z Wx fb)) :
    PS X (.If x y z pos) (RS X Z Wx fun e S => (ft e S).sr e fun k S => match k with
      | true => fa e S
      | false => fb e S) := by
  refine PS.imp (ps_if ht ha hb) fun D σ H h => ?_
  obtain ⟨G, B, e, S, s, h⟩ := h
  refine ⟨G, B, e, S, s, QG.sr s.s h fun v H1 G1 B1 w S1 s1 x1 r1 h1 => ?_⟩
  have r1 : v = w := r1
  subst r1
  cases v with
  | true =>
    rw [if_pos rfl]
    exact ⟨G1, B1, e, S1, s.at s1 x1, h1⟩
  | false =>
    rw [if_neg Bool.false_ne_true]
    exact ⟨G1, B1, e, S1, s.at s1 x1, h1⟩
theorem bnil_ok : PSs X [] (RS X Z Wx fun e S => .nx e S) := ⟨fun pins s σ H D I ⟨G, B, e, S, sm, h⟩ => pss_nil.run pins s σ H D I (h σ H G B sm (Sub.refl _))⟩
theorem bcons_ok {st : Stmt} {l : List Stmt} {fa fb : Env' → Sto → SR} (ha : PS X st (RS X Z Wx fa)) (hb : PSs X l (RS X Z Wx fb)) : PSs X (st :: l) (RS X Z Wx fun e S => (fa e S).bind fun e S => fb e S) := by
  refine PSs.imp (pss_cons ha hb) fun D σ H h => ?_
  obtain ⟨G, B, e, S, s, h⟩ := h
  refine ⟨G, B, e, S, s, ?_⟩
  dsimp only at h
  cases ea : fa e S with
  | nx e1 S1 =>
    rw [ea] at h
    intro σ1 H1 G1 B1 s1 x1
    exact ⟨G1, B1, e1, S1, s1, QS.sub x1 h⟩
  | rt w S1 => rw [ea] at h; exact h
  | bk e1 S1 => rw [ea] at h; exact h
  | ct e1 S1 => rw [ea] at h; exact h
  | ex c ns l e1 S1 => rw [ea] at h; exact h
  | st => rw [ea] at h; exact h.elim
theorem nop_ok {l : List Stmt} {ks : List Nat} {fb : Env' → Sto → SR} (hb : PSs X l (RS X Z Wx fb)) : PSs X l (RS X Z Wx fun e S => (SR.nx (kill e ks) S).bind fun e S => fb e S) := by
  refine PSs.imp hb fun D σ H h => ?_
  obtain ⟨G, B, e, S, s, h⟩ := h
  exact ⟨G, B, kill e ks, S, ⟨s.h, s.s.kill⟩, h⟩
theorem dead_ok {st : Stmt} : PS X st (RS X Z Wx fun _ _ => .st) := ⟨fun pins s σ H D I h => by
  obtain ⟨G, B, e, S, sm, h⟩ := h
  exact h.elim⟩
theorem fz_ok {l : List Stmt} {i : Nat} {fb : Env' → Sto → SR} (hb : PSs X l (RS X Z Wx fb)) : PSs X l (RS X Z Wx fun e S => (match e[i]? with
    | some (some (.m j)) => (match S[j]? with
      | some (some (.lst l)) => SR.nx (e.set i (some (.d (.lst l)))) (S.set j none)
      | _ => .st)
    | _ => .st).bind fun e S => fb e S) := ⟨fun pins s σ H D I h => by
  obtain ⟨G, B, e, S, sm, h⟩ := h
  refine hb.run pins s σ H D I ?_
  dsimp only at h
  split at h
  · rename_i j hw
    split at h
    · rename_i ls hl
      obtain ⟨v, e1, r⟩ := sm.s.get hw
      obtain ⟨a, vs, ev, h4, h5, h6⟩ := lv_ok (l := ls) sm.h r (by simp only [lv, hl])
      obtain ⟨b, hb', eb⟩ := r
      have ab : a = b := by
        rw [ev] at eb
        cases eb
        rfl
      subst ab
      obtain ⟨s2, x2⟩ := sm.h.rest hl hb' h4
      have r2 : RepW (KX X) (upd G a (.lst vs)) B (.d (.lst ls)) v := by
        show Rep (KX X) _ (.lst ls) v
        simp only [Rep]
        exact ⟨a, vs, ev, upd_same, h5, RepL.mono x2.sub _ _ h6⟩
      have sl := (sm.s.mono x2).set (i := i) r2
      have e2 : σ.set i (some v) = σ := by
        refine List.ext_getElem? fun k => ?_
        by_cases hk : k = i
        · subst hk
          have lt : k < σ.length := (List.getElem?_eq_some_iff.mp e1).1
          rw [List.getElem?_set_self lt, e1]
        · rw [List.getElem?_set_ne (Ne.symm hk)]
      rw [e2] at sl
      exact ⟨_, _, _, _, ⟨s2, sl⟩, QS.sub x2.sub h⟩
    · exact h.elim
  · exact h.elim⟩
theorem put_zip {f : Str} {y : W} {v : V} {K : KW} {G : Hp} {B : List Addr} : ∀ {ns : List Str} {l : List W} {vs : List V}, ns.length = l.length → RepWs K G B l vs → RepW K G B y v → ns.length = vs.length → ∃ us, putF f v (ns.zip vs) = (putN f ns).zip us ∧ (putN f ns).length = us.length ∧ RepWs K G B (putW f y ns l) us
  | [], [], vs, _, r, ry, _ => by
    have r : vs = [] := r
    subst r
    exact ⟨[v], rfl, rfl, v, [], rfl, ry, rfl⟩
  | [], _ :: _, vs, h, _, _, _ => by cases h
  | _ :: _, [], vs, h, _, _, _ => by cases h
  | n :: ns, w :: l, vs, h, r, ry, hl => by
    obtain ⟨u, us, e, r1, r2⟩ := r
    subst e
    show ∃ zs, (if n = f then (n, v) :: ns.zip us else (n, u) :: putF f v (ns.zip us)) = (if n = f then n :: ns else n :: putN f ns).zip zs ∧ (if n = f then n :: ns else n :: putN f ns).length = zs.length ∧ RepWs K G B (if n = f then y :: l else w :: putW f y ns l) zs
    by_cases hn : n = f
    · rw [if_pos hn, if_pos hn, if_pos hn]
      exact ⟨v :: us, rfl, hl, v, us, rfl, ry, r2⟩
    · rw [if_neg hn, if_neg hn, if_neg hn]
      obtain ⟨zs, e1, e2, e3⟩ := put_zip (f := f) (by simpa using h) r2 ry (by simpa using hl)
      exact ⟨u :: zs, by rw [e1]; rfl, by rw [List.length_cons, List.length_cons, e2], u, zs, rfl, r1, e3⟩
theorem setF_ok {cn f : Str} {x v : Expr} {p pos : Pos} {fo fa : Env' → Sto → R W} (c : Cxt g t L N sc so X) (hf : (cn, f) ∈ g.flds) (h3 : noComp v = true) (ho : PE X x (RE X Z Wx fo)) (ha : PE X v (RE X Z Wx fa)) :
    PS X (.Assign [.Attribute x f p] v pos) (RS X Z Wx fun e S => (fa e S).sr e fun y S => (fo e S).sr e fun x S => (match x with
      | .m q => (match S[q]? with
        | some (some (.ins c' ns l)) => if c' = cn ∧ ns.length < 1000 ∧ ns.length = l.length then .nx e (S.set q (some (.ins cn (putN f ns) (putW f y ns l)))) else .st
        | _ => .st)
      | _ => .st)) := by
  obtain ⟨cl, na⟩ := c.tp.fl _ hf
  refine PS.imp (ps_fld ho ha (noComp_sw h3)) fun D σ H h => ?_
  obtain ⟨G, B, e, S, s, h⟩ := h
  refine ⟨G, B, e, S, s, QG.sr s.s h fun y H1 G1 B1 w1 S1 s1 x1 r1 h1 => ?_⟩
  have sm1 := s.at s1 x1
  refine ⟨G1, B1, e, S1, sm1, QG.sr sm1.s h1 fun o H2 G2 B2 w2 S2 s2 x2 r2 h2 => ?_⟩
  have sm2 := sm1.at s2 x2
  replace r1 := RepW.mono x2 r1
  split at h2
  · rename_i q
    split at h2
    · rename_i c' ns l hl
      split at h2
      · rename_i hc
        obtain ⟨e1, n1, n2⟩ := hc
        subst e1
        obtain ⟨a, b1, b2⟩ := r2
        obtain ⟨a', e1, e2, e3, e4⟩ := s2.ob _ _ hl
        rw [b1] at e1
        cases e1
        obtain ⟨dx, vs, g1, g2, g3⟩ := e3
        obtain ⟨us, p1, p2, p3⟩ := put_zip (f := f) n2 g3 r1 g2
        refine ⟨a, _, dx, _, b2, g1, cl, na, ?_, ?_⟩
        · rw [List.length_zip]
          omega
        · rw [p1]
          exact h2 σ _ G2 B2 ⟨s2.set hl b1 ⟨dx, us, upd_same, p2, p3⟩, sm2.s⟩ (Sub.refl _)
      · exact h2.elim
    · exact h2.elim
  · exact h2.elim
theorem aug_ok {i : Nat} {o : Bop} {x : Str} {v : Expr} {p pos : Pos} {f : Env' → Sto → R W} (c : Cxt g t L N sc so X) (h1 : N[i]? = some x) (hl : Loc X.env.scope x ∧ (X.fn x = true ∨ X.env.scope.names.lookup x = some .local)) (he : PE X v (RE X Z Wx f)) :
    PS X (.AugAssign (.Name x p) o.op v pos) (RS X Z Wx fun e S => (match e[i]? with
      | some (some x) => (f e S).sr e fun y S => (match o, x, y with
        | .add, .d (.int a), .d (.int b) => .nx (e.set i (some (.d (.int (a + b))))) S
        | .sub, .d (.int a), .d (.int b) => .nx (e.set i (some (.d (.int (a - b))))) S
        | .mul, .d (.int a), .d (.int b) => if mulOk a b then .nx (e.set i (some (.d (.int (a * b))))) S else .st
        | _, _, _ => .st)
      | _ => .st)) := by
  have hN : X.N.Nodup := by rw [c.hN]; exact c.nd
  have core : ∀ (D : Ends) (σ : L2.St) (H : Hp) (u : Int → Int → Option Int) (ti : TIp) (ff : W → W → Env' → Sto → SR), (∀ x y e S G, QS (KX X) Z Wx G D (ff x y e S) → ∃ a b, x = .d (.int a) ∧ y = .d (.int b) ∧ (∀ (Q : VK) H, (∀ n, u a b = some n → Q (.int n) H) → ti (.int a) (.int b) H Q) ∧ ∀ n, u a b = some n → QS (KX X) Z Wx G D (.nx (e.set i (some (.d (.int n)))) S)) →
      RS X Z Wx (fun e S => (match e[i]? with
        | some (some x) => (f e S).sr e fun y S => ff x y e S
        | _ => .st)) D σ H → tAug i (RE X Z Wx f) ti D σ H := fun D σ H u ti ff hff h => by
    obtain ⟨G, B, e, S, s, h⟩ := h
    dsimp only at h
    cases ei : e[i]? with
    | none => rw [ei] at h; exact h.elim
    | some w =>
      cases w with
      | none => rw [ei] at h; exact h.elim
      | some w =>
        rw [ei] at h
        obtain ⟨xv, q1, q2⟩ := s.s.get ei
        refine ⟨xv, q1, G, B, e, S, s, QG.sr s.s h fun y H1 G1 B1 w1 S1 s1 x1 r1 h1 => ?_⟩
        obtain ⟨a, b, rfl, rfl, k1, k2⟩ := hff _ _ _ _ _ h1
        have q2 : Rep (KX X) G (.int a) xv := q2
        have r1 : Rep (KX X) G1 (.int b) y := r1
        simp only [Rep] at q2 r1
        subst q2 r1
        refine k1 _ _ fun n hn => ?_
        exact k2 n hn _ H1 G1 B1 ⟨s1, (s.s.mono x1).set (by simp only [RepW, Rep])⟩ (Sub.refl _)
  cases o with
  | add =>
    refine PS.imp (ps_aug hN (c.at h1) hl.1 he iop_add hl.2) fun D σ H h => core D σ H (fun a b => some (a + b)) _ (fun x y e S => match Bop.add, x, y with
        | .add, .d (.int a), .d (.int b) => .nx (e.set i (some (.d (.int (a + b))))) S
        | .sub, .d (.int a), .d (.int b) => .nx (e.set i (some (.d (.int (a - b))))) S
        | .mul, .d (.int a), .d (.int b) => if mulOk a b then .nx (e.set i (some (.d (.int (a * b))))) S else .st
        | _, _, _ => .st) (fun x y e S G hx => ?_) ?_
    · rcases x with (_ | _ | _ | _ | _ | _ | _ | _ | _ | _) | _ <;> first | exact hx.elim | skip
      rcases y with (_ | _ | _ | _ | _ | _ | _ | _ | _ | _) | _ <;> first | exact hx.elim | skip
      · exact ⟨_, _, rfl, rfl, fun Q H k => ⟨_, _, rfl, rfl, k _ rfl⟩, fun n hn => by cases hn; exact hx⟩
    · exact h
  | sub =>
    refine PS.imp (ps_aug hN (c.at h1) hl.1 he iop_sub hl.2) fun D σ H h => core D σ H (fun a b => some (a - b)) _ (fun x y e S => match Bop.sub, x, y with
        | .add, .d (.int a), .d (.int b) => .nx (e.set i (some (.d (.int (a + b))))) S
        | .sub, .d (.int a), .d (.int b) => .nx (e.set i (some (.d (.int (a - b))))) S
        | .mul, .d (.int a), .d (.int b) => if mulOk a b then .nx (e.set i (some (.d (.int (a * b))))) S else .st
        | _, _, _ => .st) (fun x y e S G hx => ?_) ?_
    · rcases x with (_ | _ | _ | _ | _ | _ | _ | _ | _ | _) | _ <;> first | exact hx.elim | skip
      rcases y with (_ | _ | _ | _ | _ | _ | _ | _ | _ | _) | _ <;> first | exact hx.elim | skip
      · exact ⟨_, _, rfl, rfl, fun Q H k => ⟨_, _, rfl, rfl, k _ rfl⟩, fun n hn => by cases hn; exact hx⟩
    · exact h
  | mul =>
    refine PS.imp (ps_aug hN (c.at h1) hl.1 he iop_mul hl.2) fun D σ H h => core D σ H (fun a b => some (a * b)) _ (fun x y e S => match Bop.mul, x, y with
        | .add, .d (.int a), .d (.int b) => .nx (e.set i (some (.d (.int (a + b))))) S
        | .sub, .d (.int a), .d (.int b) => .nx (e.set i (some (.d (.int (a - b))))) S
        | .mul, .d (.int a), .d (.int b) => if mulOk a b then .nx (e.set i (some (.d (.int (a * b))))) S else .st
        | _, _, _ => .st) (fun x y e S G hx => ?_) ?_
    · rcases x with (_ | _ | _ | _ | _ | _ | _ | _ | _ | _) | _ <;> first | exact hx.elim | skip
      rcases y with (_ | _ | _ | _ | _ | _ | _ | _ | _ | _) | _ <;> first | exact hx.elim | skip
      · dsimp only at hx
        split at hx
        · rename_i hm
          exact ⟨_, _, rfl, rfl, fun Q H k => ⟨_, _, rfl, rfl, mulOk_ok hm, k _ rfl⟩, fun n hn => by cases hn; exact hx⟩
        · exact hx.elim
    · exact h
  | _ =>
    refine PS.imp (ps_aug hN (c.at h1) hl.1 he (ti := fun _ _ _ _ => False) (fun _ _ _ _ _ _ _ _ _ _ _ _ h => h.elim) hl.2) fun D σ H h => core D σ H (fun a b => none) _ (fun x y e S => .st) (fun x y e S G hx => hx.elim) h
/-- o[j] op= e, of a list of ints -/
theorem augIx_core {fo fj fa : Env' → Sto → R W} {tip : TIp} {stp : Env' → Sto → Nat → Int → Nat → Int → W → SR} (hst : ∀ e S q i n u y G D, QS (KX X) Z Wx G D (stp e S q i n u y) → ∃ l v z, S[q]? = some (some (.lst l)) ∧ y = .d (.int v) ∧ ixN l.length i = some n ∧ (∀ (Q : VK) H, Q (.int z) H → tip (.int u) (.int v) H Q) ∧ QS (KX X) Z Wx G D (.nx e (S.set q (some (.lst (l.set n (.int z))))))) {D : Ends} {σ : L2.St} {H : Hp}
    (h : RS X Z Wx (fun e S => (fo e S).sr e fun l S => (fj e S).sr e fun k S => (match l, k with
      | .m q, .d (.int i) => (match S[q]? with
        | some (some (.lst l)) => (match ixN l.length i with
          | some n => (match l[n]? with
            | some (.int u) => (fa e S).sr e fun y S => stp e S q i n u y
            | _ => .st)
          | none => .st)
        | _ => .st)
      | _, _ => .st)) D σ H) : tAugS (RE X Z Wx fo) (RE X Z Wx fj) (RE X Z Wx fa) (rGetI X.K) tip rSetL D σ H := by
  obtain ⟨G, B, e, S, s, h⟩ := h
  refine ⟨G, B, e, S, s, QG.sr s.s h fun o H1 G1 B1 w1 S1 s1 x1 r1 h1 => ?_⟩
  have sm1 := s.at s1 x1
  refine ⟨G1, B1, e, S1, sm1, QG.sr sm1.s h1 fun j H2 G2 B2 w2 S2 s2 x2 r2 h2 => ?_⟩
  have sm2 := sm1.at s2 x2
  split at h2
  · rename_i q i
    split at h2
    · rename_i l hl
      split at h2
      · rename_i n hn
        split at h2
        · rename_i u hu
          replace r1 := RepW.mono x2 r1
          have r1' := r1
          obtain ⟨a, b1, b2⟩ := r1'
          obtain ⟨a', e1, e2, e3, e4⟩ := s2.ob _ _ hl
          rw [b1] at e1
          cases e1
          obtain ⟨vs, g1, g2, g3⟩ := e3
          have r2' : Rep (KX X) G2 (.int i) j := r2
          simp only [Rep] at r2'
          obtain ⟨v0, v1, v2⟩ := RepL.get g3 hu
          simp only [Rep] at v2
          subst v2
          refine ⟨a, vs, i, n, .int u, b2, r2', g1, by rw [← g3.length]; exact hn, v1, ?_⟩
          refine ⟨G2, B2, e, S2, sm2, QG.sr sm2.s h2 fun y H3 G3 B3 w3 S3 s3 x3 r3 h3 => ?_⟩
          obtain ⟨l', v, z, k1, k2, k4, k3, k5⟩ := hst _ _ _ _ _ _ _ _ _ h3
          subst k2
          have r3' : Rep (KX X) G3 (.int v) y := r3
          simp only [Rep] at r3'
          rw [r3']
          refine k3 _ _ ?_
          obtain ⟨t3, et3⟩ := x3.pre
          have b3 : B3[q]? = some a := by
            rw [et3]
            exact pre_get b1
          obtain ⟨a', e1, e2, e3, e4⟩ := s3.ob _ _ k1
          rw [b3] at e1
          cases e1
          obtain ⟨us, g4, g5, g6⟩ := e3
          refine ⟨a, us, i, n, b2, r2', g4, by rw [← g6.length]; exact k4, ?_⟩
          have sm3 := sm2.at s3 x3
          exact k5 σ _ G3 B3 ⟨s3.set k1 b3 ⟨us.set n _, upd_same, by rw [List.length_set]; exact g5, RepL.set (d := .int z) (by simp only [Rep]) n g6⟩, sm3.s⟩ (Sub.refl _)
        · exact h2.elim
      · exact h2.elim
    · exact h2.elim
  · exact h2.elim
theorem augIx_ok {o : Bop} {x y v : Expr} {p pos : Pos} {fo fj fa : Env' → Sto → R W} (h1 : noSlice y = true) (ho : PE X x (RE X Z Wx fo)) (hj : PE X y (RE X Z Wx fj)) (ha : PE X v (RE X Z Wx fa)) :
    PS X (.AugAssign (.Subscript x y p) o.op v pos) (RS X Z Wx fun e S => (fo e S).sr e fun l S => (fj e S).sr e fun k S => (match l, k with
      | .m q, .d (.int i) => (match S[q]? with
        | some (some (.lst l)) => (match ixN l.length i with
          | some n => (match l[n]? with
            | some (.int u) => (fa e S).sr e fun y S => augI o q i n u y e S
            | _ => .st)
          | none => .st)
        | _ => .st)
      | _, _ => .st)) := by
  have st : ∀ ov iv new, augStore y ov iv new = (do holding [new, ov, iv] (setItem ov iv new); release [new, ov, iv] []; pure .next) := by
    intro _ _ _
    cases y <;> first
      | rfl
      | (cases h1; done)
  have rd : ∀ {tip : TIp}, (∀ u v z, augV o u v = some z → ∀ (Q : VK) H, Q (.int z) H → tip (.int u) (.int v) H Q) → ∀ e S q i n u y G D, QS (KX X) Z Wx G D (augI o q i n u y e S) → ∃ l v z, S[q]? = some (some (.lst l)) ∧ y = .d (.int v) ∧ ixN l.length i = some n ∧ (∀ (Q : VK) H, Q (.int z) H → tip (.int u) (.int v) H Q) ∧ QS (KX X) Z Wx G D (.nx e (S.set q (some (.lst (l.set n (.int z)))))) := fun {tip} k e S q i n u y G D hq => by
    unfold augI at hq
    split at hq
    · rename_i l v hl
      split at hq
      · rename_i z hz
        split at hq
        · rename_i hn
          exact ⟨l, v, z, hl, rfl, hn, k u v z hz, hq⟩
        · exact hq.elim
      · exact hq.elim
    · exact hq.elim
  cases o with
  | add => exact PS.imp (ps_augS ho hj get_lst ha ip_add set_list st) fun D σ H h => augIx_core (rd fun u v z hz Q H k => ⟨u, v, rfl, rfl, by cases hz; exact k⟩) h
  | sub => exact PS.imp (ps_augS ho hj get_lst ha ip_sub set_list st) fun D σ H h => augIx_core (rd fun u v z hz Q H k => ⟨u, v, rfl, rfl, by cases hz; exact k⟩) h
  | _ => exact PS.imp (ps_augS ho hj get_lst ha (tip := fun _ _ _ _ => False) (fun _ _ _ _ _ _ _ _ _ _ _ _ h => h.elim) set_list st) fun D σ H h => augIx_core (rd fun u v z hz Q H k => by cases hz) h
theorem RepL.reverse {K : KW} {G : Hp} : ∀ {l : List D} {vs : List V}, RepL K G l vs → RepL K G l.reverse vs.reverse
  | [], vs, h => by
    simp only [RepL] at h
    rw [h]
    simp [RepL]
  | d :: l, vs, h => by
    simp only [RepL] at h
    obtain ⟨v, u, e, h1, h2⟩ := h
    subst e
    rw [List.reverse_cons, List.reverse_cons]
    exact (RepL.reverse h2).append ⟨v, [], rfl, h1, by simp only [RepL]⟩
theorem raise_ok {c0 : Str} {es : List Expr} {e : Expr} {p pos pos' : Pos} {fa : Env' → Sto → R (List W)} (c : Cxt g t L N sc so X) (tk : Takes X Wx) (hh : g.hot = false) (hr : c0 ∈ g.rzs) (hg : gloB sc c0 = true) (hk : okN c0 = true) (hst : (e :: es).all noStar = true) (ha : PA X (e :: es) (RA X Z Wx fa)) :
    PS X (.Raise (some (.Call (.Name c0 p) (e :: es) [] pos)) none pos') (RS X Z Wx fun e S => (fa e S).sr e fun ws S => (match t.exn.lookup c0, dats ws with
      | some [], some ds => if ds.length ≤ 1000 then .ex c0 [] [] e S else .st
      | some (f :: ns), some ds => if ds.length = (f :: ns).length then .ex c0 (f :: ns).reverse ds.reverse e S else .st
      | _, _ => .st)) := by
  rw [List.all_cons] at hst
  obtain ⟨s1, s2⟩ := ba hst
  obtain ⟨ns, hx, ok⟩ := c.tp.rz _ hr
  rw [hx]
  rcases ok with ⟨hne, k, hkL, ok⟩ | ⟨rfl, B, newId, initId, bmB, F, q, gC, kC, r1, r2⟩
  · refine PS.imp (ps_raise (c.calm hh) tk (pmk_sx ok ((c.room hh).mono hkL) (c.gl hg) ha ?_ (okN_ok hk).1 (noStar_ok s1) (star_any s2))) fun D σ H h => ?_
    · intro σ H Q Q' hq h
      obtain ⟨G, B, e, S, s, h⟩ := h
      exact ⟨G, B, e, S, s, QG.mono hq h⟩
    · obtain ⟨G, B, e, S, s, h⟩ := h
      refine ⟨G, B, e, S, s, QG.sr s.s h fun vs H1 G1 B1 ws S1 s1 x1 r1 h1 => ?_⟩
      cases ns with
      | nil => exact absurd rfl hne
      | cons f ns =>
        cases hd : dats ws with
        | none =>
          rw [hd] at h1
          exact h1.elim
        | some ds =>
          rw [hd] at h1
          dsimp only at h1
          split at h1
          · rename_i hl
            have rl : RepL (KX X) G1 ds vs := dats_ok r1 hd
            have lv : (f :: ns).length = vs.length := by rw [← hl, rl.length]
            refine ⟨lv.symm, fun d hd => ?_⟩
            obtain ⟨s2, x2⟩ := s1.newG (o := .xd (addF (f :: ns) vs [])) hd
            refine h1 _ _ σ _ _ B1 ⟨s2, (s.s.mono x1).mono x2⟩ x2.sub ⟨rfl, .inr ⟨d, vs.reverse, rfl, ?_, by rw [List.length_reverse, List.length_reverse, lv], ?_⟩⟩
            · rw [upd_same, addF_len _ _ _ lv, List.append_nil, zip_rev _ _ lv]
            · exact RepL.mono x2.sub _ _ rl.reverse
          · exact h1.elim
  · refine PS.imp (ps_raise (c.calm hh) tk (pmk_ownA F q gC kC (raises_own r1 r2) (c.gl hg) ha (okN_ok hk).1 (noStar_ok s1) (star_any s2))) fun D σ H h => ?_
    obtain ⟨G, B, e, S, s, h⟩ := h
    refine ⟨G, B, e, S, s, QG.sr s.s h fun vs H1 G1 B1 ws S1 s1 x1 r1 h1 => ?_⟩
    cases hd : dats ws with
    | none =>
      rw [hd] at h1
      exact h1.elim
    | some ds =>
      rw [hd] at h1
      dsimp only at h1
      split at h1
      · rename_i hl
        have rl : RepL (KX X) G1 ds vs := dats_ok r1 hd
        refine ⟨by rw [← rl.length]; exact Nat.le_trans hl (by decide), ?_⟩
        exact h1 _ _ σ _ _ B1 ⟨s1, s.s.mono x1⟩ (Sub.refl _) ⟨rfl, .inl ⟨rfl, rfl, rfl⟩⟩
      · exact h1.elim
end
end En

namespace En
open PySem PySem.Spec PyProof.Rows L2
/-- a def's body: what leaves it, its frames -/
structure Po (X : Cx) : Prop where
  po : PassesOwn (model X.prog X.w) X.A X.env X.xe
  hs : X.stack = X.env :: X.outer
  hf : X.env.frame = some X.env.locals
section
variable {g : Gs} {t : Tb} {L : Nat} {N : List Str}
theorem chkB_cons {s : S} {b : B} {x : List Stmt} {sc : Scope} (h : chkB g N sc (.cons s b) x = true) : (∃ ks, s = .nop ks ∧ chkB g N sc b x = true) ∨ (∃ i, s = .fz i ∧ chkB g N sc b x = true) ∨ ∃ y l, x = y :: l ∧ chkS g N sc s y = true ∧ chkB g N sc b l = true := by
  by_cases hn : ∃ ks, s = .nop ks
  · obtain ⟨ks, rfl⟩ := hn
    refine .inl ⟨ks, rfl, ?_⟩
    unfold chkB at h
    exact h
  · by_cases hf : ∃ i, s = .fz i
    · obtain ⟨i, rfl⟩ := hf
      refine .inr (.inl ⟨i, rfl, ?_⟩)
      unfold chkB at h
      exact h
    · cases x with
      | nil =>
        cases s <;> first
          | exact (hn ⟨_, rfl⟩).elim
          | exact (hf ⟨_, rfl⟩).elim
          | (unfold chkB at h; cases h)
      | cons y l =>
        refine .inr (.inr ⟨y, l, rfl, ?_⟩)
        cases s <;> first
          | exact (hn ⟨_, rfl⟩).elim
          | exact (hf ⟨_, rfl⟩).elim
          | (unfold chkB at h; exact ba h)
theorem sS_set {i : Nat} {e : E} {x : Stmt} {sc : Scope} {X : Cx} {Z : Ent} {Wx : WX} (h : chkS g N sc (.set i e) x = true) (c : Cxt g t L N sc sc X) (tk : Tk g t X Z Wx) : PS X x (RS X Z Wx (evS t (.set i e))) := by
    cases x <;> first
      | (have h : false = true := h; cases h; done)
      | skip
    rename_i ts v pos
    rcases ts with _ | ⟨y, _ | ⟨y2, ts⟩⟩
    · cases (show false = true from h)
    · cases y <;> first
        | (have h : false = true := h; cases h; done)
        | skip
      rename_i x p
      simp only [chkS] at h
      obtain ⟨h1, h7⟩ := ba h
      obtain ⟨h2, h8⟩ := ba h7
      obtain ⟨h3, h4⟩ := ba h8
      clear h h7 h8
      cases hs : swB sc v x p with
      | false => exact set_ok c (of_decide_eq_true h1) (c.loc h2) h3 hs (sE e v sc sc X Z Wx h4 c tk)
      | true =>
        cases v <;> first
          | (cases hs; done)
          | skip
        obtain ⟨k1, k2⟩ := sw_true' (l := pos.line) c hs
        rename_i y gens cs q
        cases e <;> first
          | (simp [chkE] at h4; done)
          | skip
        rename_i z own tg s tt e
        rcases gens with _ | ⟨⟨w, it, ifs, n⟩, _ | ⟨g2, gens⟩⟩ <;> first
          | (simp [chkE] at h4; done)
          | skip
        simp only [chkE] at h4
        obtain ⟨hh, h4⟩ := ba h4
        replace hh := cold_of hh
        obtain ⟨g0, g9⟩ := ba h4
        clear h4
        have g7 := of_decide_eq_true g0
        clear g0
        subst g7
        obtain ⟨g1, g2⟩ := ba g9
        obtain ⟨g1, g1'⟩ := ba g1
        obtain ⟨g2, g3⟩ := ba g2
        obtain ⟨g2, g2'⟩ := ba g2
        obtain ⟨g3, g4⟩ := ba g3
        obtain ⟨g4, g5⟩ := ba g4
        exact PS.imp (setLc_ok c hh g1 g1' g2 (of_decide_eq_true h1) k1 k2 (sSc s _ _ sc sc X Z Wx g2' c tk) (fun X' c' Z' => sG tg _ _ _ X' Z' g3 c') (fun X' c' Z' tk' => sTs tt _ _ _ X' Z' W0 g4 c' ⟨tk', XOk.cold hh⟩) (fun X' c' Z' tk' => sE e _ _ _ X' Z' W0 g5 c' ⟨tk', XOk.cold hh⟩)) fun D σ H h => read_set h
    · cases y <;> cases (show false = true from h)
theorem sS_asg {tg : G} {e : E} {x : Stmt} {sc : Scope} {X : Cx} {Z : Ent} {Wx : WX} (h : chkS g N sc (.asg tg e) x = true) (c : Cxt g t L N sc sc X) (tk : Tk g t X Z Wx) : PS X x (RS X Z Wx (evS t (.asg tg e))) := by
    cases x <;> first
      | (have h : false = true := h; cases h; done)
      | skip
    rename_i ts v pos
    rcases ts with _ | ⟨y, _ | ⟨y2, ts⟩⟩ <;> first
      | (have h : false = true := h; cases h; done)
      | skip
    simp only [chkS] at h
    obtain ⟨h1, h2⟩ := ba h
    obtain ⟨h1, h1'⟩ := ba h1
    obtain ⟨h2, h3⟩ := ba h2
    exact asg_ok c (by simpa using h1) h1' (sG tg _ sc sc X Z h2 c) (sE e v sc sc X Z Wx h3 c tk)
theorem sS_aug {i : Nat} {o : Bop} {e : E} {x : Stmt} {sc : Scope} {X : Cx} {Z : Ent} {Wx : WX} (h : chkS g N sc (.aug i o e) x = true) (c : Cxt g t L N sc sc X) (tk : Tk g t X Z Wx) : PS X x (RS X Z Wx (evS t (.aug i o e))) := by
    cases x <;> first
      | (have h : false = true := h; cases h; done)
      | skip
    rename_i y op v pos
    cases y <;> first
      | (have h : false = true := h; cases h; done)
      | skip
    simp only [chkS] at h
    obtain ⟨h1, h7⟩ := ba h
    obtain ⟨h2, h8⟩ := ba h7
    obtain ⟨h3, h4⟩ := ba h8
    clear h7 h8 h
    have h9 := of_decide_eq_true h3
    clear h3
    subst h9
    exact aug_ok c (of_decide_eq_true h1) (c.loc h2) (sE e v sc sc X Z Wx h4 c tk)
theorem sS_setIx {o j e : E} {x : Stmt} {sc : Scope} {X : Cx} {Z : Ent} {Wx : WX} (h : chkS g N sc (.setIx o j e) x = true) (c : Cxt g t L N sc sc X) (tk : Tk g t X Z Wx) : PS X x (RS X Z Wx (evS t (.setIx o j e))) := by
    cases x <;> first
      | (have h : false = true := h; cases h; done)
      | skip
    rename_i ts v pos
    rcases ts with _ | ⟨y, _ | ⟨y2, ts⟩⟩ <;> first
      | (have h : false = true := h; cases h; done)
      | skip
    · cases y <;> first
        | (have h : false = true := h; cases h; done)
        | skip
      simp only [chkS] at h
      obtain ⟨h1, h2⟩ := ba h
      obtain ⟨h1, h1'⟩ := ba h1
      obtain ⟨h2, h3⟩ := ba h2
      obtain ⟨h3, h4⟩ := ba h3
      obtain ⟨h4, h5⟩ := ba h4
      exact setIx_ok c h1 h1' h2 (sE o _ sc sc X Z Wx h3 c tk) (sE j _ sc sc X Z Wx h4 c tk) (sE e _ sc sc X Z Wx h5 c tk)
    · cases y <;> cases (show false = true from h)
theorem sS_ex {e : E} {x : Stmt} {sc : Scope} {X : Cx} {Z : Ent} {Wx : WX} (h : chkS g N sc (.ex e) x = true) (c : Cxt g t L N sc sc X) (tk : Tk g t X Z Wx) : PS X x (RS X Z Wx (evS t (.ex e))) := by
    cases x <;> first
      | (have h : false = true := h; cases h; done)
      | (simp only [chkS] at h
         obtain ⟨h1, h2⟩ := ba h
         exact ex_ok h1 (sE e _ sc sc X Z Wx h2 c tk))
theorem sS_ret {e : E} {x : Stmt} {sc : Scope} {X : Cx} {Z : Ent} {Wx : WX} (h : chkS g N sc (.ret e) x = true) (c : Cxt g t L N sc sc X) (tk : Tk g t X Z Wx) : PS X x (RS X Z Wx (evS t (.ret e))) := by
    cases x <;> first
      | (have h : false = true := h; cases h; done)
      | skip
    rename_i v pos
    cases v <;> first
      | (have h : false = true := h; cases h; done)
      | (simp only [chkS] at h
         exact ret_ok (sE e _ sc sc X Z Wx h c tk))
theorem sS_retN  {x : Stmt} {sc : Scope} {X : Cx} {Z : Ent} {Wx : WX} (h : chkS g N sc (.retN) x = true) (c : Cxt g t L N sc sc X) (tk : Tk g t X Z Wx) : PS X x (RS X Z Wx (evS t (.retN))) := by
    cases x <;> first
      | (have h : false = true := h; cases h; done)
      | skip
    rename_i v pos
    cases v <;> first
      | (have h : false = true := h; cases h; done)
      | exact retN_ok
theorem sS_brk  {x : Stmt} {sc : Scope} {X : Cx} {Z : Ent} {Wx : WX} (h : chkS g N sc (.brk) x = true) (c : Cxt g t L N sc sc X) (tk : Tk g t X Z Wx) : PS X x (RS X Z Wx (evS t (.brk))) := by
    cases x <;> first
      | (have h : false = true := h; cases h; done)
      | exact brk_ok
theorem sS_cont  {x : Stmt} {sc : Scope} {X : Cx} {Z : Ent} {Wx : WX} (h : chkS g N sc (.cont) x = true) (c : Cxt g t L N sc sc X) (tk : Tk g t X Z Wx) : PS X x (RS X Z Wx (evS t (.cont))) := by
    cases x <;> first
      | (have h : false = true := h; cases h; done)
      | exact cont_ok
theorem sS_pass  {x : Stmt} {sc : Scope} {X : Cx} {Z : Ent} {Wx : WX} (h : chkS g N sc (.pass) x = true) (c : Cxt g t L N sc sc X) (tk : Tk g t X Z Wx) : PS X x (RS X Z Wx (evS t (.pass))) := by
    cases x <;> first
      | (have h : false = true := h; cases h; done)
      | exact pass_ok
theorem sS_nop {ks : List Nat} {x : Stmt} {sc : Scope} {X : Cx} {Z : Ent} {Wx : WX} (h : chkS g N sc (.nop ks) x = true) (c : Cxt g t L N sc sc X) (tk : Tk g t X Z Wx) : PS X x (RS X Z Wx (evS t (.nop ks))) := by
    cases x <;> simp [chkS] at h

theorem sS_setF {cn f : Str} {o e : E} {x : Stmt} {sc : Scope} {X : Cx} {Z : Ent} {Wx : WX} (h : chkS g N sc (.setF cn f o e) x = true) (c : Cxt g t L N sc sc X) (tk : Tk g t X Z Wx) : PS X x (RS X Z Wx (evS t (.setF cn f o e))) := by
    cases x <;> first
      | (have h : false = true := h; cases h; done)
      | skip
    rename_i ts v pos
    rcases ts with _ | ⟨y, _ | ⟨y2, ts⟩⟩ <;> first
      | (have h : false = true := h; cases h; done)
      | skip
    · cases y <;> first
        | (have h : false = true := h; cases h; done)
        | skip
      simp only [chkS] at h
      obtain ⟨h1, h2⟩ := ba h
      obtain ⟨h1, h1'⟩ := ba h1
      obtain ⟨h2, h3⟩ := ba h2
      obtain ⟨h3, h4⟩ := ba h3
      have e1 := of_decide_eq_true h1
      subst e1
      exact setF_ok c (of_decide_eq_true h1') h2 (sE o _ sc sc X Z Wx h3 c tk) (sE e _ sc sc X Z Wx h4 c tk)
    · cases y <;> cases (show false = true from h)
theorem sS_augIx {o j e : E} {q : Bop} {x : Stmt} {sc : Scope} {X : Cx} {Z : Ent} {Wx : WX} (h : chkS g N sc (.augIx o j q e) x = true) (c : Cxt g t L N sc sc X) (tk : Tk g t X Z Wx) : PS X x (RS X Z Wx (evS t (.augIx o j q e))) := by
    cases x <;> first
      | (have h : false = true := h; cases h; done)
      | skip
    rename_i y op v pos
    cases y <;> first
      | (have h : false = true := h; cases h; done)
      | skip
    simp only [chkS] at h
    obtain ⟨h1, h2⟩ := ba h
    obtain ⟨k1, k2⟩ := ba h1
    obtain ⟨h3, h4⟩ := ba h2
    obtain ⟨h5, h6⟩ := ba h4
    have e1 := of_decide_eq_true k1
    clear h h1 k1
    subst e1
    exact augIx_ok k2 (sE o _ sc sc X Z Wx h3 c tk) (sE j _ sc sc X Z Wx h5 c tk) (sE e _ sc sc X Z Wx h6 c tk)
theorem sS_raise {c0 : Str} {l : A} {z : Bool} {x : Stmt} {sc : Scope} {X : Cx} {Z : Ent} {Wx : WX} (h : chkS g N sc (.raise c0 l z) x = true) (c : Cxt g t L N sc sc X) (tk : Tk g t X Z Wx) : PS X x (RS X Z Wx (evS t (.raise c0 l z))) := by
    cases x <;> first
      | (have h : false = true := h; cases h; done)
      | skip
    rename_i e f pos
    cases f with
    | some f =>
      cases e with
      | none => exact absurd (show false = true from h) Bool.false_ne_true
      | some e =>
        cases e <;> first
          | exact absurd (show false = true from h) Bool.false_ne_true
          | (rename_i fe es kws p
             cases fe <;> cases kws <;> exact absurd (show false = true from h) Bool.false_ne_true)
    | none =>
    cases e with
    | none => exact absurd (show false = true from h) Bool.false_ne_true
    | some e =>
    cases e <;> first
      | (have h : false = true := h; cases h; done)
      | skip
    rename_i fe es kws p
    cases fe <;> cases kws <;> first
      | (have h : false = true := h; cases h; done)
      | skip
    simp only [chkS] at h
    obtain ⟨h1, h2⟩ := ba h
    obtain ⟨hh, h3⟩ := ba h1
    obtain ⟨_, h4⟩ := ba h3
    obtain ⟨h5, h6⟩ := ba h4
    obtain ⟨h7, h8⟩ := ba h2
    obtain ⟨h9, h10⟩ := ba h8
    obtain ⟨h11, h12⟩ := ba h10
    have e1 := of_decide_eq_true h5
    subst e1
    cases es with
    | nil => simp at h7
    | cons y es => exact raise_ok c tk.tk (cold_of hh) (of_decide_eq_true h6) h9 h11 (chkA_star h12) (sA l _ sc sc X Z Wx h12 c tk)
/-! ### try -/
theorem SimH.enter {K : KW} {Z : Ent} {G H : Hp} {B : List Addr} {S : Sto} {a : Addr} (s : SimH K Z G B S H) : SimH K ⟨Z.H, G, Z.L, B ++ [a]⟩ G (B ++ [a]) (S ++ [none]) H where
  gh := s.gh
  len := by rw [List.length_append, List.length_append, s.len]; rfl
  ob := fun i o h => by
    have hi : i < S.length := by
      rcases Nat.lt_or_ge i S.length with q | q
      · exact q
      · rw [List.getElem?_append_right q] at h
        cases e : i - S.length with
        | zero => rw [e] at h; simp at h
        | succ k => rw [e] at h; simp at h
    rw [List.getElem?_append_left hi] at h
    obtain ⟨b, e1, e2, e3, e4⟩ := s.ob i o h
    exact ⟨b, pre_get e1, e2, e3.keep ⟨Sub.refl G, [a], rfl⟩ fun _ q => q, e4⟩
  inj := fun i j o u b h1 h2 h3 h4 => by
    have lt : ∀ {i : Nat} {o : Ob}, (S ++ [none])[i]? = some (some o) → i < S.length := fun {i o} h => by
      rcases Nat.lt_or_ge i S.length with q | q
      · exact q
      · rw [List.getElem?_append_right q] at h
        cases e : i - S.length with
        | zero => rw [e] at h; simp at h
        | succ k => rw [e] at h; simp at h
    have l1 := lt h1
    have l2 := lt h2
    rw [List.getElem?_append_left l1] at h1
    rw [List.getElem?_append_left l2] at h2
    rw [List.getElem?_append_left (by rw [s.len]; exact l1)] at h3
    rw [List.getElem?_append_left (by rw [s.len]; exact l2)] at h4
    exact s.inj i j o u b h1 h2 h3 h4
  fr := s.fr
  fg := fun _ _ _ => rfl
  mono := Sub.refl G
  dom := s.dom
  pre := ⟨[], by simp⟩
theorem SimH.exit {K : KW} {Z : Ent} {G H G1 H1 : Hp} {B B1 : List Addr} {S S1 : Sto} {a : Addr} (s : SimH K Z G B S H) (s1 : SimH K ⟨Z.H, G, Z.L, B ++ [a]⟩ G1 B1 S1 H1) : SimH K Z G1 B1 S1 H1 where
  gh := s1.gh
  len := s1.len
  ob := s1.ob
  inj := s1.inj
  fr := s1.fr
  fg := fun b h1 h2 => (s1.fg b h1 h2).trans (s.fg b h1 h2)
  mono := s.mono.trans s1.mono
  dom := s1.dom
  pre := by
    obtain ⟨t, e⟩ := s1.pre
    obtain ⟨u, e2⟩ := s.pre
    exact ⟨u ++ [a] ++ t, by rw [e]; show B ++ [a] ++ t = _; rw [e2]; simp [List.append_assoc]⟩
theorem QS.cold {K : KW} {Z : Ent} {W1 W2 : WX} {G : Hp} {D : Ends} : ∀ {r : SR}, QS K Z W1 G D r.noX → QS K Z W2 G D r
  | .nx e S, h => h
  | .rt w S, h => h
  | .bk e S, h => h
  | .ct e S, h => h
  | .ex c ns l e S, h => h.elim
  | .st, h => h
/-- behind a named handler's suite -/
theorem QS.leave {K : KW} {Z : Ent} {W1 W2 : WX} {G H : Hp} {B : List Addr} {S : Sto} {a : Addr} {D : Ends} {i : Nat} (s : SimH K Z G B S H) : ∀ {r : SR}, QS K Z W1 G D ((r.off i).noX) → QS K ⟨Z.H, G, Z.L, B ++ [a]⟩ W2 G (goneD i D) r
  | .nx e S1, h => fun σ H1 G1 B1 q x => h _ _ _ _ ⟨s.exit q.h, Slots.none q.s⟩ x
  | .bk e S1, h => fun σ H1 G1 B1 q x => h _ _ _ _ ⟨s.exit q.h, Slots.none q.s⟩ x
  | .ct e S1, h => fun σ H1 G1 B1 q x => h _ _ _ _ ⟨s.exit q.h, Slots.none q.s⟩ x
  | .rt w S1, h => fun v H1 G1 B1 q x r => h _ _ _ _ (s.exit q) x r
  | .ex c ns l e S1, h => h.elim
  | .st, h => h.elim
theorem Cxt.tr {sc : Scope} {X : Cx} (c : Cxt g t L N sc sc X) (pn : List (Addr × Obj)) (xe : Value → Shared → Prop) : Cxt g t L N sc sc (X.tr pn xe) := ⟨c.hN, c.nd, c.hsc, c.fk, c.fn, c.fl, c.calm, c.room, c.units, c.tp⟩
theorem Top.inX {P : Program} {w : World} {K : PySem.W.Frag} {mg : Str → Option Value} {base : Heap} {o : Option (Nat × Str × List Str × List D)} (k : Top P w K mg base g t L) : Top P w K mg base g.inX { t with xc := o } L := ⟨k.free, k.con, k.call, k.kc, k.mt, k.nw, k.fl, k.gc, k.pr, k.xn, k.xc, k.rz⟩
theorem Cxt.su {sc : Scope} {X : Cx} {o : Option (Nat × Str × List Str × List D)} (c : Cxt g t L N sc sc X) (a : Addr) (pn : List (Addr × Obj)) : Cxt g.inX { t with xc := o } L N sc sc (X.suite a pn) := ⟨c.hN, c.nd, c.hsc, c.fk, c.fn, c.fl, (fun h => by cases h), (fun h => by cases h), c.units, c.tp.inX⟩
/-- what a handler's suite asks -/
def tsH (t : Tb) (X : Cx) (Z : Ent) (i : Option Nat) (b : B) : TSx := fun a cls d Dn σ H => match i with
  | none => RS X Z W0 (evB { t with xc := none } b) Dn σ H
  | some _ => ∃ (Z' : Ent) (j : Nat) (c : Str) (ns : List Str) (l : List D) (us : List Str), cls = .ref (He.ga X.K c) ∧ t.sup.lookup c = some us ∧ Z'.B[j]? = some a ∧ RepX (KX X) Z'.G cls d c ns l ∧ RS X Z' W0 (evB { t with xc := some (j, c, ns, l) } b) Dn σ H
theorem names_of {sc : Scope} {X : Cx} (c : Cxt g t L N sc sc X) {x : Str} (hg : gloB sc x = true) (hk : okN x = true) {cv : Value} (h : X.mg x = some cv ∨ (X.mg x = none ∧ bootBuiltins x = some cv ∧ x ≠ "__name__")) : Names X x cv := ⟨c.gl hg, (okN_ok hk).1, h⟩
theorem sS_fz {i : Nat} {x : Stmt} {sc : Scope} {X : Cx} {Z : Ent} {Wx : WX} (h : chkS g N sc (.fz i) x = true) : PS X x (RS X Z Wx (evS t (.fz i))) := by
    cases x <;> simp [chkS] at h

mutual
theorem sS : ∀ (u : S) (g : Gs) (t : Tb) (x : Stmt) (sc : Scope) (X : Cx) (Z : Ent) (Wx : WX), chkS g N sc u x = true → Cxt g t L N sc sc X → Tk g t X Z Wx → Po X → PS X x (RS X Z Wx (evS t u))
  | .set i e, g, t, x, sc, X, Z, Wx, h, c, tk, po => sS_set h c tk
  | .asg tg e, g, t, x, sc, X, Z, Wx, h, c, tk, po => sS_asg h c tk
  | .aug i o e, g, t, x, sc, X, Z, Wx, h, c, tk, po => sS_aug h c tk
  | .setIx o j e, g, t, x, sc, X, Z, Wx, h, c, tk, po => sS_setIx h c tk
  | .ex e, g, t, x, sc, X, Z, Wx, h, c, tk, po => sS_ex h c tk
  | .ret e, g, t, x, sc, X, Z, Wx, h, c, tk, po => sS_ret h c tk
  | .retN, g, t, x, sc, X, Z, Wx, h, c, tk, po => sS_retN h c tk
  | .iff u a b, g, t, x, sc, X, Z, Wx, h, c, tk, po => by
    cases x <;> first
      | (have h : false = true := h; cases h; done)
      | (simp only [chkS] at h
         obtain ⟨h1, h2⟩ := ba h
         obtain ⟨h2, h3⟩ := ba h2
         exact iff_ok (sT u _ sc sc X Z Wx h1 c tk) (sB a g t _ sc X Z Wx h2 c tk po) (sB b g t _ sc X Z Wx h3 c tk po))
  | .fo tg s b ks, g, t, x, sc, X, Z, Wx, h, c, tk, po => by
    cases x <;> first
      | (have h : false = true := h; cases h; done)
      | skip
    rename_i y z body orelse pos
    cases orelse <;> first
      | (have h : false = true := h; cases h; done)
      | skip
    simp only [chkS] at h
    obtain ⟨h1, h2⟩ := ba h
    obtain ⟨h1, h1'⟩ := ba h1
    obtain ⟨hh, h1⟩ := ba h1
    obtain ⟨h2, h3⟩ := ba h2
    exact for_sound po.po (c.calm (cold_of hh)) (sSc s _ _ sc sc X Z Wx h1' c tk) (sG tg _ sc sc X Z h2 c) (sB b g t _ sc X Z Wx h3 c tk po) (noSet_it h1)
  | .wh u b ks, g, t, x, sc, X, Z, Wx, h, c, tk, po => by
    cases x <;> first
      | (have h : false = true := h; cases h; done)
      | skip
    rename_i y body orelse pos
    cases orelse <;> first
      | (have h : false = true := h; cases h; done)
      | skip
    simp only [chkS] at h
    obtain ⟨h1, h2⟩ := ba h
    exact while_sound po.po (sT u _ sc sc X Z Wx h1 c tk) (sB b g t _ sc X Z Wx h2 c tk po)
  | .brk, g, t, x, sc, X, Z, Wx, h, c, tk, po => sS_brk h c tk
  | .cont, g, t, x, sc, X, Z, Wx, h, c, tk, po => sS_cont h c tk
  | .pass, g, t, x, sc, X, Z, Wx, h, c, tk, po => sS_pass h c tk
  | .nop ks, g, t, x, sc, X, Z, Wx, h, c, tk, po => sS_nop h c tk
  | .setF cn f o e, g, t, x, sc, X, Z, Wx, h, c, tk, po => sS_setF h c tk
  | .fz i, g, t, x, sc, X, Z, Wx, h, c, tk, po => sS_fz h
  | .dead, g, t, x, sc, X, Z, Wx, h, c, tk, po => dead_ok
  | .augIx o j q e, g, t, x, sc, X, Z, Wx, h, c, tk, po => sS_augIx h c tk
  | .raise c0 l z, g, t, x, sc, X, Z, Wx, h, c, tk, po => sS_raise h c tk
  | .tr b hl, g, t, x, sc, X, Z, Wx, h, c, tk, po => by
    cases x <;> first
      | (have h : false = true := h; cases h; done)
      | skip
    rename_i body hds orelse fin pos
    cases orelse <;> cases fin <;> first
      | (have h : false = true := h; cases h; done)
      | skip
    simp only [chkS] at h
    obtain ⟨h1, h2⟩ := ba h
    obtain ⟨hh, h1⟩ := ba h1
    obtain ⟨h4, h3⟩ := ba h2
    clear h2
    obtain ⟨l', cl, k⟩ := sH hl g t hds sc X Z Wx h3 c tk po
    cases hds with
    | nil => simp at h1
    | cons h₀ hds =>
      refine PS.imp (ps_try_mix (tb := fun W => RS X Z W (evB t b)) po.hs po.hf (by rw [c.hN]; exact c.nd) tk.tk (fun W pn xe tk' po' => sB b g t body sc (X.tr pn xe) Z W h4 (c.tr pn xe) ⟨tk', XOk.cold (cold_of hh)⟩ ⟨po', po.hs, po.hf⟩) cl) fun D σ H q => ?_
      obtain ⟨G, B, e, S, s, q⟩ := q
      refine ⟨G, B, e, S, s, ?_⟩
      have q : QS (KX X) Z Wx G D (match evB t b e S with
        | .ex c ns l e1 S1 => evH t hl c ns l e1 S1
        | r => r) := q
      cases hb : evB t b e S with
      | ex cc ns l e1 S1 =>
        rw [hb] at q
        intro cls d σ1 H1 G1 B1 s1 x1 rx
        exact k cc ns l e1 S1 G D q cls d σ1 H1 G1 B1 s1 x1 rx
      | nx e1 S1 => rw [hb] at q; exact q
      | rt w S1 => rw [hb] at q; exact q
      | bk e1 S1 => rw [hb] at q; exact q
      | ct e1 S1 => rw [hb] at q; exact q
      | st => rw [hb] at q; exact q
theorem sB : ∀ (u : B) (g : Gs) (t : Tb) (x : List Stmt) (sc : Scope) (X : Cx) (Z : Ent) (Wx : WX), chkB g N sc u x = true → Cxt g t L N sc sc X → Tk g t X Z Wx → Po X → PSs X x (RS X Z Wx (evB t u))
  | .nil, g, t, x, sc, X, Z, Wx, h, c, tk, po => by
    cases x <;> first
      | (simp [chkB] at h; done)
      | exact bnil_ok
  | .cons s b, g, t, x, sc, X, Z, Wx, h, c, tk, po => by
    cases chkB_cons h with
    | inl q =>
      obtain ⟨ks, e, h⟩ := q
      subst e
      exact nop_ok (sB b g t x sc X Z Wx h c tk po)
    | inr q => cases q with
     | inl q =>
      obtain ⟨i, e, h⟩ := q
      subst e
      exact fz_ok (sB b g t x sc X Z Wx h c tk po)
     | inr q =>
      obtain ⟨y, l, e, h1, h2⟩ := q
      subst e
      exact bcons_ok (sS s g t y sc X Z Wx h1 c tk po) (sB b g t l sc X Z Wx h2 c tk po)
theorem sH : ∀ (u : HL) (g : Gs) (t : Tb) (hds : List ExceptHandler) (sc : Scope) (X : Cx) (Z : Ent) (Wx : WX), chkH g N sc u hds = true → Cxt g t L N sc sc X → Tk g t X Z Wx → Po X → ∃ l', Clauses X hds l' ∧
    ∀ (c : Str) (ns : List Str) (l : List D) (e1 : Env') (S1 : Sto) (G0 : Hp) (D : Ends), QS (KX X) Z Wx G0 D (evH t u c ns l e1 S1) → ∀ cls d σ H G B, Sim (KX X) Z G B e1 S1 σ H → Sub G0 G → RepX (KX X) G cls d c ns l → wMix X.K Wx D l' cls d σ H
  | .nil, g, t, hds, sc, X, Z, Wx, h, c, tk, po => by
    cases hds with
    | nil => exact ⟨[], .nil, fun c ns l e1 S1 G0 D q cls d σ H G B s x r => q cls d σ H G B s x r⟩
    | cons a b => simp [chkH] at h
  | .cons x i b u, g, t, hds, sc, X, Z, Wx, h, c, tk, po => by
    rcases hds with _ | ⟨⟨ty, n, suite, hp⟩, hds⟩
    · simp [chkH] at h
    · cases ty with
      | none => simp [chkH] at h
      | some ty =>
        cases ty <;> first
          | (simp [chkH] at h; done)
          | skip
        rename_i y np
        simp only [chkH] at h
        obtain ⟨h1, h2⟩ := ba h
        obtain ⟨h1, h3⟩ := ba h1
        obtain ⟨h1, h4⟩ := ba h1
        obtain ⟨h3, h5⟩ := ba h3
        obtain ⟨h6, h7⟩ := ba h2
        obtain ⟨h7, h8⟩ := ba h7
        obtain ⟨h7, h9⟩ := ba h7
        have e1 := of_decide_eq_true h1
        subst e1
        obtain ⟨l', cl, k⟩ := sH u g t hds sc X Z Wx h8 c tk po
        obtain ⟨v, cv, hcv, _, _, hsub⟩ := c.tp.xn _ (of_decide_eq_true h4)
        cases suite with
        | nil => simp at h7
        | cons b₀ suite =>
          refine ⟨(cv, i, tsH t X Z i b) :: l', .cons (names_of c h3 h5 hcv) ?_ (fun a oe cls d pn hz hf => ?_) cl, fun cc ns l e1 S1 G0 D q cls d σ H G B s xx r => ?_⟩
          · cases i <;> cases n <;> first
              | exact True.intro
              | cases h6
              | (obtain ⟨q1, q2⟩ := ba h6
                 refine ⟨c.at (of_decide_eq_true q1), ?_⟩
                 show X.env.scope.names.lookup _ = _
                 rw [c.hsc]
                 exact of_decide_eq_true q2)
          · cases i with
            | none =>
              have q := sB b g.inX { t with xc := none } (b₀ :: suite) sc (X.suite a ((a, oe) :: pn)) Z W0 h9 (c.su a _) ⟨takes0, fun _ j c ns l e => by cases e⟩ ⟨PassesOwn.never, po.hs, po.hf⟩
              exact q
            | some i =>
              refine ⟨fun pins s σ H D I q => ?_⟩
              obtain ⟨Z', j, cc, ns, l, us, e1, e2, e3, e4, q⟩ := q
              refine (sB b g.inX { t with xc := some (j, cc, ns, l) } (b₀ :: suite) sc (X.suite a ((a, oe) :: pn)) Z' W0 h9 (c.su a _) ⟨takes0, fun _ j' c' ns' l' e => ?_⟩ ⟨PassesOwn.never, po.hs, po.hf⟩).run pins s σ H D I q
              cases e
              subst e1
              exact ⟨X, a, oe, d, pn, rfl, hz, hf, e3, ⟨us, e2⟩, e4⟩
          · unfold evH at q
            cases hl : t.sup.lookup cc with
            | none =>
              rw [hl] at q
              exact q.elim
            | some us =>
              rw [hl] at q
              dsimp only at q
              have ecls := r.1
              subst ecls
              refine ⟨us.contains y, (hsub _ _ hl).1, fun hy a ha => ?_, fun hy => ?_⟩
              · rw [if_pos hy] at q
                cases i with
                | none => exact ⟨G, B, e1, S1, s, (QS.cold q).sub xx⟩
                | some i =>
                  refine ⟨⟨Z.H, G, Z.L, B ++ [a]⟩, S1.length, cc, ns, l, us, rfl, hl, ?_, r, G, B ++ [a], _, _, ⟨s.h.enter, Slots.set ?_ (s.s.mono ⟨Sub.refl G, [a], rfl⟩)⟩, QS.leave s.h (QS.sub xx q)⟩
                  · show (B ++ [a])[S1.length]? = some a
                    rw [← s.h.len, List.getElem?_append_right (Nat.le_refl _), Nat.sub_self]
                    rfl
                  · refine ⟨a, ?_, rfl⟩
                    rw [← s.h.len, List.getElem?_append_right (Nat.le_refl _), Nat.sub_self]
                    rfl
              · rw [if_neg (by rw [hy]; exact Bool.false_ne_true)] at q
                exact k cc ns l e1 S1 G0 D q _ d σ H G B s xx r
end
end
end En

namespace En
open PySem PySem.Spec PyProof.Rows L2

/-! ### a def's text against its terms -/
def scopeB (N : List Str) (np : Nat) (sc : Scope) : Bool :=
  (sc.kind == .function) && (!sc.isCoroutine && (!sc.isGenerator && (decide N.Nodup && ((N.take np).all (fun x => locB sc x) && (decide (np ≤ N.length) && sc.names.all fun y => !(y.2 == .free))))))
theorem scopeB_ok {N : List Str} {np : Nat} {sc : Scope} (h : scopeB N np sc = true) : FnScope N (N.take np) sc ∧ np ≤ N.length := by
  unfold scopeB at h
  obtain ⟨h1, h⟩ := ba h
  obtain ⟨h2, h⟩ := ba h
  obtain ⟨h3, h⟩ := ba h
  obtain ⟨h4, h⟩ := ba h
  obtain ⟨h5, h⟩ := ba h
  obtain ⟨h6, h7⟩ := ba h
  refine ⟨⟨by simpa using h1, by simpa using h2, by simpa using h3, of_decide_eq_true h4, ?_, fun x hx => ?_, fun y hy => ?_⟩, of_decide_eq_true h6⟩
  · rw [List.length_take, Nat.min_eq_left (of_decide_eq_true h6)]
  · exact locB_ok (List.all_eq_true.mp h5 x hx)
  · have q := List.all_eq_true.mp h7 y hy
    simpa using q
def chkD (g : Gs) (N : List Str) (np : Nat) (sc : Scope) (b : B) (body : List Stmt) : Bool := !g.hot && (scopeB N np sc && chkB g N sc b body)
section
variable {P : Program} {w : World} {K : PySem.W.Frag} {mg : Str → Option Value} {base : Heap}
theorem CallOk.mono {L L' : Nat} {c : CI} {F : Fn} {f : Addr} (k : CallOk P w K mg base L c F f) (h : L ≤ L') : CallOk P w K mg base L' c F f := ⟨k.gl, k.kp, fun A outer s H us vs Q Ex r => k.run A outer s H us vs Q Ex (r.mono h)⟩
theorem fnOk_mono {k k' : Nat} {f : Addr} {fd : FuncData} {ps : List Str} {sp : Sp} (F : FnOk P w K mg base (L2.CX P w) k f fd ps sp) (h : k ≤ k') : FnOk P w K mg base (L2.CX P w) k' f fd ps sp :=
  ⟨F.len, fun A outer s H args us vs Q E hr e0 hb r q => F.run A outer s H args us vs Q E (hr.mono h) e0 hb r q⟩
theorem KwOk.mono {L L' n : Nat} {ks : List Str} {src : List Src} {F : Fn} {f : Addr} (k : KwOk P w K mg base L n ks src F f) (h : L ≤ L') : KwOk P w K mg base L' n ks src F f := by
  obtain ⟨fd, ps, gg, gV, h1, h2⟩ := k.ex
  exact ⟨fd, ps, gg, gV, fnOk_mono h1 h, h2⟩
theorem Top.mono {g : Gs} {t : Tb} {L L' : Nat} (k : Top P w K mg base g t L) (h : L ≤ L') : Top P w K mg base g t L' where
  free := k.free
  con := k.con
  call := fun n c e => by
    obtain ⟨F, f, e1, q⟩ := k.call n c e
    exact ⟨F, f, e1, q.mono h⟩
  kc := fun n c e => by
    obtain ⟨F, src, f, e1, q1, q2, q3⟩ := k.kc n c e
    exact ⟨F, src, f, e1, q1, q2, q3.mono h⟩
  mt := fun n c e => by
    obtain ⟨F, src, f, e1, q1, q2, q3⟩ := k.mt n c e
    exact ⟨F, src, f, e1, q1, q2, q3.mono h⟩
  nw := fun n c e => by
    obtain ⟨F, src, f, j, e1, q1, q2, q3, q4⟩ := k.nw n c e
    exact ⟨F, src, f, j, e1, q1, q2, Nat.le_trans q3 h, q4⟩
  fl := k.fl
  gc := k.gc
  pr := fun q c e => by
    obtain ⟨F, f, p, j, fd, ps, e1, q1, q2, q3, q4, q5⟩ := k.pr q c e
    exact ⟨F, f, p, j, fd, ps, e1, q1, q2, Nat.le_trans q3 h, q4, q5⟩
  xn := k.xn
  xc := k.xc
  rz := fun c hc => by
    obtain ⟨ns, h1, h2⟩ := k.rz c hc
    refine ⟨ns, h1, ?_⟩
    rcases h2 with ⟨h3, j, h4, h5⟩ | h3
    · exact .inl ⟨h3, j, Nat.le_trans h4 h, h5⟩
    · exact .inr h3
theorem run_len {t : Tb} {np n : Nat} {b : B} {ws : List W} {S : Sto} (h : run t np n b ws S ≠ .st) : ws.length = np := by
  unfold run at h
  split at h
  · assumption
  · exact absurd rfl h
theorem spF_len {KW : KW} {F : Fn} {np : Nat} (hF : ∀ ws S, F ws S ≠ .st → ws.length = np) {vs : List V} {H : Hp} {Q : VK} {E : XK} (h : spF KW F vs H Q E) : vs.length = np := by
  obtain ⟨G, B, ws, S, L, r, s, hL, h⟩ := h
  rw [← RepWs.length r]
  refine hF ws S fun e => ?_
  rw [e] at h
  exact h
theorem slots_start {KW : KW} {G : Hp} {B : List Addr} : ∀ {ws : List W} {vs : List V} {n : Nat}, RepWs KW G B ws vs → Slots KW G B (ws.map some ++ List.replicate n none) (vs.map some ++ List.replicate n none)
  | [], vs, n, r => by
    have e : vs = [] := r
    subst e
    show Slots KW G B (List.replicate n none) (List.replicate n none)
    induction n with
    | zero => exact rfl
    | succ n ih => exact ⟨none, List.replicate n none, rfl, ih⟩
  | w :: ws, vs, n, r => by
    obtain ⟨v, us, e, r1, r2⟩ := r
    subst e
    exact ⟨v, us.map some ++ List.replicate n none, rfl, r1, slots_start r2⟩
theorem ent_eq {KW : KW} {H G : Hp} {B : List Addr} {L : Addr → Prop} {G' H' : Hp} {B' : List Addr} {S' : Sto} (s : SimH KW ⟨H, G, L, B⟩ G' B' S' H') : Ext G B G' B' := ⟨s.mono, s.pre⟩
/-- THE RULE of a def -/
theorem fn_ok {x qual : Str} {params : Arguments} {body : List Stmt} {scope : Scope} {dvs : List V} {kws : List (Str × V)} {f : Addr} {fd : FuncData} {g : Gs} {t : Tb} {L : Nat} {N : List Str} {np : Nat} {b : B}
    (F : FunD K x qual params body scope dvs kws f fd) (h : chkD g N np scope b body = true) (tp : Top P w K mg base g t L) : FnOk P w K mg base (L2.CX P w) (L + 1) f fd (N.take np) (spF ⟨K, w⟩ (run t np N.length b)) := by
  obtain ⟨hh, h⟩ := ba h
  replace hh := cold_of hh
  obtain ⟨h1, h2⟩ := ba h
  obtain ⟨S, hnp⟩ := scopeB_ok h1
  have ln : (N.take np).length = np := by rw [List.length_take, Nat.min_eq_left hnp]
  refine F.ok S (fun vs H Q E q => by rw [ln]; exact spF_len (fun ws S => run_len) q) fun cdv A outer s H vs Q E hr hsp => ?_
  obtain ⟨G, B, ws, S0, Lx, r, sm, hL, hsp⟩ := hsp
  let X := cxOf (L2.CX P w) P w K mg base N qual scope f cdv A outer s H E
  have c : Cxt g t L N scope scope X := ⟨rfl, S.nd, rfl, S.kind, fun x hx => ⟨rfl, hx⟩, fun x hx => hx, fun _ => rfl, fun _ => hr, hr.units, tp⟩
  have tk : Takes X (fun cls d _ H => E cls d H) := takes_of rfl rfl rfl rfl
  have po : PassesOwn (model X.prog X.w) X.A X.env X.xe := passes_of rfl
  refine ⟨_, sB b g t body scope X ⟨H, G, Lx, B⟩ (fun cls d _ H => E cls d H) h2 c ⟨tk, XOk.cold hh⟩ ⟨po, rfl, rfl⟩, G, B, _, S0, ⟨sm, slots_start (n := N.length - vs.length) r⟩, ?_⟩
  unfold run at hsp
  by_cases hw : ws.length = np
  · rw [if_pos hw] at hsp
    rw [← RepWs.length r]
    have hs : (⟨H, G, Lx, B⟩ : Ent).B.length ≤ S0.length := by
      show B.length ≤ S0.length
      rw [sm.len]
      exact Nat.le_refl _
    cases eb : evB t b (ws.map some ++ List.replicate (N.length - ws.length) none) S0 with
    | nx e S1 =>
      rw [eb] at hsp
      intro σ' H' G' B' s' x'
      obtain ⟨B2, s2⟩ := trim_ok (e := []) (σ := []) hs (⟨s'.h, rfl⟩ : Sim _ _ G' B' [] S1 [] H')
      exact hsp .non H' G' B2 s2.h (ent_eq s2.h) (by simp only [RepW, Rep])
    | rt w' S1 =>
      rw [eb] at hsp
      intro v H' G' B' s' x' rv
      obtain ⟨B2, s2⟩ := trim_ok (e := [some w']) (σ := [some v]) hs (⟨s', ⟨v, [], rfl, rv, rfl⟩⟩ : Sim _ _ G' B' [some w'] S1 [some v] H')
      obtain ⟨v2, us, e2, r2, _⟩ := s2.s
      cases e2
      exact hsp v H' G' B2 s2.h (ent_eq s2.h) r2
    | ex c ns l e S1 =>
      rw [eb] at hsp
      intro cls d σ' H' G' B' s' x' rx
      obtain ⟨B2, s2⟩ := trim_ok (e := []) (σ := []) hs (⟨s'.h, rfl⟩ : Sim _ _ G' B' [] S1 [] H')
      exact hsp cls d H' G' B2 s2.h (ent_eq s2.h) rx
    | bk e S1 =>
      rw [eb] at hsp
      exact hsp.elim
    | ct e S1 =>
      rw [eb] at hsp
      exact hsp.elim
    | st =>
      rw [eb] at hsp
      exact hsp.elim
  · rw [if_neg hw] at hsp
    exact hsp.elim
/-- a call by every parameter -/
theorem CallOk.of {k : Nat} {f : Addr} {fd : FuncData} {ps : List Str} {F : Fn} {nm : Str} (h : FnOk P w K mg base (L2.CX P w) k f fd ps (spF ⟨K, w⟩ F)) (hb : Binds K fd ps []) (gl : mg nm = some (.ref f)) (kp : PySem.W.keepIn K (.ref f) = true) (c : CI) (hn : c.name = nm) (hl : c.n = ps.length) : CallOk P w K mg base k c F f := by
  refine ⟨by rw [hn]; exact gl, kp, fun A outer s H us vs Q Ex hr e0 r hv q => ?_⟩
  have KIn : K.In s.heap := e0.mod.kin.keeps fun b o e => (e0.bs b o e).1
  have hu : us.length = ps.length := by rw [← r.length, hv, hl]
  have bt := hb s us KIn (by simpa using hu)
  rw [List.append_nil] at bt
  exact h.run A outer s H ⟨us, []⟩ us vs Q Ex hr e0 bt r q
end
end En

namespace En
open PySem PySem.Spec PyProof.Rows L2

/-! ### the module's constants -/
/-- the module's name x holds d -/
def Con1 (w : World) (K : PySem.W.Frag) (mg : Str → Option Value) (x : Str) (d : D) : Prop := ∃ v u, mg x = some u ∧ RelV v u ∧ ∀ G, Rep ⟨K, w⟩ G d v
def strsD (l : List Str) : List D := l.map .str
def dvD : D → Option He.Dv
  | .int i => some (.int i)
  | .str s => some (.str s)
  | .bl b => some (.bl b)
  | .non => some .non
  | _ => none
def dvL : List D → Option (List He.Dv)
  | [] => some []
  | d :: l => (dvD d).bind fun x => (dvL l).map (x :: ·)
theorem dvL_ok {K : KW} {G : Hp} : ∀ {l : List D} {ds : List He.Dv}, dvL l = some ds → RepL K G l (ds.map (He.Dv.v K.K))
  | [], ds, h => by
    cases h
    simp [RepL]
  | d :: l, ds, h => by
    unfold dvL at h
    cases e1 : dvD d with
    | none => rw [e1] at h; cases h
    | some x =>
      rw [e1] at h
      cases e2 : dvL l with
      | none => rw [e2] at h; cases h
      | some r =>
        rw [e2] at h
        cases h
        refine ⟨_, _, rfl, ?_, dvL_ok e2⟩
        cases d <;> first
          | (cases e1; done)
          | (cases e1; simp only [Rep]; rfl)
/-- as K has them -/
def conB (K : PySem.W.Frag) : Str × D → Bool
  | (x, .int i) => (He.Fa.int x i).ok K
  | (x, .str z) => (He.Fa.str x z).ok K
  | (x, .tup l) => (He.Fa.glo x).ok K && (match dvL l with
    | some ds => decide (ds.length ≤ sizeLine) && He.tupB K x ds
    | none => false)
  | _ => false
theorem conB_ok {w : World} {K : PySem.W.Frag} {h : Heap} {mg : Str → Option Value} {x : Str} {d : D} (X : K.In h) (G : h.Ns mainGlobals mg) (c : conB K (x, d) = true) : Con1 w K mg x d := by
  cases d <;> first
    | (cases c; done)
    | skip
  · rename_i i
    obtain ⟨t, e⟩ := He.int_ok X G c
    exact ⟨.int i, _, e, ⟨t, rfl⟩, fun G => by simp only [Rep]⟩
  · rename_i z
    obtain ⟨t, e⟩ := He.str_ok X G c
    exact ⟨.str z, _, e, ⟨t, rfl⟩, fun G => by simp only [Rep]⟩
  · rename_i l
    unfold conB at c
    obtain ⟨c1, c2⟩ := ba c
    cases e : dvL l with
    | none =>
      rw [e] at c2
      cases c2
    | some ds =>
      rw [e] at c2
      obtain ⟨c2, c3⟩ := ba c2
      refine ⟨.ref (He.ga K x), _, He.glo_ok X G c1, rfl, fun G => ?_⟩
      simp only [Rep]
      exact ⟨_, _, rfl, He.tupB_ok c3 G, by rw [List.length_map]; exact of_decide_eq_true c2, dvL_ok e⟩
/-- a dict of texts to ints -/
def kdEnt (e : DictEntry) : Option (Str × Int) := match e.key, e.val with
  | .str x _, .int i _ => some (x, i)
  | _, _ => none
def kdB (K : PySem.W.Frag) (x : Str) (ks : List Str) (l : List Int) : Bool := (He.Fa.glo x).ok K && (match K.lookup (He.ga K x) with
  | some ⟨_, _, .dict es _, _⟩ => decide (es.toList.map kdEnt = (ks.zip l).map some)
  | _ => false)
theorem kd_find : ∀ {es : List DictEntry} {ps : List (Str × Int)} (z : Str), es.map kdEnt = ps.map some → (∀ e ∈ es, e.refKey = false) ∧ match ps.lookup z with
    | some i => ∃ t e, es.find? (·.key.isStr z) = some e ∧ e.val = .int i t
    | none => es.find? (·.key.isStr z) = none
  | [], [], z, h => ⟨fun e he => (List.not_mem_nil he).elim, rfl⟩
  | [], _ :: _, z, h => by cases h
  | _ :: _, [], z, h => by cases h
  | e :: es, p :: ps, z, h => by
    rw [List.map_cons, List.map_cons] at h
    obtain ⟨h1, h2⟩ := List.cons.inj h
    obtain ⟨ih1, ih2⟩ := kd_find (es := es) (ps := ps) z h2
    unfold kdEnt at h1
    split at h1
    · rename_i x t i t' ek ev
      have h1 := Option.some.inj h1
      subst h1
      refine ⟨fun u hu => ?_, ?_⟩
      · rcases List.mem_cons.mp hu with rfl | hu
        · unfold DictEntry.refKey
          rw [ek]
        · exact ih1 u hu
      · rw [List.find?_cons]
        have ks : e.key.isStr z = (x == z) := by
          rw [ek]
          rfl
        rw [ks]
        show match (match z == x with | true => some i | false => ps.lookup z) with
          | some i => _
          | none => _
        by_cases q : x = z
        · subst q
          rw [beq_self_eq_true]
          exact ⟨t', e, rfl, ev⟩
        · have q1 : (x == z) = false := by simpa using q
          have q2 : (z == x) = false := by simpa using fun y : z = x => q y.symm
          rw [q1, q2]
          exact ih2
    · cases h1
theorem kdB_ok {w : World} {K : PySem.W.Frag} {h : Heap} {mg : Str → Option Value} {x : Str} {ks : List Str} {l : List Int} (X : K.In h) (G : h.Ns mainGlobals mg) (c : kdB K x ks l = true) (D : ∃ es n, KDict K w (He.ga K x) es n) : Con1 w K mg x (.kd x ks l) := by
  unfold kdB at c
  obtain ⟨c1, c2⟩ := ba c
  refine ⟨.ref (He.ga K x), _, He.glo_ok X G c1, rfl, fun G => ?_⟩
  simp only [Rep]
  refine ⟨by trivial, D, fun z => ?_⟩
  unfold PySem.W.nsIn
  cases q : K.lookup (He.ga K x) with
  | none =>
    rw [q] at c2
    cases c2
  | some o =>
    obtain ⟨oc, od, dt, osl⟩ := o
    rw [q] at c2
    cases dt with
    | dict es n =>
      have c3 := of_decide_eq_true c2
      obtain ⟨k1, k2⟩ := kd_find z c3
      show ∃ r, (match es.toList.find? (·.key.isStr z) with
        | some e => some (some e.val)
        | none => if es.toList.any (·.refKey) then none else some none) = some r ∧ _
      have k3 : es.toList.any (·.refKey) = false := by
        rw [List.any_eq_false]
        intro e he
        rw [k1 e he]
        simp
      cases e : (ks.zip l).lookup z with
      | none =>
        rw [e] at k2
        dsimp only at k2 ⊢
        rw [k2, k3]
        exact ⟨none, by simp⟩
      | some i =>
        rw [e] at k2
        dsimp only at k2 ⊢
        obtain ⟨t, en, k2, k4⟩ := k2
        rw [k2]
        simp [k4]
    | _ => cases c2

/-! ### the top, def by def -/
def Gs.pushF (g : Gs) (x : Str) (n : Nat) : Gs := { g with calls := g.calls ++ [⟨x, n⟩] }
def Gs.pushC (g : Gs) (x : Str) : Gs := { g with cons := g.cons ++ [x] }
def Tb.pushF (t : Tb) (F : Fn) : Tb := { t with fn := t.fn ++ [F] }
def Tb.pushC (t : Tb) (d : D) : Tb := { t with cn := t.cn ++ [d] }
def Gs.pushK (g : Gs) (c : KI) : Gs := { g with kcs := g.kcs ++ [c] }
def Gs.pushM (g : Gs) (c : MI) : Gs := { g with mts := g.mts ++ [c] }
def Gs.pushN (g : Gs) (c : NI) : Gs := { g with nws := g.nws ++ [c] }
def Tb.pushK (t : Tb) (F : Fn) (src : List Src) : Tb := { t with kc := t.kc ++ [(F, src)] }
def Tb.pushM (t : Tb) (F : Fn) (src : List Src) : Tb := { t with mt := t.mt ++ [(F, src)] }
def Tb.pushN (t : Tb) (F : Fn) (src : List Src) : Tb := { t with nw := t.nw ++ [(F, src)] }
theorem push_get {α β : Type} {P : α → β → Prop} {l : List α} {m : List β} {a : α} {b : β} (hl : l.length = m.length) (h : ∀ (n : Nat) (x : α), l[n]? = some x → ∃ y, m[n]? = some y ∧ P x y) (hp : P a b) : ∀ (n : Nat) (x : α), (l ++ [a])[n]? = some x → ∃ y, (m ++ [b])[n]? = some y ∧ P x y := fun n x e => by
  by_cases hn : n < l.length
  · rw [List.getElem?_append_left hn] at e
    obtain ⟨y, e1, e2⟩ := h n x e
    exact ⟨y, by rw [List.getElem?_append_left (by rw [← hl]; exact hn)]; exact e1, e2⟩
  · rw [List.getElem?_append_right (Nat.le_of_not_lt hn)] at e
    have z : n - l.length = 0 := by
      cases k : n - l.length with
      | zero => rfl
      | succ j =>
        rw [k] at e
        simp at e
    rw [z] at e
    simp at e
    subst e
    exact ⟨b, by rw [List.getElem?_append_right (by rw [← hl]; exact Nat.le_of_not_lt hn), ← hl, z]; rfl, hp⟩
/-- the same with the lists' lengths -/
structure Tops (P : Program) (w : World) (K : PySem.W.Frag) (mg : Str → Option Value) (base : Heap) (g : Gs) (tb : Tb) (L : Nat) : Prop where
  t : Top P w K mg base g tb L
  fl : g.calls.length = tb.fn.length
  cl : g.cons.length = tb.cn.length
  kl : g.kcs.length = tb.kc.length
  ml : g.mts.length = tb.mt.length
  nl : g.nws.length = tb.nw.length
  pl : g.prs.length = tb.pr.length
section
variable {P : Program} {w : World} {K : PySem.W.Frag} {mg : Str → Option Value} {base : Heap} {g : Gs} {t : Tb} {L : Nat}
theorem len1 {α γ : Type} {l : List α} {m : List γ} {a : α} {b : γ} (h : l.length = m.length) : (l ++ [a]).length = (m ++ [b]).length := by rw [List.length_append, List.length_append, h]; rfl
theorem no_get {α : Type} {n : Nat} {x : α} {p : Prop} (h : ([] : List α)[n]? = some x) : p := by simp at h
theorem Tops.nil {flds : List (Str × Str)} {gc : Bool} {xns xfs rzs : List Str} {sup exn : List (Str × List Str)} {L : Nat} (h : ∀ x ∈ fnames, mg x = none) (hf : ∀ p ∈ flds, Cls K (He.ga K p.1) ∧ NoAttr K (He.ga K p.1) p.2) (hg : gc = true → mg "gcd" = some (.builtin "math.gcd"))
    (hx : ∀ x ∈ xns, ∃ v cv, (mg x = some cv ∨ (mg x = none ∧ bootBuiltins x = some cv ∧ x ≠ "__name__")) ∧ RelV v cv ∧ (∀ u, RelV v u → u = cv) ∧ ∀ c us, sup.lookup c = some us → PySem.W.exmOne K (.ref (He.ga K c)) cv = some (us.contains x) ∧ PySem.W.kitOne K (.ref (He.ga K c)) cv = some (us.contains x))
    (hc : ∀ c us, sup.lookup c = some us → XfC K (He.ga K c) ∧ ExcC K (He.ga K c) ∧ ∀ f ∈ xfs, PySem.W.findIn K (.ref (He.ga K c)) f = some none) (hr : ∀ c ∈ rzs, ∃ ns, exn.lookup c = some ns ∧ RzOk P w K mg base L c ns) :
    Tops P w K mg base ⟨[], [], [], [], [], flds, gc, [], xns, xfs, rzs, false⟩ ⟨[], [], [], [], [], [], sup, exn, none⟩ L :=
  ⟨⟨h, fun n x e => no_get e, fun n x e => no_get e, fun n x e => no_get e, fun n x e => no_get e, fun n x e => no_get e, hf, hg, fun n x e => no_get e, hx, hc, hr⟩, rfl, rfl, rfl, rfl, rfl, rfl⟩
theorem Tops.con (T : Tops P w K mg base g t L) {x : Str} {d : D} (h : Con1 w K mg x d) : Tops P w K mg base (g.pushC x) (t.pushC d) L := by
  refine ⟨⟨T.t.free, fun n y e => ?_, T.t.call, T.t.kc, T.t.mt, T.t.nw, T.t.fl, T.t.gc, T.t.pr, T.t.xn, T.t.xc, T.t.rz⟩, T.fl, len1 T.cl, T.kl, T.ml, T.nl, T.pl⟩
  obtain ⟨y', e1, v, u, q⟩ := push_get (P := fun x d => Con1 w K mg x d) T.cl (fun n x e => by
    obtain ⟨d, v, u, e1, q⟩ := T.t.con n x e
    exact ⟨d, e1, v, u, q⟩) h n y e
  exact ⟨y', v, u, e1, q⟩
theorem Tops.mono (T : Tops P w K mg base g t L) {L' : Nat} (h : L ≤ L') : Tops P w K mg base g t L' := ⟨T.t.mono h, T.fl, T.cl, T.kl, T.ml, T.nl, T.pl⟩
theorem Tops.fnA (T : Tops P w K mg base g t L) {x : Str} {n : Nat} {F : Fn} {f : Addr} (h : CallOk P w K mg base L ⟨x, n⟩ F f) : Tops P w K mg base (g.pushF x n) (t.pushF F) L := by
  refine ⟨⟨T.t.free, T.t.con, fun n y e => ?_, T.t.kc, T.t.mt, T.t.nw, T.t.fl, T.t.gc, T.t.pr, T.t.xn, T.t.xc, T.t.rz⟩, len1 T.fl, T.cl, T.kl, T.ml, T.nl, T.pl⟩
  obtain ⟨F', e1, f', q⟩ := push_get (P := fun c F => ∃ f, CallOk P w K mg base L c F f) T.fl (fun n x e => by
    obtain ⟨F, f, e1, q⟩ := T.t.call n x e
    exact ⟨F, e1, f, q⟩) ⟨f, h⟩ n y e
  exact ⟨F', f', e1, q⟩
theorem Tops.fn (T : Tops P w K mg base g t L) {x : Str} {n : Nat} {F : Fn} {f : Addr} (h : CallOk P w K mg base (L + 1) ⟨x, n⟩ F f) : Tops P w K mg base (g.pushF x n) (t.pushF F) (L + 1) := (T.mono (Nat.le_succ L)).fnA h
theorem Tops.kc (T : Tops P w K mg base g t L) {c : KI} {F : Fn} {src : List Src} {f : Addr} (gl : mg c.name = some (.ref f)) (kp : PySem.W.keepIn K (.ref f) = true) (h : KwOk P w K mg base L c.n c.ks src F f) : Tops P w K mg base (g.pushK c) (t.pushK F src) L := by
  refine ⟨⟨T.t.free, T.t.con, T.t.call, fun n y e => ?_, T.t.mt, T.t.nw, T.t.fl, T.t.gc, T.t.pr, T.t.xn, T.t.xc, T.t.rz⟩, T.fl, T.cl, len1 T.kl, T.ml, T.nl, T.pl⟩
  obtain ⟨⟨F', src'⟩, e1, f', q⟩ := push_get (P := fun (c : KI) (p : Fn × List Src) => ∃ f, mg c.name = some (.ref f) ∧ PySem.W.keepIn K (.ref f) = true ∧ KwOk P w K mg base L c.n c.ks p.2 p.1 f) T.kl (fun n x e => by
    obtain ⟨F, src, f, e1, q⟩ := T.t.kc n x e
    exact ⟨(F, src), e1, f, q⟩) (b := (F, src)) ⟨f, gl, kp, h⟩ n y e
  exact ⟨F', src', f', e1, q⟩
theorem Tops.mt (T : Tops P w K mg base g t L) {c : MI} {F : Fn} {src : List Src} {f : Addr} (cl : Cls K (He.ga K c.c)) (mm : Meth K (He.ga K c.c) c.m f) (h : KwOk P w K mg base L (c.n + 1) c.ks src F f) : Tops P w K mg base (g.pushM c) (t.pushM F src) L := by
  refine ⟨⟨T.t.free, T.t.con, T.t.call, T.t.kc, fun n y e => ?_, T.t.nw, T.t.fl, T.t.gc, T.t.pr, T.t.xn, T.t.xc, T.t.rz⟩, T.fl, T.cl, T.kl, len1 T.ml, T.nl, T.pl⟩
  obtain ⟨⟨F', src'⟩, e1, f', q⟩ := push_get (P := fun (c : MI) (p : Fn × List Src) => ∃ f, Cls K (He.ga K c.c) ∧ Meth K (He.ga K c.c) c.m f ∧ KwOk P w K mg base L (c.n + 1) c.ks p.2 p.1 f) T.ml (fun n x e => by
    obtain ⟨F, src, f, e1, q⟩ := T.t.mt n x e
    exact ⟨(F, src), e1, f, q⟩) (b := (F, src)) ⟨f, cl, mm, h⟩ n y e
  exact ⟨F', src', f', e1, q⟩
theorem Tops.nw (T : Tops P w K mg base g t L) {c : NI} {F : Fn} {src : List Src} {f : Addr} {k : Nat} (gl : mg c.c = some (.ref (He.ga K c.c))) (M : Mk K (He.ga K c.c) f) (hk : k + 1 ≤ L) (h : KwOk P w K mg base k (c.n + 1) c.ks src F f) : Tops P w K mg base (g.pushN c) (t.pushN F src) L := by
  refine ⟨⟨T.t.free, T.t.con, T.t.call, T.t.kc, T.t.mt, fun n y e => ?_, T.t.fl, T.t.gc, T.t.pr, T.t.xn, T.t.xc, T.t.rz⟩, T.fl, T.cl, T.kl, T.ml, len1 T.nl, T.pl⟩
  obtain ⟨⟨F', src'⟩, e1, f', k', q⟩ := push_get (P := fun (c : NI) (p : Fn × List Src) => ∃ f k, mg c.c = some (.ref (He.ga K c.c)) ∧ Mk K (He.ga K c.c) f ∧ k + 1 ≤ L ∧ KwOk P w K mg base k (c.n + 1) c.ks p.2 p.1 f) T.nl (fun n x e => by
    obtain ⟨F, src, f, k, e1, q⟩ := T.t.nw n x e
    exact ⟨(F, src), e1, f, k, q⟩) (b := (F, src)) ⟨f, k, gl, M, hk, h⟩ n y e
  exact ⟨F', src', f', k', e1, q⟩
theorem Tops.pr (T : Tops P w K mg base g t L) {c : Str × Str} {F : Fn} {f p : Addr} {k : Nat} {fd : FuncData} {ps : List Str} (cl : Cls K (He.ga K c.1)) (po : PropOf K (He.ga K c.1) c.2 p f) (hk : k + 1 ≤ L) (hF : FnOk P w K mg base (L2.CX P w) k f fd ps (spF ⟨K, w⟩ F)) (hb : Binds K fd ps []) : Tops P w K mg base { g with prs := g.prs ++ [c] } { t with pr := t.pr ++ [F] } L := by
  refine ⟨⟨T.t.free, T.t.con, T.t.call, T.t.kc, T.t.mt, T.t.nw, T.t.fl, T.t.gc, fun n y e => ?_, T.t.xn, T.t.xc, T.t.rz⟩, T.fl, T.cl, T.kl, T.ml, T.nl, len1 T.pl⟩
  obtain ⟨F', e1, f', p', k', fd', ps', q⟩ := push_get (P := fun (c : Str × Str) (F : Fn) => ∃ f p k fd ps, Cls K (He.ga K c.1) ∧ PropOf K (He.ga K c.1) c.2 p f ∧ k + 1 ≤ L ∧ FnOk P w K mg base (L2.CX P w) k f fd ps (spF ⟨K, w⟩ F) ∧ Binds K fd ps []) T.pl (fun n x e => by
    obtain ⟨F, f, p, k, fd, ps, e1, q⟩ := T.t.pr n x e
    exact ⟨F, e1, f, p, k, fd, ps, q⟩) ⟨f, p, k, fd, ps, cl, po, hk, hF, hb⟩ n y e
  exact ⟨F', f', p', k', fd', ps', e1, q⟩
/-- a def that is not yet there: nothing is said of it -/
theorem CallOk.none {k : Nat} {f : Addr} {c : CI} (gl : mg c.name = some (.ref f)) (kp : PySem.W.keepIn K (.ref f) = true) : CallOk P w K mg base k c (fun _ _ => .st) f :=
  ⟨gl, kp, fun A outer s H us vs Q Ex hr e0 r hv q => by
    obtain ⟨G, B, ws, S, L, _, _, _, h⟩ := q
    exact h.elim⟩
/-- values put in the parameters' order: (0, i) a positional value, (1, j) a keyword's, (2, j) a default -/
def srcA {α : Type} (z : α) (ms us ws : List α) : List (Nat × Nat) → List α
  | [] => []
  | (0, i) :: r => us.getD i z :: srcA z ms us ws r
  | (1, j) :: r => ws.getD j z :: srcA z ms us ws r
  | (_ + 2, j) :: r => ms.getD j z :: srcA z ms us ws r
def srcOf (ds : List D) : List (Nat × Nat) → List Src
  | [] => []
  | (0, i) :: r => .pos i :: srcOf ds r
  | (1, j) :: r => .kw j :: srcOf ds r
  | (_ + 2, j) :: r => .dfl (ds.getD j .non) :: srcOf ds r
theorem vals_getD : ∀ {vs : List V} {us : List Value} (i : Nat), Vals vs us → RelV (vs.getD i .non) (us.getD i .none)
  | _, _, _, .nil => rfl
  | _, _, 0, .cons r _ => r
  | _, _, i + 1, .cons _ r => by simpa using vals_getD i r
theorem srcA_rel {ms : List V} {mv : List Value} (hm : Vals ms mv) {vs zs : List V} {us ws : List Value} (r1 : Vals vs us) (r2 : Vals zs ws) : ∀ c : List (Nat × Nat), Vals (srcA .non ms vs zs c) (srcA .none mv us ws c)
  | [] => .nil
  | (0, i) :: r => .cons (vals_getD i r1) (srcA_rel hm r1 r2 r)
  | (1, j) :: r => .cons (vals_getD j r2) (srcA_rel hm r1 r2 r)
  | (_ + 2, j) :: r => .cons (vals_getD j hm) (srcA_rel hm r1 r2 r)
theorem repWs_get {KW : KW} {G : Hp} {B : List Addr} : ∀ {ws : List W} {vs : List V} {i : Nat} {w : W}, RepWs KW G B ws vs → ws[i]? = some w → RepW KW G B w (vs.getD i .non)
  | [], vs, i, w, r, h => by simp at h
  | x :: ws, vs, 0, w, r, h => by
    obtain ⟨v, u, e, r1, _⟩ := r
    simp at h
    subst h e
    exact r1
  | x :: ws, vs, i + 1, w, r, h => by
    obtain ⟨v, u, e, _, r2⟩ := r
    subst e
    have := repWs_get (i := i) r2 (by simpa using h)
    simpa using this
theorem srcA_rep {KW : KW} {G : Hp} {B : List Addr} {ds : List D} {dv : List V} (hd : RepL KW G ds dv) {ws zs : List W} {vs zv : List V} (r1 : RepWs KW G B ws vs) (r2 : RepWs KW G B zs zv) : ∀ {c : List (Nat × Nat)} {us : List W}, arr ws zs (srcOf ds c) = some us → RepWs KW G B us (srcA .non dv vs zv c)
  | [], us, h => by
    simp only [srcOf, arr, Option.some.injEq] at h
    subst h
    exact rfl
  | (0, i) :: r, us, h => by
    simp only [srcOf, arr] at h
    split at h
    · rename_i w l h1 h2
      cases h
      exact ⟨_, _, rfl, repWs_get r1 h1, srcA_rep hd r1 r2 h2⟩
    · cases h
  | (1, j) :: r, us, h => by
    simp only [srcOf, arr] at h
    split at h
    · rename_i w l h1 h2
      cases h
      exact ⟨_, _, rfl, repWs_get r2 h1, srcA_rep hd r1 r2 h2⟩
    · cases h
  | (_ + 2, j) :: r, us, h => by
    simp only [srcOf, arr] at h
    split at h
    · rename_i w l h1 h2
      cases h
      have e : w = .d (ds.getD j .non) := (Option.some.inj h1).symm
      subst e
      refine ⟨_, _, rfl, ?_, srcA_rep hd r1 r2 h2⟩
      show Rep KW G (ds.getD j .non) (dv.getD j .non)
      cases q : ds[j]? with
      | some d =>
        obtain ⟨v, e1, e2⟩ := hd.get q
        rw [List.getD_eq_getElem?_getD, List.getD_eq_getElem?_getD, q, e1]
        exact e2
      | none =>
        have q2 : dv[j]? = none := by
          rw [List.getElem?_eq_none_iff, ← hd.length]
          exact List.getElem?_eq_none_iff.mp q
        rw [List.getD_eq_getElem?_getD, List.getD_eq_getElem?_getD, q, q2]
        simp [Rep]
    · cases h
/-- every parameter is written -/
theorem KwOk.kw0 {x qual : Str} {params : Arguments} {body : List Stmt} {scope : Scope} {kws : List (Str × V)} {f : Addr} {fd : FuncData} {k n : Nat} {ks ps : List Str} {fn : Fn} {c : List (Nat × Nat)} (F : FunD K x qual params body scope [] kws f fd) (H : FnOk P w K mg base (L2.CX P w) k f fd ps (spF ⟨K, w⟩ fn))
    (h : ∀ (kV doc pm : Value) (an : Option Addr) (cdv ct : Value) (us ws : List Value), us.length = n → ws.length = ks.length → bindArgs (PySem.W.fnOf x qual params body scope .none kV doc pm an cdv ct) ⟨us, ks.zip ws⟩ = pure (ps.zip (srcA .none [] us ws c))) : KwOk P w K mg base k n ks (srcOf [] c) fn f := by
  refine ⟨fd, ps, fun us ws => srcA .none [] us ws c, fun vs zs => srcA .non [] vs zs c, H, ?_, fun G B ws zs vs zv us r1 r2 _ _ ha => srcA_rep (by simp [RepL]) r1 r2 ha⟩
  obtain ⟨oc, od, dV, kV, doc, pm, an, cdv, ct, osl, rfl, lk, hcd, hD, hK⟩ := F.ex
  rcases hD with ⟨_, rfl⟩ | ⟨e, _⟩
  · exact ⟨fun s us ws X l1 l2 => .of_eq (h kV doc pm an cdv ct us ws l1 l2), fun r1 r2 => srcA_rel .nil r1 r2 c⟩
  · exact absurd rfl e
/-- some keyword-only ones are left out -/
theorem KwOk.kw1 {x qual : Str} {params : Arguments} {body : List Stmt} {scope : Scope} {kws : List (Str × V)} {f : Addr} {fd : FuncData} {k n : Nat} {ks ps : List Str} {fn : Fn} {c : List (Nat × Nat)} {ds : List D} (F : FunD K x qual params body scope [] kws f fd) (H : FnOk P w K mg base (L2.CX P w) k f fd ps (spF ⟨K, w⟩ fn)) (ms : List (Str × V)) (hk : kws ≠ []) (hms : ∀ q ∈ ms, q ∈ kws) (hd : ∀ G, RepL ⟨K, w⟩ G ds (ms.map (·.2)))
    (h : ∀ (D : Addr) (doc pm : Value) (an : Option Addr) (cdv ct : Value) (us mv ws : List Value), us.length = n → mv.length = ms.length → ws.length = ks.length → KwChain D ((ms.map (·.1)).zip mv) (bindArgs (PySem.W.fnOf x qual params body scope .none (.ref D) doc pm an cdv ct) ⟨us, ks.zip ws⟩) (ps.zip (srcA .none mv us ws c))) : KwOk P w K mg base k n ks (srcOf ds c) fn f := by
  obtain ⟨oc, od, dV, kV, doc, pm, an, cdv, ct, osl, rfl, lk, hcd, hD, hK⟩ := F.ex
  rcases hD with ⟨_, rfl⟩ | ⟨e, _⟩
  · rcases hK with e | ⟨D, rfl, hq⟩
    · exact absurd e hk
    · obtain ⟨mv, hl, rk, hks⟩ := kwd_vals (ms := ms) fun q hm => hq q (hms q hm)
      exact ⟨_, ps, fun us ws => srcA .none mv us ws c, fun vs zs => srcA .non (ms.map (·.2)) vs zs c, H, ⟨fun s us ws X l1 l2 => BindsTo.of_looks fun M => KwChain.looks X hks (h D doc pm an cdv ct us mv ws l1 hl l2), fun r1 r2 => srcA_rel rk r1 r2 c⟩, fun G B ws zs vs zv us r1 r2 _ _ ha => srcA_rep (hd G) r1 r2 ha⟩
  · exact absurd rfl e
/-- a plain def, its parameters all written -/
theorem Tops.def_ (T : Tops P w K mg base g t L) {x qual : Str} {params : Arguments} {body : List Stmt} {scope : Scope} {f : Addr} {fd : FuncData} {N : List Str} {np : Nat} {b : B} (F : FunD K x qual params body scope [] [] f fd) (h : chkD g N np scope b body = true) (gl : mg x = some (.ref f))
    (hn : (N.take np).length = np) (hb : ∀ (kV doc pm : Value) (an : Option Addr) (cdv ct : Value) (us : List Value), us.length = (N.take np).length → bindArgs (PySem.W.fnOf x qual params body scope .none kV doc pm an cdv ct) ⟨us, []⟩ = pure ((N.take np).zip us)) :
    Tops P w K mg base (g.pushF x np) (t.pushF (run t np N.length b)) (L + 1) :=
  T.fn (CallOk.of (fn_ok F h T.t) (F.bindsN hb) gl F.kp ⟨x, np⟩ rfl hn.symm)
/-- whatever world -/
def CXa : CXT := fun outer H s E e s' => ∃ (P : Program) (w : World), L2.CX P w outer H s E e s'
theorem CXa_no (H : Hp) (s : Shared) (e : Value) (s' : Shared) (h : CXa [] H s (fun _ _ _ => False) e s') : False := by
  obtain ⟨P, w, a, B, H', cls, d, _, _, _, _, _, _, _, z⟩ := h
  exact z
theorem fn_any {k : Nat} {f : Addr} {fd : FuncData} {ps : List Str} {sp : Sp} (F : FnOk P w K mg base (L2.CX P w) k f fd ps sp) : FnOk P w K mg base CXa k f fd ps sp :=
  ⟨F.len, fun A outer s H args us vs Q E hr e0 hb r q => codeAny_mono (F.run A outer s H args us vs Q E hr e0 hb r q) fun r s' z => by
    cases r with
    | error e => exact ⟨P, w, z⟩
    | ok fl => cases fl <;> exact z⟩
/-- the law's own def -/
theorem law_sp {w : World} {K : PySem.W.Frag} {H : Hp} {a : Addr} {ns : List Int} {F : Fn} (h : ∃ S, F [.d (.ro (ns.map .int))] [] = .ok (.d (.bl true)) S) (hl : ns.length ≤ sizeLine) (hS : SqL K H a (ns.map V.int)) : spF ⟨K, w⟩ F [.ref a] H (fun v _ => v = .bl true) fun _ _ _ => False := by
  obtain ⟨S, e⟩ := h
  refine ⟨H, [], [.d (.ro (ns.map .int))], [], fun _ => False, ⟨.ref a, [], rfl, ?_, rfl⟩, ⟨Sub.refl H, rfl, fun i o q => by simp at q, fun i j o u x q => by simp at q, fun a o q _ => q, fun a _ _ => rfl, Sub.refl H, fun a q => q, [], rfl⟩, fun x => ⟨fun q => q.elim, fun ⟨i, o, q, _⟩ => by simp at q⟩, ?_⟩
  · show Rep ⟨K, w⟩ H (.ro (ns.map .int)) (.ref a)
    simp only [Rep]
    refine ⟨a, ns.map V.int, rfl, hS, by rw [List.length_map]; exact hl, ?_⟩
    have : ∀ l : List Int, RepL ⟨K, w⟩ H (l.map .int) (l.map V.int) := fun l => by
      induction l with
      | nil => simp [RepL]
      | cons i l ih => exact ⟨_, _, rfl, by simp only [Rep], ih⟩
    exact this ns
  · rw [e]
    intro v H' G' B' s x r
    have r : Rep ⟨K, w⟩ G' (.bl true) v := r
    simpa only [Rep] using r
end
end En

namespace En
open PySem PySem.Spec PyProof.Rows L2 NdefX
/-! ### defs that stand elsewhere: an exception's __init__, a property's getter -/
abbrev FnZ : Type := Option (Str × Str × Arguments × FuncBody × Scope × Addr × Addr)
def fnZ (K : PySem.W.Frag) (a : Addr) : FnZ := match K.lookup a with
  | some ⟨_, _, .func fd, _⟩ => some (fd.name, fd.qualname, fd.params, fd.body, fd.scope, fd.globals, fd.builtins)
  | _ => none
structure XD where
  ad : PySem.W.Frag → Addr
  name : Str
  qual : Str
  params : Arguments
  body : List Stmt
  scope : Scope
def XD.val (x : XD) : FnZ := some (x.name, x.qual, x.params, .stmts x.body, x.scope, mainGlobals, builtinsNs)
def initAd (c : Str) (K : PySem.W.Frag) : Addr := match PySem.W.findIn K (.ref (He.ga K c)) "__init__" with
  | some (some (.ref a)) => a
  | _ => 0
def propP (c f : Str) (K : PySem.W.Frag) : Addr := match PySem.W.findIn K (.ref (He.ga K c)) f with
  | some (some (.ref p)) => p
  | _ => 0
def propAd (c f : Str) (K : PySem.W.Frag) : Addr := match PySem.W.recIn K (propP c f K) "property" with
  | some (.ref g :: _) => g
  | _ => 0
abbrev AlY : Type := He.AlX × List FnZ
def obsY (n : Nat) (fa : List He.Fa) (fn : List He.DefD) (ts : List He.Tab) (ex : PySem.W.Frag → Bool) (xs : List XD) (g : Addr → Option Obj) : AlY := (He.obsX n fa fn ts [] ex g, xs.map fun x => fnZ (He.frT g (He.asD g n)) (x.ad (He.frT g (He.asD g n))))
def valY (fn : List He.DefD) (ts : List He.Tab) (xs : List XD) (w : World) : AlY := (He.valX fn ts w, xs.map XD.val)
structure SaysY (fa : List He.Fa) (fn : List He.DefD) (ts : List He.Tab) (ex : PySem.W.Frag → Bool) (xs : List XD) (w : World) (h : Heap) (K : PySem.W.Frag) : Prop where
  x : He.SaysX fa fn ts [] ex w h K
  z : (xs.map fun x => fnZ K (x.ad K)) = xs.map XD.val
theorem SaysY.at {fa : List He.Fa} {fn : List He.DefD} {ts : List He.Tab} {ex : PySem.W.Frag → Bool} {xs : List XD} {w : World} {h : Heap} {K : PySem.W.Frag} (c : SaysY fa fn ts ex xs w h K) (i : Nat) {x : XD} (hx : xs[i]? = some x) : fnZ K (x.ad K) = x.val := by
  have e : (xs.map fun x => fnZ K (x.ad K))[i]? = (xs.map XD.val)[i]? := by rw [c.z]
  rw [List.getElem?_map, List.getElem?_map, hx] at e
  exact Option.some.inj e
def hookY (n : Nat) (fa : List He.Fa) (fn : List He.DefD) (ts : List He.Tab) (ex : PySem.W.Frag → Bool) (xs : List XD) : PySem.W.Hook where
  α := AlY
  obs := fun s => obsY n fa fn ts ex xs s.heap.get?
  val := fun w => valY fn ts xs w
  says := fun w h => ∃ K : PySem.W.Frag, K.In h ∧ SaysY fa fn ts ex xs w h K
  of := fun w s e => ⟨_, He.frT_in, ⟨He.saysX_of (congrArg (fun z : AlY => z.1) e), congrArg (fun z : AlY => z.2) e⟩⟩
  keeps := fun _ _ _ ⟨K, hK, c⟩ k => ⟨K, PySem.W.Frag.In.keeps hK k, ⟨⟨c.x.t, c.x.more, c.x.hd, c.x.out, fun p hp => k _ _ (c.x.empty p hp)⟩, c.z⟩⟩
theorem obsY_eq {n : Nat} {fa : List He.Fa} {fn : List He.DefD} {ts : List He.Tab} {ex : PySem.W.Frag → Bool} {xs : List XD} {g : Addr → Option Obj} {s : Shared} (h : ∀ a, g a = s.heap.get? a) : obsY n fa fn ts ex xs g = (hookY n fa fn ts ex xs).obs s := by
  have e : g = s.heap.get? := funext h
  rw [e] <;> rfl
theorem fnZ_at {K : PySem.W.Frag} {a : Addr} {x : XD} (h : fnZ K a = x.val) : ∃ oc od fd osl, K.lookup a = some ⟨oc, od, .func fd, osl⟩ ∧ fd.name = x.name ∧ fd.qualname = x.qual ∧ fd.params = x.params ∧ fd.body = .stmts x.body ∧ fd.scope = x.scope ∧ fd.globals = mainGlobals ∧ fd.builtins = builtinsNs := by
  unfold fnZ at h
  split at h
  · rename_i oc od fd osl q
    unfold XD.val at h
    simp only [Option.some.injEq, Prod.mk.injEq] at h
    obtain ⟨h1, h2, h3, h4, h5, h6, h7⟩ := h
    exact ⟨_, _, _, _, q, h1, h2, h3, h4, h5, h6, h7⟩
  · cases h
/-! ### an exception class with an __init__ -/
def oexB (K : PySem.W.Frag) (C : Addr) : Bool := (match K.lookup C with
  | some ⟨.type t, _, .cls cd, sl⟩ => decide (t = "type") && (match cd.mro, sl.toList with
    | .ref C' :: bm, [_, _, _, _, some (.builtin n), _] => (decide (C' = C) && decide (n = "ValueError.__new__")) && ((!cd.hasDel && cd.hasDict) && PySem.HandSPX.refsVE bm)
    | _, _ => false)
  | _ => false) && (decide (PySem.W.findIn K (.ref C) "__setattr__" = some (some (.builtin "object.__setattr__"))) && (decide (PySem.W.subIn K (.ref C) (.type "BaseException") = some true) && (decide (PySem.W.typeIn K (.ref C) = some (.type "type")) && PySem.W.keepIn K (.ref C))))
theorem oexB_ok {K : PySem.W.Frag} {C : Addr} (h : oexB K C = true) : OexC K C := by
  unfold oexB at h
  obtain ⟨h1, h⟩ := ba h
  obtain ⟨h2, h⟩ := ba h
  obtain ⟨h3, h⟩ := ba h
  obtain ⟨h4, h5⟩ := ba h
  refine ⟨?_, of_decide_eq_true h2, of_decide_eq_true h3, of_decide_eq_true h4, h5⟩
  split at h1
  · rename_i t dd cd sl ho
    obtain ⟨h0, h6⟩ := ba h1
    clear h1
    have h0 := of_decide_eq_true h0
    subst h0
    split at h6
    · rename_i C' bm k0 k1 k2 k3 n k5 hm hs
      obtain ⟨q1, q2⟩ := ba h6
      obtain ⟨q3, q4⟩ := ba q1
      obtain ⟨q5, q6⟩ := ba q2
      obtain ⟨q7, q8⟩ := ba q5
      have q3 := of_decide_eq_true q3
      have q4 := of_decide_eq_true q4
      subst q3 q4
      obtain ⟨nm, bs, mro, ns, qn, hd, sn, sub, ab, col, del⟩ := cd
      dsimp only at hm q7 q8
      have q7 : del = false := by simpa using q7
      subst hm q7 q8
      have hsl : sl = #[k0, k1, k2, k3, some (.builtin "ValueError.__new__"), k5] := by
        obtain ⟨l⟩ := sl
        simp only at hs
        rw [hs]
      subst hsl
      exact ⟨nm, qn, ns, bs, bm, sn, sub, ab, col, dd, k0, k1, k2, k3, k5, ho, q6⟩
    · cases h6
  · cases h1
def fileB (K : PySem.W.Frag) (file : Str) (c : Addr) : Bool := match K.lookup c with
  | some ⟨_, _, .fields vs, _⟩ => (match vs[2]? with
    | some (Value.str f _) => file == f
    | _ => false)
  | _ => false
def cellB (K : PySem.W.Frag) (C cc : Addr) : Bool := match K.lookup cc with
  | some ⟨_, _, .cell (some (.ref D)), _⟩ => decide (D = C)
  | _ => false
def isNone : Value → Bool
  | .none => true
  | _ => false
def funB (K : PySem.W.Frag) (file qual : Str) (C f : Addr) : Bool := match K.lookup f with
  | some ⟨_, _, .func fd, _⟩ => isNone fd.defaults && ((match fd.code, fd.closure with
    | .ref cd, [(n, cc)] => decide (n = "__class__") && (PySem.W.codeIn K (.ref cd) qual && (fileB K file cd && cellB K C cc))
    | _, _ => false))
  | _ => false
/-- the class c, its __init__ storing ns -/
def excB (K : PySem.W.Frag) (file c qual : Str) (ns : List Str) : Bool := oexB K (He.ga K c) && ((decide (PySem.W.findIn K (.ref (He.ga K c)) "__init__" = some (some (.ref (initAd c K)))) && decide (PySem.W.typeIn K (.ref (initAd c K)) = some (.type "function"))) &&
  (funB K file qual (He.ga K c) (initAd c K) && (decide (PySem.W.ks_superIn K (He.ga K c) (He.ga K c) "__init__" = some (some (.builtin "ValueError.__init__"))) && ((decide (PySem.W.mroIn K (He.ga K c) (.ref (He.ga K c)) = some true) && decide (PySem.W.subIn K (.ref (He.ga K c)) (.type "ValueError") = some true)) &&
  (He.eqO (PySem.W.nsIn K cStatics "thirdparty.any") (some none) && (ns.all fun f => He.eqO (PySem.W.findIn K (.ref (He.ga K c)) f) (some none)))))))
def initB (N ps ns : List Str) (params : Arguments) (body : List Stmt) (sc : Scope) : Bool := nscB N ps ["__class__"] sc && ((match (params.posonlyargs ++ params.args).head?, ps with
  | some ar, p :: _ => decide (ar.arg = p)
  | _, _ => false) && ((decide (sc.names.lookup ("super" : Str) = some .globalImplicit) && (decide (ps.length = ns.length + 1) && (!ns.isEmpty && decide (ns.length ≤ 900)))) && (match body with
  | .Expr (.Call (.Attribute (.Call (.Name s _) [] [] _) i p2) [.Constant (.str _) _ _] [] p4) _ :: rest => (decide (s = "super") && decide (i = "__init__")) && ((p2.endLine == p4.line) && asgB N sc rest ns 1)
  | _ => false)))
section
variable {P : Program} {w : World} {K : PySem.W.Frag} {mg : Str → Option Value} {base : Heap}
theorem sx_ok {c : Str} {x : XD} {N ps ns : List Str} (hx : fnZ K (initAd c K) = x.val) (hb : excB K P.main.file c x.qual ns = true) (gl : mg c = some (.ref (He.ga K c))) (hm : mg "super" = none) (htop : (P.main.scope.names.lookup ("super" : Str)).isSome = false)
    (hi : initB N ps ns x.params x.body x.scope = true) (hbd : ∀ (nm qu : Str) (cl : List (Str × Addr)) (kV doc pm : Value) (an : Option Addr) (cdv ct : Value) (us : List Value), us.length = ps.length → bindArgs (PySem.W.fnX nm qu x.params x.body x.scope cl .none kV doc pm an cdv ct) ⟨us, []⟩ = pure (ps.zip us)) :
    SxOk P w K mg base 1 c (He.ga K c) ns := by
  unfold excB at hb
  obtain ⟨b1, hb⟩ := ba hb
  obtain ⟨b2, hb⟩ := ba hb
  obtain ⟨b2, b3⟩ := ba b2
  obtain ⟨b4, hb⟩ := ba hb
  obtain ⟨b5, hb⟩ := ba hb
  obtain ⟨b6, hb⟩ := ba hb
  obtain ⟨b6, b7⟩ := ba b6
  obtain ⟨b8, b9⟩ := ba hb
  have oex := oexB_ok b1
  obtain ⟨oc, od, fd, osl, lk, e1, e2, e3, e4, e5, e6, e7⟩ := fnZ_at hx
  unfold funB at b4
  rw [lk] at b4
  obtain ⟨n1, n2, n3, n4, n5, n6, n7, n8, n9, n10, n11, n12, n13, n14, n15⟩ := fd
  dsimp only at e1 e2 e3 e4 e5 e6 e7 b4
  subst e1 e2 e3 e4 e5 e6 e7
  obtain ⟨b4, b10⟩ := ba b4
  have d8 : n8 = .none := by
    cases n8 <;> first
      | rfl
      | cases b4
  subst d8
  have hcc : ∃ cd cc, n13 = .ref cd ∧ n7 = [(("__class__" : Str), cc)] ∧ PySem.W.codeIn K (.ref cd) x.qual = true ∧ fileB K P.main.file cd = true ∧ cellB K (He.ga K c) cc = true := by
    cases n13
    case ref cd =>
      rcases n7 with _ | ⟨⟨n, cc⟩, _ | ⟨_, _⟩⟩
      · cases b10
      · obtain ⟨c1, b10⟩ := ba b10
        obtain ⟨c2, b10⟩ := ba b10
        obtain ⟨c3, c4⟩ := ba b10
        have c1 := of_decide_eq_true c1
        subst c1
        exact ⟨cd, cc, rfl, rfl, c2, c3, c4⟩
      · cases b10
    all_goals exact absurd (show false = true from b10) Bool.false_ne_true
  obtain ⟨cd, cc, hn13, hn7, c2, c3, c4⟩ := hcc
  subst hn13 hn7
  · unfold fileB at c3
    split at c3
    · rename_i ccl cdd vs ccs lc
      split at c3
      · rename_i file tf hvs
        unfold cellB at c4
        split at c4
        · rename_i cl cld D csl lcc
          have c4 := of_decide_eq_true c4
          subst c4
          unfold initB at hi
          obtain ⟨i1, ia⟩ := ba hi
          obtain ⟨i2, ib⟩ := ba ia
          obtain ⟨ic, i4⟩ := ba ib
          obtain ⟨i3, id'⟩ := ba ic
          obtain ⟨i5, ie⟩ := ba id'
          obtain ⟨i6, i7⟩ := ba ie
          clear ia ib ic id' ie hi
          have S := nscope_by i1
          have X : SxC P K (He.ga K c) (initAd c K) ⟨x.name, x.qual, x.params, x.body, x.scope, [(("__class__" : Str), cc)], cd⟩ := ⟨oex, of_decide_eq_true b2, of_decide_eq_true b3, ⟨_, _, _, _, _, _, _, _, _, lk⟩, c2, ⟨_, _, _, _, _, _, lc, hvs, c3⟩, ⟨cc, _, _, _, rfl, lcc⟩, by
            obtain ⟨nm, q, N', bs, bm, sn, sub, ab, col, dd, k0, k1, k2, k3, k5, ho, _⟩ := oex.cls
            exact ⟨_, by unfold PySem.W.clsIn; rw [ho]⟩, of_decide_eq_true b5, of_decide_eq_true b6, of_decide_eq_true b7, He.eqO_ok b8⟩
          split at i2
          · rename_i ar p ps' har
            have i8 := of_decide_eq_true i2
            clear i2
            subst i8
            split at i4
            · rename_i s p0 p1 ii p2 m j p3 p4 p5 rest hbody
              obtain ⟨ja, jb⟩ := ba i4
              obtain ⟨j1, j3⟩ := ba ja
              obtain ⟨j2, j4⟩ := ba jb
              clear ja jb i4
              have j1 := of_decide_eq_true j1
              have j3 := of_decide_eq_true j3
              subst j1 j3
              obtain ⟨oc', od', dV', kV', doc', pm', an', ct', osl', lk', F1⟩ := sx_fn (w := w) (mg := mg) (base := base) (k := 0) (ns := ns) S X har rfl (of_decide_eq_true i3) hm htop j2 hbody j4 (of_decide_eq_true i5) (by
                intro z
                rw [z] at i6
                simp at i6) (of_decide_eq_true i7) (fun f hf => He.eqO_ok (List.all_eq_true.mp b9 f hf))
              rw [lk] at lk'
              simp only [Option.some.injEq, Obj.mk.injEq, Data.func.injEq, FuncData.mk.injEq] at lk'
              obtain ⟨_, _, ⟨_, _, _, _, _, _, _, hd, _⟩, _⟩ := lk'
              subst hd
              exact ⟨oex, gl, of_decide_eq_true i7, _, _, _, of_decide_eq_true b2, of_decide_eq_true b3, F1, Binds.all fun us hl => hbd _ _ _ _ _ _ _ _ _ us hl⟩
            · cases i4
          · cases i2
        · cases c4
      · cases c3
    · cases c3
end
end En

namespace En
open PySem PySem.Spec PyProof.Rows L2
/-! ### the interpreter's rules in plain Lean -/
theorem callF_d {F : Fn} {ws : List W} {e : Env'} {S : Sto} {r : D} (h1 : renWs [] ws = some ws) (h : F ws [] = .ok (.d r) []) : callF F ws e [] S = .ok (.d r) S := by
  unfold callF
  simp [plcs, h1, subS, h, flatS, wbW, wbS]
theorem loopC_map {tg : W → Env' → Sto → Option Env'} {test : Env' → Sto → R Bool} {el : Env' → Sto → R W} {S : Sto} {e : Env'} {f : W → D} {p : W → Bool} : ∀ {ws : List W} {acc : List D}, (∀ w ∈ ws, ∃ e1, tg w e S = some e1 ∧ test e1 S = .ok (p w) S ∧ (p w = true → el e1 S = .ok (.d (f w)) S)) → acc.length + ws.length ≤ sizeLine →
    loopC tg test el ws e acc S = .ok (acc ++ (ws.filter p).map f) S
  | [], acc, _, _ => by simp [loopC]
  | w :: ws, acc, h, hz => by
    obtain ⟨e1, h1, h2, h3⟩ := h w List.mem_cons_self
    rw [List.length_cons] at hz
    unfold loopC
    rw [h1]
    dsimp only
    rw [h2]
    simp only [R.bind]
    cases hp : p w with
    | false =>
      dsimp only
      rw [loopC_map (fun w hw => h w (List.mem_cons_of_mem _ hw)) (by omega), List.filter_cons_of_neg (by rw [hp]; exact Bool.false_ne_true)]
    | true =>
      dsimp only
      rw [h3 hp]
      dsimp only
      rw [if_pos (by omega), loopC_map (fun w hw => h w (List.mem_cons_of_mem _ hw)) (by rw [List.length_append, List.length_singleton]; omega), List.filter_cons_of_pos hp, List.map_cons, List.append_assoc]
      rfl
/-- every item, no test -/
theorem loopC_all {tg : W → Env' → Sto → Option Env'} {test : Env' → Sto → R Bool} {el : Env' → Sto → R W} {S : Sto} {e : Env'} {α : Type} {g : α → W} {f : α → D} {l : List α} (h : ∀ a ∈ l, ∃ e1, tg (g a) e S = some e1 ∧ test e1 S = .ok true S ∧ el e1 S = .ok (.d (f a)) S) (hz : l.length ≤ sizeLine) : ∀ {acc : List D}, acc.length + l.length ≤ sizeLine →
    loopC tg test el (l.map g) e acc S = .ok (acc ++ l.map f) S := by
  induction l with
  | nil => intro acc _; simp [loopC]
  | cons a l ih =>
    intro acc hz'
    obtain ⟨e1, h1, h2, h3⟩ := h a List.mem_cons_self
    rw [List.length_cons] at hz hz'
    rw [List.map_cons]
    unfold loopC
    rw [h1]
    dsimp only
    rw [h2]
    simp only [R.bind]
    rw [h3]
    dsimp only
    rw [if_pos (by omega), ih (fun a ha => h a (List.mem_cons_of_mem _ ha)) (by omega) (by rw [List.length_append, List.length_singleton]; omega), List.append_assoc, List.map_cons]
    rfl
theorem loopC_all0 {tg : W → Env' → Sto → Option Env'} {test : Env' → Sto → R Bool} {el : Env' → Sto → R W} {S : Sto} {e : Env'} {α : Type} {g : α → W} {f : α → D} {l : List α} (h : ∀ a ∈ l, ∃ e1, tg (g a) e S = some e1 ∧ test e1 S = .ok true S ∧ el e1 S = .ok (.d (f a)) S) (hz : l.length ≤ sizeLine) :
    loopC tg test el (l.map g) e [] S = .ok (l.map f) S := by
  rw [loopC_all h hz (acc := []) (by simpa using hz)]
  rfl
/-- some items -/
theorem loopC_sel1 {tg : W → Env' → Sto → Option Env'} {test : Env' → Sto → R Bool} {el : Env' → Sto → R W} {S : Sto} {e : Env'} {α : Type} {g : α → W} {f : α → D} {p : α → Bool} : ∀ {l : List α} {acc : List D}, (∀ a ∈ l, ∃ e1, tg (g a) e S = some e1 ∧ test e1 S = .ok (p a) S ∧ (p a = true → el e1 S = .ok (.d (f a)) S)) → acc.length + l.length ≤ sizeLine →
    loopC tg test el (l.map g) e acc S = .ok (acc ++ (l.filter p).map f) S
  | [], acc, _, _ => by simp [loopC]
  | w :: ws, acc, h, hz => by
    obtain ⟨e1, h1, h2, h3⟩ := h w List.mem_cons_self
    rw [List.length_cons] at hz
    rw [List.map_cons]
    unfold loopC
    rw [h1]
    dsimp only
    rw [h2]
    simp only [R.bind]
    cases hp : p w with
    | false =>
      dsimp only
      rw [loopC_sel1 (fun w hw => h w (List.mem_cons_of_mem _ hw)) (by omega), List.filter_cons_of_neg (by rw [hp]; exact Bool.false_ne_true)]
    | true =>
      dsimp only
      rw [h3 hp]
      dsimp only
      rw [if_pos (by omega), loopC_sel1 (fun w hw => h w (List.mem_cons_of_mem _ hw)) (by rw [List.length_append, List.length_singleton]; omega), List.filter_cons_of_pos hp, List.map_cons, List.append_assoc]
      rfl
theorem loopC_sel {tg : W → Env' → Sto → Option Env'} {test : Env' → Sto → R Bool} {el : Env' → Sto → R W} {S : Sto} {e : Env'} {α : Type} {g : α → W} {f : α → D} {p : α → Bool} {l : List α} (h : ∀ a ∈ l, ∃ e1, tg (g a) e S = some e1 ∧ test e1 S = .ok (p a) S ∧ (p a = true → el e1 S = .ok (.d (f a)) S)) (hz : l.length ≤ sizeLine) : loopC tg test el (l.map g) e [] S = .ok ((l.filter p).map f) S := by
  rw [loopC_sel1 h (by simpa using hz)]
  rfl
theorem allBl_map {α : Type} (f : α → Bool) : ∀ l : List α, allBl (l.map fun a => .bl (f a)) = some (l.map f)
  | [] => rfl
  | a :: l => by rw [List.map_cons]; unfold allBl; rw [allBl_map f l]; rfl
theorem allInt_map {α : Type} (f : α → Int) : ∀ l : List α, allInt (l.map fun a => .int (f a)) = some (l.map f)
  | [] => rfl
  | a :: l => by rw [List.map_cons]; unfold allInt; rw [allInt_map f l]; rfl
theorem allStr_map {α : Type} (f : α → Str) : ∀ l : List α, allStr (l.map fun a => .str (f a)) = some (l.map f)
  | [] => rfl
  | a :: l => by rw [List.map_cons]; unfold allStr; rw [allStr_map f l]; rfl
/-- a loop that goes on as long as p holds -/
theorem loopF_scan {tg : W → Env' → Sto → Option Env'} {body : Env' → Sto → SR} {ks : List Nat} {n : Nat} {e : Env'} {S : Sto} {α : Type} {g : α → W} {p : α → Bool} {out : SR} (hout : (∃ w S, out = .rt w S) ∨ ∃ c ns l e S, out = .ex c ns l e S) (hn : S.length ≤ n) : ∀ {l : List α}, (∀ a ∈ l, ∃ e1, tg (g a) e S = some e1 ∧ body e1 S = if p a then .nx e1 S else out) → (∀ a e1, tg (g a) e S = some e1 → kill e1 ks = e) →
    loopF tg body ks n (l.map g) e S = if l.all p then .nx e S else out
  | [], _, _ => by simp [loopF]
  | a :: l, h, hk => by
    obtain ⟨e1, h1, h2⟩ := h a List.mem_cons_self
    rw [List.map_cons]
    unfold loopF
    rw [h1]
    dsimp only
    rw [h2, List.all_cons]
    cases hp : p a with
    | false =>
      rw [if_neg Bool.false_ne_true, Bool.false_and, if_neg Bool.false_ne_true]
      rcases hout with ⟨w, S, e⟩ | ⟨c, ns, l, e, S, e'⟩
      · rw [e]
      · rw [e']
    | true =>
      rw [if_pos rfl, Bool.true_and]
      dsimp only
      have e2 : trim n (kill e1 ks) S = S := by
        unfold trim
        rw [if_pos hn]
      rw [e2, hk a e1 h1]
      exact loopF_scan hout hn (fun a ha => h a (List.mem_cons_of_mem _ ha)) hk
/-! ### rules for simp: what follows is behind a name, so that only what has come to a value goes on -/
abbrev CE := W → Sto → R W
def kO2 (z : Bool) (o : Bop) (x : W) : CE := fun y S => bin z o x y S
def kO1 (t : Tb) (z : Bool) (o : Bop) (b : E) (e : Env') : CE := fun x S => (evE t b e S).bind (kO2 z o x)
def kNg : CE := fun x S => match x with
  | .d (.int i) => ok1 (.int (-i)) S
  | _ => .st
def kC2 (o : Cop) (x : W) : CE := fun y S => optBW (cmpW o x y S) S
def kC1 (t : Tb) (o : Cop) (b : E) (e : Env') : CE := fun x S => (evE t b e S).bind (kC2 o x)
def kH3 (t : Tb) (o : Cop) (c : E) (e : Env') (y : W) : Bool → Sto → R W := fun k S => match k with
  | true => (evE t c e S).bind (kC2 o y)
  | false => ok1 (.bl false) S
def kH2 (t : Tb) (o o' : Cop) (c : E) (e : Env') (x : W) : CE := fun y S => (optB (cmpW o x y S) S).bind (kH3 t o' c e y)
def kH1 (t : Tb) (o o' : Cop) (b c : E) (e : Env') : CE := fun x S => (evE t b e S).bind (kH2 t o o' c e x)
def kAn (t : Tb) (l : EL) (e : Env') : CE := fun x S => match x with
  | .d (.bl true) => evAnd t l e S
  | .d (.bl false) => ok1 (.bl false) S
  | _ => .st
def kOr (t : Tb) (l : EL) (e : Env') : CE := fun x S => match x with
  | .d (.bl false) => evOr t l e S
  | .d (.bl true) => ok1 (.bl true) S
  | _ => .st
def kNo : CE := fun x S => match x with
  | .d (.bl b) => ok1 (.bl !b) S
  | _ => .st
def kIt (t : Tb) (a b : E) (e : Env') : Bool → Sto → R W := fun k S => match k with
  | true => evE t a e S
  | false => evE t b e S
def kTd : Option (List D) → Sto → R W := fun o S => match o with
  | some ds => if ds.length ≤ sizeLine then ok1 (.tup ds) S else .st
  | none => .st
def kTu : List W → Sto → R W := fun ws S => kTd (dats ws) S
def kLd (z : Bool) : Option (List D) → Sto → R W := fun o S => match o with
  | some ds => if ds.length ≤ sizeLine then mkL z ds S else .st
  | none => .st
def kLs (z : Bool) : List W → Sto → R W := fun ws S => kLd z (dats ws) S
def kI2 (x : W) : CE := fun y S => ixW x y S
def kI1 (t : Tb) (b : E) (e : Env') : CE := fun x S => (evE t b e S).bind (kI2 x)
def kS3 (z : Bool) (x : W) (l : Option Int) : Option Int → Sto → R W := fun h S => slW z x l h S
def kS2 (t : Tb) (z : Bool) (hi : O) (e : Env') (x : W) : Option Int → Sto → R W := fun l S => (evO t hi e S).bind (kS3 z x l)
def kS1 (t : Tb) (z : Bool) (lo hi : O) (e : Env') : CE := fun x S => (evO t lo e S).bind (kS2 t z hi e x)
def kCb (ps : List Pl) (e : Env') (ws : List W) : Option Fn → Sto → R W := fun o S => match o with
  | some F => callF F ws e ps S
  | none => .st
def kCa (t : Tb) (n : Nat) (ps : List Pl) (e : Env') : List W → Sto → R W := fun ws S => kCb ps e ws t.fn[n]? S
def kBi (z : Bool) (f : Bf) : List W → Sto → R W := fun ws S => biW z f ws S
def kIs (ty : String) : CE := fun x S => optBW (isiW ty x S) S
def kMf (z : Bool) (m : Mf) (x : W) : List W → Sto → R W := fun ws S => meW z m x ws S
def kMe (t : Tb) (z : Bool) (m : Mf) (l : A) (e : Env') : CE := fun x S => if meTy S m x then (evA t l e S).bind (kMf z m x) else .st
def evEK (t : Tb) (a : E) : Env' → Sto → R W := fun e S => evE t a e S
def evTK (t : Tb) (a : T) : Env' → Sto → R Bool := fun e S => evT t a e S
def evK (t : Tb) (b : B) : Env' → Sto → SR := fun e S => evB t b e S
def kMk (z : Bool) : List D → Sto → R W := fun l S => mkL z l S
def kLc (t : Tb) (z : Bool) (own : List (Str × Nat)) (g : G) (tt : T) (el : E) (e : Env') : List W → Sto → R W := fun ws S => (loopC (evG g) (evTK t tt) (evEK t el) ws (kill e (own.map (·.2))) [] S).noX.bind (kMk z)
def kA2 (x : W) : List W → Sto → R (List W) := fun xs S => .ok (x :: xs) S
def kA1 (t : Tb) (l : A) (e : Env') : W → Sto → R (List W) := fun x S => (evA t l e S).bind (kA2 x)
def kIp : W → Sto → R (Option Int) := fun x S => intPart x S
def kTv : W → Sto → R Bool := fun x S => match x with
  | .d (.bl b) => .ok b S
  | _ => .st
def kTr : W → Sto → R Bool := fun x S => optB (tru S x) S
def kD2 (o : Cop) (x : W) : W → Sto → R Bool := fun y S => optB (cmpW o x y S) S
def kD1 (t : Tb) (o : Cop) (b : E) (e : Env') : W → Sto → R Bool := fun x S => (evE t b e S).bind (kD2 o x)
def kG3 (t : Tb) (o : Cop) (c : E) (e : Env') (y : W) : Bool → Sto → R Bool := fun k S => match k with
  | true => (evE t c e S).bind (kD2 o y)
  | false => .ok false S
def kG2 (t : Tb) (o o' : Cop) (c : E) (e : Env') (x : W) : W → Sto → R Bool := fun y S => (optB (cmpW o x y S) S).bind (kG3 t o' c e y)
def kG1 (t : Tb) (o o' : Cop) (b c : E) (e : Env') : W → Sto → R Bool := fun x S => (evE t b e S).bind (kG2 t o o' c e x)
def kTn : Bool → Sto → R Bool := fun b S => .ok (!b) S
def kTa (t : Tb) (l : TL) (e : Env') : Bool → Sto → R Bool := fun b S => match b with
  | true => evTA t l e S
  | false => .ok false S
def kTo (t : Tb) (l : TL) (e : Env') : Bool → Sto → R Bool := fun b S => match b with
  | true => .ok true S
  | false => evTO t l e S
def kSq : W → Sto → R (List W) := fun x S => match x with
  | .d (.lst l) => .ok (l.map .d) S
  | .d (.tup l) => .ok (l.map .d) S
  | .d (.ro l) => .ok (l.map .d) S
  | _ => .st
def kR1 : W → Sto → R (List W) := fun x S => match x with
  | .d (.int i) => if rngOk i then .ok (rngL 0 i.toNat) S else .st
  | _ => .st
def kR3 (x : W) : W → Sto → R (List W) := fun y S => match x, y with
  | .d (.int i), .d (.int j) => if rngOk i && rngOk j then .ok (rngL i (j - i).toNat) S else .st
  | _, _ => .st
def kR2 (t : Tb) (b : E) (e : Env') : W → Sto → R (List W) := fun x S => (evE t b e S).bind (kR3 x)
def kEn : W → Sto → R (List W) := fun x S => match x with
  | .d (.lst l) => .ok (enmL 0 l) S
  | .d (.ro l) => .ok (enmL 0 l) S
  | .d (.tup l) => .ok (enmL 0 l) S
  | _ => .st
def kCh : W → Sto → R (List W) := fun x S => match x with
  | .d (.str s) => .ok (s.cps.toList.map fun c => .d (.str ⟨#[c]⟩)) S
  | _ => .st
abbrev CS := W → Sto → SR
def kSt (i : Nat) (e : Env') : CS := fun w S => if i < e.length then .nx (e.set i (some w)) S else .st
def kAo : Option Env' → Sto → SR := fun o S => match o with
  | some e1 => .nx e1 S
  | none => .st
def kAs (g : G) (e : Env') : CS := fun w S => kAo (evG g w e S) S
def kAu (i : Nat) (o : Bop) (e : Env') (x : W) : CS := fun y S => match o, x, y with
  | .add, .d (.int a), .d (.int b) => .nx (e.set i (some (.d (.int (a + b))))) S
  | .sub, .d (.int a), .d (.int b) => .nx (e.set i (some (.d (.int (a - b))))) S
  | .mul, .d (.int a), .d (.int b) => if mulOk a b then .nx (e.set i (some (.d (.int (a * b))))) S else .st
  | _, _, _ => .st
def kAx (t : Tb) (i : Nat) (o : Bop) (a : E) (e : Env') (S : Sto) : Option (Option W) → SR := fun q => match q with
  | some (some x) => (evE t a e S).sr e (kAu i o e x)
  | _ => .st
def kX3 (e : Env') (x l : W) : CS := fun k S => match l, k, x with
  | .m q, .d (.int i), .d y => (match S[q]? with
    | some (some (.lst l)) => (match ixN l.length i with
      | some n => .nx e (S.set q (some (.lst (l.set n y))))
      | none => .st)
    | _ => .st)
  | _, _, _ => .st
def kX2 (t : Tb) (j : E) (e : Env') (x : W) : CS := fun l S => (evE t j e S).sr e (kX3 e x l)
def kX1 (t : Tb) (o j : E) (e : Env') : CS := fun x S => (evE t o e S).sr e (kX2 t j e x)
def kEx (e : Env') : CS := fun _ S => .nx e S
def kRt : CS := fun w S => .rt w S
def kIf (t : Tb) (a b : B) (e : Env') : Bool → Sto → SR := fun k S => match k with
  | true => evB t a e S
  | false => evB t b e S
def kFo (t : Tb) (g : G) (b : B) (ks : List Nat) (e : Env') : List W → Sto → SR := fun ws S => loopF (evG g) (evK t b) ks S.length ws e S
section
variable {t : Tb} {e : Env'} {S : Sto} {a b c : E} {o o' : Cop} {bo : Bop} {z : Bool} {l : A} {el : EL} {tl : TL} {i j : Int} {n : Nat} {w x y : W} {s : Str} {k : Bool} {ds : List D} {tt : T} {ps : List Pl} {F : Fn} {B1 B2 : B} {ks : List Nat} {g : G} {st : En.S} {sc : Sc} {ws : List W} {e1 : Env'} {f : Bf} {m : Mf} {op1 op2 : O} {own : List (Str × Nat)}
theorem q1 : evE t (.var n) e S = getE e n S := rfl
theorem q2 : evE t (.int i) e S = .ok (.d (.int i)) S := rfl
theorem q3 : evE t (.str s) e S = .ok (.d (.str s)) S := rfl
theorem q4 : evE t (.bl k) e S = .ok (.d (.bl k)) S := rfl
theorem q5 : evE t .non e S = .ok (.d .non) S := rfl
theorem q6 : evE t (.glo n) e S = optR t.cn[n]? S := rfl
theorem q7 : evE t (.op z bo a b) e S = (evE t a e S).bind (kO1 t z bo b e) := rfl
theorem q7a : kO1 t z bo b e x S = (evE t b e S).bind (kO2 z bo x) := rfl
theorem q7b : kO2 z bo x y S = bin z bo x y S := rfl
theorem q8 : evE t (.neg a) e S = (evE t a e S).bind kNg := rfl
theorem q8a : kNg (.d (.int i)) S = .ok (.d (.int (-i))) S := rfl
theorem q9 : evE t (.cmp o a b) e S = (evE t a e S).bind (kC1 t o b e) := rfl
theorem q9a : kC1 t o b e x S = (evE t b e S).bind (kC2 o x) := rfl
theorem q9b : kC2 o x y S = optBW (cmpW o x y S) S := rfl
theorem q10 : evE t (.chn o o' a b c) e S = (evE t a e S).bind (kH1 t o o' b c e) := rfl
theorem q10a : kH1 t o o' b c e x S = (evE t b e S).bind (kH2 t o o' c e x) := rfl
theorem q10b : kH2 t o o' c e x y S = (optB (cmpW o x y S) S).bind (kH3 t o' c e y) := rfl
theorem q10c : kH3 t o c e y true S = (evE t c e S).bind (kC2 o y) := rfl
theorem q10d : kH3 t o c e y false S = .ok (.d (.bl false)) S := rfl
theorem q11 : evE t (.and el) e S = evAnd t el e S := rfl
theorem q12 : evE t (.or el) e S = evOr t el e S := rfl
theorem q11a : evAnd t (.one a) e S = evE t a e S := rfl
theorem q11b : evAnd t (.cons a el) e S = (evE t a e S).bind (kAn t el e) := rfl
theorem q11c : kAn t el e (.d (.bl true)) S = evAnd t el e S := rfl
theorem q11d : kAn t el e (.d (.bl false)) S = .ok (.d (.bl false)) S := rfl
theorem q12a : evOr t (.one a) e S = evE t a e S := rfl
theorem q12b : evOr t (.cons a el) e S = (evE t a e S).bind (kOr t el e) := rfl
theorem q12c : kOr t el e (.d (.bl false)) S = evOr t el e S := rfl
theorem q12d : kOr t el e (.d (.bl true)) S = .ok (.d (.bl true)) S := rfl
theorem q13 : evE t (.not a) e S = (evE t a e S).bind kNo := rfl
theorem q13a : kNo (.d (.bl k)) S = .ok (.d (.bl !k)) S := rfl
theorem q14 : evE t (.ite tt a b) e S = (evT t tt e S).bind (kIt t a b e) := rfl
theorem q14a : kIt t a b e true S = evE t a e S := rfl
theorem q14b : kIt t a b e false S = evE t b e S := rfl
theorem q15 : evE t (.tup l) e S = (evA t l e S).bind kTu := rfl
theorem q15a : kTu ws S = kTd (dats ws) S := rfl
theorem q15b (h : ds.length ≤ sizeLine) : kTd (some ds) S = .ok (.d (.tup ds)) S := if_pos h
theorem q16 : evE t (.lst z l) e S = (evA t l e S).bind (kLs z) := rfl
theorem q16a : kLs z ws S = kLd z (dats ws) S := rfl
theorem q16b (h : ds.length ≤ sizeLine) : kLd z (some ds) S = mkL z ds S := if_pos h
theorem q17 : evE t (.ix a b) e S = (evE t a e S).bind (kI1 t b e) := rfl
theorem q17a : kI1 t b e x S = (evE t b e S).bind (kI2 x) := rfl
theorem q17b : kI2 x y S = ixW x y S := rfl
theorem q18 : evE t (.sl z a op1 op2) e S = (evE t a e S).bind (kS1 t z op1 op2 e) := rfl
theorem q18a : kS1 t z op1 op2 e x S = (evO t op1 e S).bind (kS2 t z op2 e x) := rfl
theorem q18b {p : Option Int} : kS2 t z op2 e x p S = (evO t op2 e S).bind (kS3 z x p) := rfl
theorem q18c {p q : Option Int} : kS3 z x p q S = slW z x p q S := rfl
theorem q19 : evE t (.call n l ps) e S = (evA t l e S).bind (kCa t n ps e) := rfl
theorem q19a : kCa t n ps e ws S = kCb ps e ws t.fn[n]? S := rfl
theorem q19b : kCb ps e ws (some F) S = callF F ws e ps S := rfl
theorem q20 : evE t (.bi z f l) e S = (evA t l e S).bind (kBi z f) := rfl
theorem q20a : kBi z f ws S = biW z f ws S := rfl
theorem q21 {ty : String} : evE t (.isi a ty) e S = (evE t a e S).bind (kIs ty) := rfl
theorem q21a {ty : String} : kIs ty x S = optBW (isiW ty x S) S := rfl
theorem q22 : evE t (.me z m a l) e S = (evE t a e S).bind (kMe t z m l e) := rfl
theorem q22a (h : meTy S m x = true) : kMe t z m l e x S = (evA t l e S).bind (kMf z m x) := if_pos h
theorem q22b : kMf z m x ws S = meW z m x ws S := rfl
theorem q23 : evE t (.lc z own g sc tt a) e S = (evSc t sc e S).bind (kLc t z own g tt a e) := rfl
theorem q23a : kLc t z own g tt a e ws S = (loopC (evG g) (evTK t tt) (evEK t a) ws (kill e (own.map (·.2))) [] S).noX.bind (kMk z) := rfl
theorem q23b : kMk z ds S = mkL z ds S := rfl
theorem q24 : evE t (.frz n) e S = frzI e n S := rfl
theorem q25 : evA t .nil e S = .ok [] S := rfl
theorem q25a : evA t (.cons a l) e S = (evE t a e S).bind (kA1 t l e) := rfl
theorem q25b : kA1 t l e x S = (evA t l e S).bind (kA2 x) := rfl
theorem q25c : kA2 x ws S = .ok (x :: ws) S := rfl
theorem q26 : evO t .no e S = .ok none S := rfl
theorem q26a : evO t (.so a) e S = (evE t a e S).bind kIp := rfl
theorem q26b : kIp (.d (.int i)) S = .ok (some i) S := rfl
theorem q27 : evT t .yes e S = .ok true S := rfl
theorem q28 : evT t (.val a) e S = (evE t a e S).bind kTv := rfl
theorem q28a : kTv (.d (.bl k)) S = .ok k S := rfl
theorem q29 : evT t (.tru a) e S = (evE t a e S).bind kTr := rfl
theorem q29a : kTr x S = optB (tru S x) S := rfl
theorem q30 : evT t (.cmp o a b) e S = (evE t a e S).bind (kD1 t o b e) := rfl
theorem q30a : kD1 t o b e x S = (evE t b e S).bind (kD2 o x) := rfl
theorem q30b : kD2 o x y S = optB (cmpW o x y S) S := rfl
theorem q31 : evT t (.chn o o' a b c) e S = (evE t a e S).bind (kG1 t o o' b c e) := rfl
theorem q31a : kG1 t o o' b c e x S = (evE t b e S).bind (kG2 t o o' c e x) := rfl
theorem q31b : kG2 t o o' c e x y S = (optB (cmpW o x y S) S).bind (kG3 t o' c e y) := rfl
theorem q31c : kG3 t o c e y true S = (evE t c e S).bind (kD2 o y) := rfl
theorem q31d : kG3 t o c e y false S = .ok false S := rfl
theorem q32 : evT t (.and tl) e S = evTA t tl e S := rfl
theorem q33 : evT t (.or tl) e S = evTO t tl e S := rfl
theorem q34 : evT t (.not tt) e S = (evT t tt e S).bind kTn := rfl
theorem q34a : kTn k S = .ok (!k) S := rfl
theorem q32a : evTA t (.one tt) e S = evT t tt e S := rfl
theorem q32b : evTA t (.cons tt tl) e S = (evT t tt e S).bind (kTa t tl e) := rfl
theorem q32c : kTa t tl e true S = evTA t tl e S := rfl
theorem q32d : kTa t tl e false S = .ok false S := rfl
theorem q33a : evTO t (.one tt) e S = evT t tt e S := rfl
theorem q33b : evTO t (.cons tt tl) e S = (evT t tt e S).bind (kTo t tl e) := rfl
theorem q33c : kTo t tl e true S = .ok true S := rfl
theorem q33d : kTo t tl e false S = evTO t tl e S := rfl
theorem q35 : evSc t (.seq a) e S = (evE t a e S).bind kSq := rfl
theorem q35a : kSq (.d (.lst ds)) S = .ok (ds.map .d) S := rfl
theorem q35b : kSq (.d (.tup ds)) S = .ok (ds.map .d) S := rfl
theorem q35c : kSq (.d (.ro ds)) S = .ok (ds.map .d) S := rfl
theorem q36 : evSc t (.rng1 a) e S = (evE t a e S).bind kR1 := rfl
theorem q36a (h : rngOk i = true) : kR1 (.d (.int i)) S = .ok (rngL 0 i.toNat) S := if_pos h
theorem q37 : evSc t (.rng2 a b) e S = (evE t a e S).bind (kR2 t b e) := rfl
theorem q37a : kR2 t b e x S = (evE t b e S).bind (kR3 x) := rfl
theorem q37b (h : rngOk i = true) (h' : rngOk j = true) : kR3 (.d (.int i)) (.d (.int j)) S = .ok (rngL i (j - i).toNat) S := by
  show (if rngOk i && rngOk j then _ else R.st) = _
  rw [h, h']
  rfl
theorem q38 : evSc t (.enm a) e S = (evE t a e S).bind kEn := rfl
theorem q38a : kEn (.d (.lst ds)) S = .ok (enmL 0 ds) S := rfl
theorem q38b : kEn (.d (.tup ds)) S = .ok (enmL 0 ds) S := rfl
theorem q38c : kEn (.d (.ro ds)) S = .ok (enmL 0 ds) S := rfl
theorem q39 : evSc t (.chars a) e S = (evE t a e S).bind kCh := rfl
theorem q39a : kCh (.d (.str s)) S = .ok (s.cps.toList.map fun c => .d (.str ⟨#[c]⟩)) S := rfl
theorem q40 : evB t .nil e S = .nx e S := rfl
theorem q40a : evB t (.cons st B1) e S = (evS t st e S).bind (evK t B1) := rfl
theorem q40b : evK t B1 e S = evB t B1 e S := rfl
theorem q40c : evTK t tt e S = evT t tt e S := rfl
theorem q40d : evEK t a e S = evE t a e S := rfl
theorem q41 : evS t (.set n a) e S = (evE t a e S).sr e (kSt n e) := rfl
theorem q41a (h : n < e.length) : kSt n e w S = .nx (e.set n (some w)) S := if_pos h
theorem q42 : evS t (.asg g a) e S = (evE t a e S).sr e (kAs g e) := rfl
theorem q42a : kAs g e w S = kAo (evG g w e S) S := rfl
theorem q42b : kAo (some e1) S = .nx e1 S := rfl
theorem seqB {b : B} {e2 : Env'} {S2 : Sto} (h : evS t st e S = .nx e2 S2) : evB t (.cons st b) e S = evB t b e2 S2 := by rw [q40a, h]; rfl
theorem q44d {d : D} {l : List D} (h0 : 0 ≤ i) (h : i.toNat < l.length) : kX3 e (.d d) (.m 0) (.d (.int i)) (some (.lst l) :: S) = .nx e (some (.lst (l.set i.toNat d)) :: S) := by
  have h' : ixN l.length i = some i.toNat := by
    unfold ixN
    rw [if_pos h0, if_pos (by omega)]
  show (match ixN l.length i with
    | some n => SR.nx e ((some (Ob.lst l) :: S).set 0 (some (.lst (l.set n d))))
    | none => .st) = _
  rw [h']
  rfl
theorem q43 : evS t (.aug n bo a) e S = kAx t n bo a e S e[n]? := rfl
theorem q43a : kAx t n bo a e S (some (some x)) = (evE t a e S).sr e (kAu n bo e x) := rfl
theorem q43b : kAu n .add e (.d (.int i)) (.d (.int j)) S = .nx (e.set n (some (.d (.int (i + j))))) S := rfl
theorem q43c : kAu n .sub e (.d (.int i)) (.d (.int j)) S = .nx (e.set n (some (.d (.int (i - j))))) S := rfl
theorem q43d (h : mulOk i j = true) : kAu n .mul e (.d (.int i)) (.d (.int j)) S = .nx (e.set n (some (.d (.int (i * j))))) S := if_pos h
theorem q44 : evS t (.setIx a b c) e S = (evE t c e S).sr e (kX1 t a b e) := rfl
theorem q44a : kX1 t a b e x S = (evE t a e S).sr e (kX2 t b e x) := rfl
theorem q44b : kX2 t b e x y S = (evE t b e S).sr e (kX3 e x y) := rfl
theorem q44c {d : D} {l : List D} {n : Nat} (h : ixN l.length i = some n) : kX3 e (.d d) (.m 0) (.d (.int i)) (some (.lst l) :: S) = .nx e (some (.lst (l.set n d)) :: S) := by
  show (match ixN l.length i with
    | some n => SR.nx e ((some (Ob.lst l) :: S).set 0 (some (.lst (l.set n d))))
    | none => .st) = _
  rw [h]
  rfl
theorem q45 : evS t (.ex a) e S = (evE t a e S).sr e (kEx e) := rfl
theorem q45a : kEx e w S = .nx e S := rfl
theorem q46 : evS t (.ret a) e S = (evE t a e S).sr e kRt := rfl
theorem q46a : kRt w S = .rt w S := rfl
theorem q46b : evS t .retN e S = .rt (.d .non) S := rfl
theorem q47 : evS t (.iff tt B1 B2) e S = (evT t tt e S).sr e (kIf t B1 B2 e) := rfl
theorem q47a : kIf t B1 B2 e true S = evB t B1 e S := rfl
theorem q47b : kIf t B1 B2 e false S = evB t B2 e S := rfl
theorem q48 : evS t (.fo g sc B1 ks) e S = (evSc t sc e S).sr e (kFo t g B1 ks e) := rfl
theorem q48a : kFo t g B1 ks e ws S = loopF (evG g) (evK t B1) ks S.length ws e S := rfl
theorem q49 : evS t (.wh tt B1 ks) e S = loopW (evTK t tt) (evK t B1) ks S.length 100000 e S := rfl
theorem q50 : evS t .brk e S = .bk e S := rfl
theorem q50a : evS t .cont e S = .ct e S := rfl
theorem q50b : evS t .pass e S = .nx e S := rfl
theorem q50c : evS t (.nop ks) e S = .nx (kill e ks) S := rfl
def kFl (c f : Str) : CE := fun x S => fldW c f x S
def kK2 (t : Tb) (q : Nat) (ps : List Pl) (e : Env') (ws : List W) : List W → Sto → R W := fun zs S => callA t.kc[q]? ws zs e ps S
def kK1 (t : Tb) (q : Nat) (k : A) (ps : List Pl) (e : Env') : List W → Sto → R W := fun ws S => (evA t k e S).bind (kK2 t q ps e ws)
def kM3 (t : Tb) (q : Nat) (ps : List Pl) (e : Env') (x : W) (ws : List W) : List W → Sto → R W := fun zs S => callA t.mt[q]? (x :: ws) zs e ps S
def kM2 (t : Tb) (q : Nat) (k : A) (ps : List Pl) (e : Env') (x : W) : List W → Sto → R W := fun ws S => (evA t k e S).bind (kM3 t q ps e x ws)
def kM1 (t : Tb) (q : Nat) (c m : Str) (l k : A) (ps : List Pl) (e : Env') : CE := fun x S => if insOk S c m x then (evA t l e S).bind (kM2 t q k ps e x) else .st
def kW2 (t : Tb) (q : Nat) (c : Str) (ws : List W) : List W → Sto → R W := fun zs S => makeA t.nw[q]? c ws zs S
def kW1 (t : Tb) (q : Nat) (c : Str) (k : A) (e : Env') : List W → Sto → R W := fun ws S => (evA t k e S).bind (kW2 t q c ws)
def kFm : CE := fun x S => fmtW x S
def kM0 (z : Bool) (m : Mf) : CE := fun x S => if meTy S m x then meW z m x [] S else .st
def kJ (t : Tb) (l : A) (acc : Str) (e : Env') : CE := fun x S => match x with
  | .d (.str y) => if (acc ++ y).length ≤ sizeLine then evJ t l (acc ++ y) e S else .st
  | _ => .st
def kGc2 (x : W) : CE := fun y S => match x, y with
  | .d (.int i), .d (.int j) => ok1 (.int ((Nat.gcd i.natAbs j.natAbs : Nat) : Int)) S
  | _, _ => .st
def kGc1 (t : Tb) (b : E) (e : Env') : CE := fun x S => (evE t b e S).bind (kGc2 x)
def kSf2 (c f : Str) (e : Env') (y : W) : CS := fun x S => match x with
  | .m q => (match S[q]? with
    | some (some (.ins c' ns l)) => if c' = c ∧ ns.length < 1000 ∧ ns.length = l.length then .nx e (S.set q (some (.ins c (putN f ns) (putW f y ns l)))) else .st
    | _ => .st)
  | _ => .st
def kSf1 (t : Tb) (c f : Str) (o : E) (e : Env') : CS := fun y S => (evE t o e S).sr e (kSf2 c f e y)
def kCA (ws zs : List W) (e : Env') (ps : List Pl) (F : Fn) : Option (List W) → Sto → R W := fun o S => match o with
  | some us => callF F us e ps S
  | none => .st
def kMA (F : Fn) (c : Str) : Option (List W) → Sto → R W := fun o S => match o with
  | some us => makeF F c us S
  | none => .st
theorem q51 {cn f : Str} : evE t (.fld cn f a) e S = (evE t a e S).bind (kFl cn f) := rfl
theorem q51a {cn f : Str} : kFl cn f x S = fldW cn f x S := rfl
theorem q52 {q : Nat} {l2 : A} : evE t (.kc q l l2 ps) e S = (evA t l e S).bind (kK1 t q l2 ps e) := rfl
theorem q52a {q : Nat} {l2 : A} : kK1 t q l2 ps e ws S = (evA t l2 e S).bind (kK2 t q ps e ws) := rfl
theorem q52b {q : Nat} {zs : List W} : kK2 t q ps e ws zs S = callA t.kc[q]? ws zs e ps S := rfl
theorem q52c {src : List Src} {zs : List W} : callA (some (F, src)) ws zs e ps S = kCA ws zs e ps F (arr ws zs src) S := by
  unfold callA kCA
  first
    | (dsimp only; done)
    | (dsimp only; cases arr ws zs src <;> rfl)
theorem q52d {zs us : List W} : kCA ws zs e ps F (some us) S = callF F us e ps S := rfl
theorem q53 {q : Nat} {c m : Str} {l2 : A} : evE t (.mth q c m a l l2 ps) e S = (evE t a e S).bind (kM1 t q c m l l2 ps e) := rfl
theorem q53a {q : Nat} {c m : Str} {l2 : A} (h : insOk S c m x = true) : kM1 t q c m l l2 ps e x S = (evA t l e S).bind (kM2 t q l2 ps e x) := if_pos h
theorem q53b {q : Nat} {l2 : A} : kM2 t q l2 ps e x ws S = (evA t l2 e S).bind (kM3 t q ps e x ws) := rfl
theorem q53c {q : Nat} {zs : List W} : kM3 t q ps e x ws zs S = callA t.mt[q]? (x :: ws) zs e ps S := rfl
theorem q54 {q : Nat} {c : Str} {l2 : A} : evE t (.mk q c l l2) e S = (evA t l e S).bind (kW1 t q c l2 e) := rfl
theorem q54a {q : Nat} {c : Str} {l2 : A} : kW1 t q c l2 e ws S = (evA t l2 e S).bind (kW2 t q c ws) := rfl
theorem q54b {q : Nat} {c : Str} {zs : List W} : kW2 t q c ws zs S = makeA t.nw[q]? c ws zs S := rfl
theorem q54c {c : Str} {src : List Src} {zs : List W} (h : (dats ws).isSome = true) (h' : (dats zs).isSome = true) : makeA (some (F, src)) c ws zs S = kMA F c (arr (.m 0 :: ws) zs src) S := by
  unfold makeA kMA
  dsimp only
  rw [h, h']
  cases arr (.m 0 :: ws) zs src <;> rfl
theorem q54d {c : Str} {us : List W} : kMA F c (some us) S = makeF F c us S := rfl
theorem q55 : evE t (.fst l) e S = evJ t l Str.empty e S := rfl
theorem q55a {acc : Str} : evJ t .nil acc e S = .ok (.d (.str acc)) S := rfl
theorem q55b {acc : Str} : evJ t (.cons a l) acc e S = (evE t a e S).bind (kJ t l acc e) := rfl
theorem q55c {acc y : Str} (h : (acc ++ y).length ≤ sizeLine) : kJ t l acc e (.d (.str y)) S = evJ t l (acc ++ y) e S := if_pos h
theorem q56 : evE t (.fmt a) e S = (evE t a e S).bind kFm := rfl
theorem q56a : kFm x S = fmtW x S := rfl
theorem q57 : evE t (.me0 z m a) e S = (evE t a e S).bind (kM0 z m) := rfl
theorem q57a (h : meTy S m x = true) : kM0 z m x S = meW z m x [] S := if_pos h
theorem q58 : evE t (.gcd a b) e S = (evE t a e S).bind (kGc1 t b e) := rfl
theorem q58a : kGc1 t b e x S = (evE t b e S).bind (kGc2 x) := rfl
theorem q58b : kGc2 (.d (.int i)) (.d (.int j)) S = .ok (.d (.int ((Nat.gcd i.natAbs j.natAbs : Nat) : Int))) S := rfl
theorem q59 {c f : Str} : evS t (.setF c f a b) e S = (evE t b e S).sr e (kSf1 t c f a e) := rfl
theorem q59a {c f : Str} : kSf1 t c f a e y S = (evE t a e S).sr e (kSf2 c f e y) := rfl
theorem q59b {c f : Str} {ns : List Str} {l : List W} (h : ns.length < 1000) (h' : ns.length = l.length) : kSf2 c f e y (.m 0) (some (.ins c ns l) :: S) = .nx e (some (.ins c (putN f ns) (putW f y ns l)) :: S) := by
  show (if c = c ∧ ns.length < 1000 ∧ ns.length = l.length then SR.nx e ((some (Ob.ins c ns l) :: S).set 0 (some (.ins c (putN f ns) (putW f y ns l)))) else .st) = _
  rw [if_pos ⟨rfl, h, h'⟩]
  rfl
def kFz (n : Nat) (e : Env') (S : Sto) : Option (Option W) → SR := fun w => match w with
  | some (some (.m j)) => (match S[j]? with
    | some (some (.lst l)) => .nx (e.set n (some (.d (.lst l)))) (S.set j none)
    | _ => .st)
  | _ => .st
theorem q60 : evS t (.fz n) e S = kFz n e S e[n]? := rfl
theorem q60a {l : List D} : kFz n e (some (.lst l) :: S) (some (some (.m 0))) = .nx (e.set n (some (.d (.lst l)))) (none :: S) := rfl
theorem q61 : evS t .dead e S = .st := rfl
theorem ar0 {zs : List W} : arr ws zs [] = some [] := rfl
def kAr (r : Option (List W)) : Option W → Option (List W) := fun w => match w, r with
  | some w, some l => some (w :: l)
  | _, _ => none
theorem ar1 {zs : List W} {c : Src} {r : List Src} : arr ws zs (c :: r) = kAr (arr ws zs r) (srcW ws zs c) := by
  show (match srcW ws zs c, arr ws zs r with
    | some w, some l => some (w :: l)
    | _, _ => none) = _
  unfold kAr
  cases srcW ws zs c <;> cases arr ws zs r <;> rfl
theorem ar2 {us : List W} : kAr (some us) (some w) = some (w :: us) := rfl
theorem ar3 {zs : List W} : srcW ws zs (.pos n) = ws[n]? := rfl
theorem ar4 {zs : List W} : srcW ws zs (.kw n) = zs[n]? := rfl
theorem ar5 {zs : List W} {d : D} : srcW ws zs (.dfl d) = some (.d d) := rfl
theorem gt0 {α : Type} {x : α} {r : List α} : (x :: r)[0]? = some x := rfl
theorem gt1 {α : Type} {x : α} {r : List α} : (x :: r)[n + 1]? = r[n]? := List.getElem?_cons_succ
theorem da0 : dats [] = some [] := by unfold dats; rfl
theorem da1 {x : D} {l : List W} : dats (.d x :: l) = (dats l).map (x :: ·) := by conv => lhs; unfold dats
theorem sz_le {n : Nat} (h : n ≤ 16777216) : n ≤ sizeLine := h
theorem sz_lt {n : Nat} (h : n < 16777216) : n < sizeLine := h
end
section
variable {α γ : Type} {a : α} {S : Sto} {e : Env'} {f : α → Sto → R γ} {g : α → Sto → SR} {k : Env' → Sto → SR} {c : Str} {ns : List Str} {l l' : List D} {i j : Int} {s z : Str} {w w' : W} {n : Nat} {b : Bool} {t : Tb}
theorem eb1 : (R.ok a S).bind f = f a S := rfl
theorem eb2 : (R.ex c ns l S : R α).bind f = .ex c ns l S := rfl
theorem eb3 : (R.st : R α).bind f = .st := rfl
theorem es1 : (R.ok a S).sr e g = g a S := rfl
theorem es2 : (R.ex c ns l S : R α).sr e g = .ex c ns l e S := rfl
theorem es3 : (R.st : R α).sr e g = .st := rfl
theorem sb1 : (SR.nx e S).bind k = k e S := rfl
theorem sb2 : (SR.rt w S).bind k = .rt w S := rfl
theorem sb3 : (SR.bk e S).bind k = .bk e S := rfl
theorem sb4 : (SR.ct e S).bind k = .ct e S := rfl
theorem sb5 : (SR.ex c ns l e S).bind k = .ex c ns l e S := rfl
theorem sb6 : (SR.st).bind k = .st := rfl
theorem ge0 {e : List (Option W)} : getE (some w :: e) 0 S = .ok w S := rfl
theorem ge1 {x : Option W} {e : List (Option W)} : getE (x :: e) (n + 1) S = getE e n S := by unfold getE; rw [List.getElem?_cons_succ]
theorem fz0 {e : List (Option W)} {d : D} : frzI (some (.d d) :: e) 0 S = .ok (.d d) S := rfl
theorem fz1 {x : Option W} {e : List (Option W)} : frzI (x :: e) (n + 1) S = frzI e n S := by unfold frzI; rw [List.getElem?_cons_succ]
theorem fzm {e : List (Option W)} (h : S[n]? = some (some (.lst l))) : frzI (some (.m n) :: e) 0 S = .ok (.d (.lst l)) (S.set n none) := by unfold frzI; rw [List.getElem?_cons_zero]; simp only [h]
theorem sn0 {x : Option W} {e : List (Option W)} {v : Option W} : List.set (x :: e) 0 v = v :: e := rfl
theorem sn1 {x : Option W} {e : List (Option W)} {v : Option W} : List.set (x :: e) (n + 1) v = x :: List.set e n v := rfl
theorem ci1 : cmpW .lt (.d (.int i)) (.d (.int j)) S = some (decide (i < j)) := rfl
theorem ci2 : cmpW .le (.d (.int i)) (.d (.int j)) S = some (decide (i ≤ j)) := rfl
theorem ci3 : cmpW .gt (.d (.int i)) (.d (.int j)) S = some (decide (j < i)) := rfl
theorem ci4 : cmpW .ge (.d (.int i)) (.d (.int j)) S = some (decide (j ≤ i)) := rfl
theorem ci5 : cmpW .eq (.d (.int i)) (.d (.int j)) S = some (decide (i = j)) := rfl
theorem ci6 : cmpW .ne (.d (.int i)) (.d (.int j)) S = some (!decide (i = j)) := rfl
theorem cs5 : cmpW .eq (.d (.str s)) (.d (.str z)) S = some (decide (s = z)) := rfl
theorem cs6 : cmpW .ne (.d (.str s)) (.d (.str z)) S = some (!decide (s = z)) := rfl
theorem cb5 {a b : Bool} : cmpW .eq (.d (.bl a)) (.d (.bl b)) S = some (decide (a = b)) := rfl
theorem cb6 {a b : Bool} : cmpW .ne (.d (.bl a)) (.d (.bl b)) S = some (!decide (a = b)) := rfl
theorem oo1 {o : D} : optR (some o) S = .ok (.d o) S := rfl
theorem oo2 : optBW (some b) S = .ok (.d (.bl b)) S := rfl
theorem oo3 : optB (some b) S = .ok b S := rfl
theorem bi1 : bin true .add (.d (.int i)) (.d (.int j)) S = .ok (.d (.int (i + j))) S := rfl
theorem bi2 : bin true .sub (.d (.int i)) (.d (.int j)) S = .ok (.d (.int (i - j))) S := rfl
theorem bi3 (h : mulOk i j = true) : bin true .mul (.d (.int i)) (.d (.int j)) S = .ok (.d (.int (i * j))) S := by show (if mulOk i j = true then _ else R.st) = _; rw [if_pos h]; rfl
theorem bi4 (h : 0 < j) : bin true .mod (.d (.int i)) (.d (.int j)) S = .ok (.d (.int (i % j))) S := by show (if 0 < j then _ else R.st) = _; rw [if_pos h]; rfl
theorem bi5 (h : 0 < j ∧ j < 1073741824) : bin true .fdiv (.d (.int i)) (.d (.int j)) S = .ok (.d (.int (i / j))) S := by show (if 0 < j ∧ j < 1073741824 then _ else R.st) = _; rw [if_pos h]; rfl
theorem bi6 (h : 0 ≤ j ∧ j ≤ 1000000 ∧ i.natAbs < 2 ^ 64) : bin true .pow (.d (.int i)) (.d (.int j)) S = .ok (.d (.int (i ^ j.toNat))) S := by show (if 0 ≤ j ∧ j ≤ 1000000 ∧ i.natAbs < 2 ^ 64 then _ else R.st) = _; rw [if_pos h]; rfl
theorem bi7 (h : s.length + z.length ≤ sizeLine) : bin true .add (.d (.str s)) (.d (.str z)) S = .ok (.d (.str (s ++ z))) S := by show (if s.length + z.length ≤ sizeLine then _ else R.st) = _; rw [if_pos h]; rfl
theorem bu1 (h : s.length ≤ sizeLine) : biW true .len [.d (.str s)] S = .ok (.d (.int s.length)) S := by show (if s.length ≤ sizeLine then _ else R.st) = _; rw [if_pos h]; rfl
theorem bu2 : biW true .len [.d (.lst l)] S = .ok (.d (.int l.length)) S := rfl
theorem bu3 : biW true .len [.d (.tup l)] S = .ok (.d (.int l.length)) S := rfl
theorem bu4 : biW true .len [.d (.ro l)] S = .ok (.d (.int l.length)) S := rfl
theorem bu5 (h : S[n]? = some (some (.lst l))) : biW true .len [.m n] S = .ok (.d (.int l.length)) S := by
  show optR ((sv S (.m n)).map fun l => .int l.length) S = _
  simp only [sv, h]
  rfl
theorem bu6 : biW true .abs [.d (.int i)] S = .ok (.d (.int (if i < 0 then -i else i))) S := rfl
theorem bu7 : biW true .max [.d (.int i), .d (.int j)] S = .ok (.d (.int (if j > i then j else i))) S := rfl
theorem bu8 : biW true .min [.d (.int i), .d (.int j)] S = .ok (.d (.int (if j < i then j else i))) S := rfl
theorem bu9 {β : Type} {q : List β} {p : β → Bool} : biW true .all [.d (.lst (q.map fun a => .bl (p a)))] S = .ok (.d (.bl (q.all p))) S := by
  show optR (((qv S (.d (.lst _))).bind allBl).map fun l => .bl (l.all id)) S = _
  simp only [qv, Option.bind_some, allBl_map, Option.map_some, List.all_map]
  rfl
theorem tr1 : tru S (.d (.bl b)) = some b := rfl
theorem nn1 {b : Bool} : (match (true : Bool) with
    | true => w
    | false => w') = w := rfl
theorem nx2 : (R.ok a S).noX = .ok a S := rfl
theorem mk1 : mkL true l S = .ok (.d (.lst l)) S := rfl
theorem nx1 {r : R α} {a : α} (h : r = .ok a S) : r.noX = .ok a S := by rw [h]; rfl
theorem ch1 {c : Nat} : cmpW .inn (.d (.str ⟨#[c]⟩)) (.d (.str s)) S = some (decide (c ∈ s.cps.toList)) := rfl
theorem ch2 {c : Nat} : cmpW .notIn (.d (.str ⟨#[c]⟩)) (.d (.str s)) S = some (!decide (c ∈ s.cps.toList)) := rfl
theorem ip1 : intPart (.d (.int i)) S = .ok (some i) S := rfl
theorem eg1 : evG (.nm n) w e S = if n < e.length then some (e.set n (some w)) else none := by simp only [evG]
theorem eg2 {gl : GL} : evG (.tup gl) (.d (.tup l)) e S = evGL gl l e S := by simp only [evG]
theorem eg3 : evGL .nil [] e S = some e := by simp only [evGL]
def kGl (gl : GL) (l : List D) (S : Sto) : Option Env' → Option Env'
  | some e1 => evGL gl l e1 S
  | none => none
theorem eg5 {g : G} {gl : GL} {x : D} : evGL (.cons g gl) (x :: l) e S = kGl gl l S (evG g (.d x) e S) := by
  simp only [evGL]
  cases evG g (.d x) e S <;> rfl
theorem eg6 {gl : GL} {e1 : Env'} : kGl gl l S (some e1) = evGL gl l e1 S := rfl
theorem bi8 (h : l.isEmpty = false) (h' : l'.isEmpty = false) (hz : l.length + l'.length ≤ sizeLine) : bin true .add (.d (.tup l)) (.d (.tup l')) S = .ok (.d (.tup (l ++ l'))) S := by
  show (if l.isEmpty || l'.isEmpty then R.st else if l.length + l'.length ≤ sizeLine then ok1 (.tup (l ++ l')) S else R.st) = _
  rw [h, h', if_pos hz]
  rfl
theorem bi11 (hz : l.length + l'.length ≤ sizeLine) : bin true .add (.d (.lst l)) (.d (.lst l')) S = .ok (.d (.lst (l ++ l'))) S := by
  show (if l.length + l'.length ≤ sizeLine then mkL true (l ++ l') S else R.st) = _
  rw [if_pos hz]
  rfl
theorem bi12 (hz : l.length + l'.length ≤ sizeLine) : bin false .add (.d (.lst l)) (.d (.lst l')) [] = .ok (.m 0) [some (.lst (l ++ l'))] := by
  show (if l.length + l'.length ≤ sizeLine then mkL false (l ++ l') [] else R.st) = _
  rw [if_pos hz]
  rfl
theorem eg4 {g : G} {gl : GL} {x : D} {e1 : Env'} (h : evG g (.d x) e S = some e1) : evGL (.cons g gl) (x :: l) e S = evGL gl l e1 S := by simp only [evGL, h]
theorem cn1 {c : Str} (h : c.length = 1) : cmpW .inn (.d (.str c)) (.d (.str s)) S = some (decide (c.cps[0]! ∈ s.cps.toList)) := by
  show (if c.length = 1 then some (decide (c.cps[0]! ∈ s.cps.toList)) else none) = _
  rw [if_pos h]
theorem cn2 {c : Str} (h : c.length = 1) : cmpW .notIn (.d (.str c)) (.d (.str s)) S = some (!decide (c.cps[0]! ∈ s.cps.toList)) := by
  show (if c.length = 1 then some (!decide (c.cps[0]! ∈ s.cps.toList)) else none) = _
  rw [if_pos h]
theorem atI0 {α : Type} {a : α} {l : List α} : atI (a :: l) 0 = some a := by
  unfold atI ixN
  rw [if_pos (by decide), if_pos (by rw [List.length_cons]; omega)]
  rfl
theorem atN {α : Type} {l : List α} {a : α} {i : Int} (h0 : 0 ≤ i) (h : l[i.toNat]? = some a) : atI l i = some a := by
  have hl := (List.getElem?_eq_some_iff.mp h).1
  unfold atI ixN
  rw [if_pos h0, if_pos (by omega)]
  exact h
theorem ixs0 {c : Nat} {r : List Nat} (h : s.cps.toList = c :: r) (hs : s.length ≤ sizeLine) : ixW (.d (.str s)) (.d (.int 0)) S = .ok (.d (.str ⟨#[c]⟩)) S := by
  show (if s.length ≤ sizeLine then _ else R.st) = _
  rw [if_pos hs, h, atI0]
  rfl
theorem ixsH (h : (1:Int) ≤ s.length) (hs : s.length ≤ sizeLine) : ∀ S, ixW (.d (.str s)) (.d (.int 0)) S = .ok (.d (.str ⟨#[s.cps.toList.headD 0]⟩)) S := fun S => by
  cases e : s.cps.toList with
  | nil =>
    have : s.length = 0 := by
      show s.cps.toList.length = 0
      rw [e]; rfl
    omega
  | cons c r => exact ixs0 e hs
theorem ixl {x : D} {i : Int} (h : atI l i = some x) : ixW (.d (.lst l)) (.d (.int i)) S = .ok (.d x) S := by
  show (match atI l i with | some x => ok1 x S | none => .st) = _
  rw [h]
  rfl
theorem ixt {x : D} {i : Int} (h : atI l i = some x) : ixW (.d (.tup l)) (.d (.int i)) S = .ok (.d x) S := by
  show (match atI l i with | some x => ok1 x S | none => .st) = _
  rw [h]
  rfl
theorem ixr {x : D} {i : Int} (h : atI l i = some x) : ixW (.d (.ro l)) (.d (.int i)) S = .ok (.d x) S := by
  show (match atI l i with | some x => ok1 x S | none => .st) = _
  rw [h]
  rfl
theorem trimD {n : Nat} {e : Env'} (h : S.length ≤ n) : trim n e S = S := by unfold trim; rw [if_pos h]
end
/-! ### loops turn by turn, a list that grows -/
theorem loopF_step {tg : W → Env' → Sto → Option Env'} {body : Env' → Sto → SR} {ks : List Nat} {n : Nat} {w : W} {ws : List W} {e e1 e2 : Env'} {S S2 : Sto} (h1 : tg w e S = some e1) (h2 : body e1 S = .nx e2 S2) (hn : S2.length ≤ n) : loopF tg body ks n (w :: ws) e S = loopF tg body ks n ws (kill e2 ks) S2 := by
  unfold loopF
  rw [h1]
  dsimp only
  rw [h2]
  dsimp only
  rw [trimD hn]
  cases ws <;> rfl
theorem loopW_step {test : Env' → Sto → R Bool} {body : Env' → Sto → SR} {ks : List Nat} {n m : Nat} {e e2 : Env'} {S S2 : Sto} (h1 : test e S = .ok true S) (h2 : body e S = .nx e2 S2) (hn : S2.length ≤ n) : loopW test body ks n (m + 1) e S = loopW test body ks n m (kill e2 ks) S2 := by
  rw [loopW, h1]
  simp only [es1]
  rw [h2]
  dsimp only
  rw [trimD hn]
theorem loopW_end {test : Env' → Sto → R Bool} {body : Env' → Sto → SR} {ks : List Nat} {n m : Nat} {e : Env'} {S : Sto} (h1 : test e S = .ok false S) : loopW test body ks n (m + 1) e S = .nx e S := by
  rw [loopW, h1]
  rfl
theorem loopF_stepK {g : G} {t : Tb} {b : B} {ks : List Nat} {n : Nat} {w : W} {ws : List W} {e e1 e2 : Env'} {S S2 : Sto} (h1 : evG g w e S = some e1) (h2 : evB t b e1 S = .nx e2 S2) (hn : S2.length ≤ n) : loopF (evG g) (evK t b) ks n (w :: ws) e S = loopF (evG g) (evK t b) ks n ws (kill e2 ks) S2 := loopF_step h1 h2 hn
theorem loopF_retK {g : G} {t : Tb} {b : B} {ks : List Nat} {n : Nat} {w z : W} {ws : List W} {e e1 : Env'} {S S2 : Sto} (h1 : evG g w e S = some e1) (h2 : evB t b e1 S = .rt z S2) : loopF (evG g) (evK t b) ks n (w :: ws) e S = .rt z S2 := by
  unfold loopF
  rw [h1]
  dsimp only
  have h2 : evK t b e1 S = .rt z S2 := h2
  rw [h2]
theorem loopW_stepK {c : T} {t : Tb} {b : B} {ks : List Nat} {n m : Nat} {e e2 : Env'} {S S2 : Sto} (h1 : evT t c e S = .ok true S) (h2 : evB t b e S = .nx e2 S2) (hn : S2.length ≤ n) : loopW (evTK t c) (evK t b) ks n (m + 1) e S = loopW (evTK t c) (evK t b) ks n m (kill e2 ks) S2 := loopW_step h1 h2 hn
theorem loopW_endK {c : T} {t : Tb} {b : B} {ks : List Nat} {n m : Nat} {e : Env'} {S : Sto} (h1 : evT t c e S = .ok false S) : loopW (evTK t c) (evK t b) ks n (m + 1) e S = .nx e S := loopW_end h1
section
variable {l : List D} {x : D} {S : Sto} {n : Nat} {e : Env'}
theorem em2 {a : Str} : meTy S .join (.d (.str a)) = true := by unfold meTy; rfl
theorem em4 {a : Str} : meTy S .ljust (.d (.str a)) = true := by unfold meTy; rfl
theorem em5 {a : Str} : meTy S .rjust (.d (.str a)) = true := by unfold meTy; rfl
theorem em6 {a : Str} : meTy S .rstrip (.d (.str a)) = true := by unfold meTy; rfl
theorem em3 {a : Str} : meTy S .split (.d (.str a)) = true := by unfold meTy; rfl
theorem em1 : meTy (some (.lst l) :: S) .append (.m 0) = true := by unfold meTy; rfl
theorem me1 (h : l.length < sizeLine) : meW true .append (.m 0) [.d x] (some (.lst l) :: S) = .ok (.d .non) (some (.lst (l ++ [x])) :: S) := by
  show (if l.length < sizeLine then _ else R.st) = _
  rw [if_pos h]
  rfl
theorem fzm0 : frzI (some (.m 0) :: e) 0 (some (.lst l) :: S) = .ok (.d (.lst l)) (none :: S) := rfl
theorem mk2 : mkL false l [] = .ok (.m 0) [some (.lst l)] := rfl
theorem bu50 : biW true .len [.m 0] (some (.lst l) :: S) = .ok (.d (.int l.length)) (some (.lst l) :: S) := rfl
end
/-- a new instance -/
theorem makeF_d {F : Fn} {c : Str} {us : List W} {ns : List Str} {l : List W} {ds : List D} {S S' : Sto} (h : F us [some (.ins c [] [])] = .ok (.d .non) (some (.ins c ns l) :: S')) (hl : ns.length ≤ l.length) (hd : dats l = some ds) : makeF F c us S = .ok (.d (.ins c ns ds)) S := by
  unfold makeF
  rw [h]
  show (if c = c ∧ ns.length ≤ l.length then (match dats l with
    | some ds => ok1 (.ins c ns ds) S
    | none => .st) else R.st) = _
  rw [if_pos ⟨rfl, hl⟩, hd]
  rfl
theorem trim0 {d : D} {S' : Sto} : trim 0 [some (.d d)] S' = [] := by
  unfold trim
  split
  · rename_i h
    exact List.length_eq_zero_iff.mp (Nat.le_zero.mp h)
  · rfl
theorem run_rt {t : Tb} {np n : Nat} {b : B} {ws : List W} {d : D} {S' : Sto} (h0 : ws.length = np) (h : evB t b (ws.map some ++ List.replicate (n - ws.length) none) [] = .rt (.d d) S') : run t np n b ws [] = .ok (.d d) [] := by
  unfold run
  rw [if_pos h0, h]
  show R.ok (W.d d) (trim 0 [some (W.d d)] S') = _
  rw [trim0]
/-! ### slices -/
theorem cut1 {l : List D} {i : Int} (h : 0 ≤ i) : cutD l (some i) none = l.drop i.toNat := by
  obtain ⟨k, rfl⟩ := Int.eq_ofNat_of_zero_le h
  unfold cutD
  rw [HT.sIx_nat, HT.sIx_none, Int.toNat_natCast]
  by_cases hk : k ≤ l.length
  · rw [Nat.min_eq_left hk]
    exact List.take_of_length_le (by rw [List.length_drop]; exact Nat.le_refl _)
  · rw [Nat.min_eq_right (by omega), Nat.sub_self, List.take_zero, List.drop_eq_nil_of_le (by omega)]
theorem cut2 {l : List D} {i : Int} (h : 0 ≤ i) : cutD l none (some i) = l.take i.toNat := by
  obtain ⟨k, rfl⟩ := Int.eq_ofNat_of_zero_le h
  unfold cutD
  rw [HT.sIx_nat, HT.sIx_none, Int.toNat_natCast, List.drop_zero, Nat.sub_zero]
  by_cases hk : k ≤ l.length
  · rw [Nat.min_eq_left hk]
  · rw [Nat.min_eq_right (by omega), List.take_of_length_le (Nat.le_refl _), List.take_of_length_le (by omega)]
theorem cut3 {l : List D} {i j : Int} (h : 0 ≤ i) (h' : 0 ≤ j) : cutD l (some i) (some j) = (l.drop i.toNat).take (j.toNat - i.toNat) := by
  obtain ⟨k, rfl⟩ := Int.eq_ofNat_of_zero_le h
  obtain ⟨m, rfl⟩ := Int.eq_ofNat_of_zero_le h'
  unfold cutD
  rw [HT.sIx_nat, HT.sIx_nat, Int.toNat_natCast, Int.toNat_natCast]
  by_cases hk : k ≤ l.length
  · rw [Nat.min_eq_left hk]
    by_cases hm : m ≤ l.length
    · rw [Nat.min_eq_left hm]
    · rw [Nat.min_eq_right (by omega), List.take_of_length_le (by rw [List.length_drop]; exact Nat.le_refl _), List.take_of_length_le (by rw [List.length_drop]; omega)]
  · have e : min k l.length = l.length := Nat.min_eq_right (by omega)
    rw [e, List.drop_eq_nil_of_le (Nat.le_refl _), List.drop_eq_nil_of_le (by omega), List.take_nil, List.take_nil]
section
variable {l : List D} {i j : Int} {S : Sto}
theorem sl1 (h : 0 ≤ i) : slW true (.d (.lst l)) (some i) none S = .ok (.d (.lst (l.drop i.toNat))) S := by
  show mkL true (cutD l (some i) none) S = _
  rw [cut1 h]
  rfl
theorem sl2 (h : 0 ≤ i) : slW true (.d (.lst l)) none (some i) S = .ok (.d (.lst (l.take i.toNat))) S := by
  show mkL true (cutD l none (some i)) S = _
  rw [cut2 h]
  rfl
theorem sl3 (h : 0 ≤ i) (h' : 0 ≤ j) : slW true (.d (.lst l)) (some i) (some j) S = .ok (.d (.lst ((l.drop i.toNat).take (j.toNat - i.toNat)))) S := by
  show mkL true (cutD l (some i) (some j)) S = _
  rw [cut3 h h']
  rfl
theorem sl5 (h : 0 ≤ i) : slW true (.m 0) none (some i) (some (.lst l) :: S) = .ok (.d (.lst (l.take i.toNat))) (some (.lst l) :: S) := by
  show mkL true (cutD l none (some i)) _ = _
  rw [cut2 h]
  rfl
theorem sl4 (h : 0 ≤ i) : slW true (.d (.ro l)) none (some i) S = .ok (.d (.lst (l.take i.toNat))) S := by
  show mkL true (cutD l none (some i)) S = _
  rw [cut2 h]
  rfl
end
/-! ### a list of texts -/
def strsL (ws : List Str) : D := .lst (ws.map .str)
section
variable {ws zs : List Str} {i j : Int} {S : Sto} {w k : Str} {x : Str} {ks : List Str} {l : List Int}
theorem wl1 : biW true .len [.d (strsL ws)] S = .ok (.d (.int ws.length)) S := by
  unfold strsL
  rw [bu2, List.length_map]
theorem wl8 : kSq (.d (strsL ws)) S = .ok (ws.map fun w => .d (.str w)) S := by
  unfold strsL
  rw [q35a, List.map_map]
  rfl
theorem atI_map {α γ : Type} {f : α → γ} {l : List α} {a : α} (h : atI l i = some a) : atI (l.map f) i = some (f a) := by
  unfold atI at h ⊢
  rw [List.length_map]
  cases e : ixN l.length i with
  | none => rw [e] at h; cases h
  | some n =>
    rw [e] at h
    show (l.map f)[n]? = some (f a)
    have h : l[n]? = some a := h
    rw [List.getElem?_map, h]
    rfl
theorem wl2 (h : atI ws i = some w) : ixW (.d (strsL ws)) (.d (.int i)) S = .ok (.d (.str w)) S := ixl (atI_map h)
theorem wl20 : ixW (.d (strsL (w :: ws))) (.d (.int 0)) S = .ok (.d (.str w)) S := wl2 atI0
theorem wl21 {a : Str} : ixW (.d (strsL (a :: w :: ws))) (.d (.int 1)) S = .ok (.d (.str w)) S := wl2 (atN (by decide) rfl)
theorem wl22 {a b : Str} : ixW (.d (strsL (a :: b :: w :: ws))) (.d (.int 2)) S = .ok (.d (.str w)) S := wl2 (atN (by decide) rfl)
theorem wl23 {a b c : Str} : ixW (.d (strsL (a :: b :: c :: w :: ws))) (.d (.int 3)) S = .ok (.d (.str w)) S := wl2 (atN (by decide) rfl)
theorem wl3 (h : 0 ≤ i) : slW true (.d (strsL ws)) (some i) none S = .ok (.d (strsL (ws.drop i.toNat))) S := by
  unfold strsL
  rw [sl1 h, List.map_drop]
theorem wl4 (h : 0 ≤ i) : slW true (.d (strsL ws)) none (some i) S = .ok (.d (strsL (ws.take i.toNat))) S := by
  unfold strsL
  rw [sl2 h, List.map_take]
theorem wl5 (h : 0 ≤ i) (h' : 0 ≤ j) : slW true (.d (strsL ws)) (some i) (some j) S = .ok (.d (strsL ((ws.drop i.toNat).take (j.toNat - i.toNat)))) S := by
  unfold strsL
  rw [sl3 h h', List.map_take, List.map_drop]
theorem toPys_strs : ∀ ws : List Str, toPys (ws.map .str) = some (ws.map .str)
  | [] => rfl
  | w :: ws => by
    rw [List.map_cons]
    unfold toPys
    rw [toPys_strs ws]
    rfl
theorem eqvAll_strs : ∀ ws zs : List Str, PyData.eqvAll (ws.map .str) (zs.map .str) = decide (ws = zs)
  | [], [] => rfl
  | [], _ :: _ => rfl
  | _ :: _, [] => rfl
  | w :: ws, z :: zs => by
    show ((w == z) && PyData.eqvAll (ws.map .str) (zs.map .str)) = _
    rw [eqvAll_strs ws zs]
    by_cases h1 : w = z
    · subst h1
      rw [beq_self_eq_true, Bool.true_and]
      by_cases h2 : ws = zs
      · subst h2
        simp
      · simp [h2]
    · have h3 : (w == z) = false := by simpa using h1
      rw [h3]
      simp [h1]
theorem canLay_strs : ∀ {ws : List Str}, (∀ w ∈ ws, PyData.strOk w = true) → PyData.canLayAll0 (ws.map .str) = true
  | [], _ => rfl
  | w :: ws, h => by
    rw [List.map_cons]
    unfold PyData.canLayAll0
    rw [canLay_strs fun w hw => h w (List.mem_cons_of_mem _ hw)]
    unfold PyData.canLay0
    rw [h w List.mem_cons_self]
    rfl
theorem depth_strs : ∀ ws : List Str, PyData.depthAll (ws.map .str) = 0
  | [] => rfl
  | w :: ws => by
    rw [List.map_cons]
    unfold PyData.depthAll
    rw [depth_strs ws]
    rfl
theorem deq_strs (h : ∀ w ∈ ws, PyData.strOk w = true) (h' : ∀ w ∈ zs, PyData.strOk w = true) : deq (strsL ws) (strsL zs) = some (decide (ws = zs)) := by
  have p : ∀ ws : List Str, toPy (strsL ws) = some (.list (ws.map .str)) := fun ws => by
    unfold strsL toPy
    rw [toPys_strs]
    rfl
  have q : ∀ ws : List Str, (∀ w ∈ ws, PyData.strOk w = true) → SeqAt.shaped (.list (ws.map .str)) = true := fun ws h => by
    unfold SeqAt.shaped
    have : PyData.depth (.list (ws.map .str)) = 1 := by
      unfold PyData.depth
      rw [depth_strs]
    rw [this]
    unfold PyData.canLay0
    rw [canLay_strs h]
    rfl
  show (match (none : Option Bool) with
    | some r => some r
    | none => (match toPy (strsL ws), toPy (strsL zs) with
      | some p, some q => if SeqAt.shaped p && SeqAt.shaped q then some (PyData.eqv p q) else none
      | _, _ => none)) = _
  rw [p ws, p zs]
  dsimp only
  rw [q ws h, q zs h']
  show some (PyData.eqv (.list (ws.map .str)) (.list (zs.map .str))) = _
  unfold PyData.eqv
  rw [eqvAll_strs]
theorem wl6 (h : ∀ w ∈ ws, PyData.strOk w = true) (h' : ∀ w ∈ zs, PyData.strOk w = true) : cmpW .eq (.d (strsL ws)) (.d (strsL zs)) S = some (decide (ws = zs)) := deq_strs h h'
theorem wl7 (h : ∀ w ∈ ws, PyData.strOk w = true) (h' : ∀ w ∈ zs, PyData.strOk w = true) : cmpW .ne (.d (strsL ws)) (.d (strsL zs)) S = some (!decide (ws = zs)) := by
  show (deq (strsL ws) (strsL zs)).map not = _
  rw [deq_strs h h']
  rfl
theorem kd1 : cmpW .inn (.d (.str k)) (.d (.kd x ks l)) S = some (((ks.zip l).lookup k).isSome) := rfl
theorem kd2 {v : Int} (h : (ks.zip l).lookup k = some v) : ixW (.d (.kd x ks l)) (.d (.str k)) S = .ok (.d (.int v)) S := by
  show optR (((ks.zip l).lookup k).map .int) S = _
  rw [h]
  rfl
end
/-! ### numbers from digits -/
theorem dig_text {w : Str} (h1 : 1 ≤ w.length) (h2 : w.length ≤ 4300) (h : ∀ c ∈ w.cps.toList, 48 ≤ c ∧ c ≤ 57) : PySem.intText? w = some ((NumText.digitsVal w.cps.toList : Nat) : Int) :=
  intText_digits (x := w) h (by
    intro e
    have : w.cps.toList.length = 0 := by rw [e]; rfl
    have h1 : 1 ≤ w.cps.toList.length := h1
    omega) h2
theorem bi10 {w : Str} {v : Int} {S : Sto} (h2 : w.length ≤ 640) (h : PySem.intText? w = some v) : biW true .int [.d (.str w)] S = .ok (.d (.int v)) S := by
  show (if w.length ≤ 640 then optR ((PySem.intText? w).map .int) S else .st) = _
  rw [if_pos h2, h]
  rfl
end En

namespace En
open PySem PySem.Spec PyProof.Rows L2
/-! ### texts cut at a sign -/
def spl (c : Nat) : List Nat → List (List Nat)
  | [] => [[]]
  | x :: xs => if x = c then [] :: spl c xs else (match spl c xs with
    | p :: r => (x :: p) :: r
    | [] => [[x]])
theorem spl_cons (c x : Nat) (xs : List Nat) : spl c (x :: xs) = if x = c then [] :: spl c xs else (match spl c xs with
    | p :: r => (x :: p) :: r
    | [] => [[x]]) := rfl
theorem spl_ne (c : Nat) : ∀ l, ∃ p r, spl c l = p :: r
  | [] => ⟨[], [], rfl⟩
  | x :: xs => by
    obtain ⟨p, r, e⟩ := spl_ne c xs
    unfold spl
    rw [e]
    by_cases h : x = c
    · rw [if_pos h]
      exact ⟨_, _, rfl⟩
    · rw [if_neg h]
      exact ⟨_, _, rfl⟩
theorem spl_app (c : Nat) (r : List Nat) : ∀ a, spl c (a ++ c :: r) = spl c a ++ spl c r
  | [] => by
    show spl c (c :: r) = [[]] ++ spl c r
    rw [spl, if_pos rfl]
    rfl
  | x :: a => by
    rw [List.cons_append, spl_cons, spl_cons, spl_app c r a]
    by_cases h : x = c
    · rw [if_pos h, if_pos h]
      rfl
    · rw [if_neg h, if_neg h]
      obtain ⟨p, q, e⟩ := spl_ne c a
      rw [e]
      rfl
theorem spl_free {c : Nat} : ∀ {w : List Nat}, c ∉ w → spl c w = [w]
  | [], _ => rfl
  | x :: w, h => by
    have hx : ¬ x = c := fun e => h (by rw [e]; exact List.mem_cons_self)
    rw [spl_cons, if_neg hx, spl_free fun hm => h (List.mem_cons_of_mem _ hm)]
theorem spl_join {c : Nat} : ∀ {ps : List Str}, ps ≠ [] → (∀ p ∈ ps, c ∉ p.cps.toList) → spl c (Str.join ⟨#[c]⟩ ps).cps.toList = ps.map fun p => p.cps.toList
  | [], h, _ => absurd rfl h
  | [x], _, h => spl_free (h x List.mem_cons_self)
  | x :: y :: r, _, h => by
    have ih := spl_join (ps := y :: r) (by simp) fun p hp => h p (List.mem_cons_of_mem _ hp)
    show spl c (x ++ ⟨#[c]⟩ ++ Str.join ⟨#[c]⟩ (y :: r)).cps.toList = _
    have e : (x ++ ⟨#[c]⟩ ++ Str.join ⟨#[c]⟩ (y :: r)).cps.toList = x.cps.toList ++ c :: (Str.join ⟨#[c]⟩ (y :: r)).cps.toList := by
      simp only [Str.cps_append, Array.toList_append, List.append_assoc]
      rfl
    rw [e, spl_app, ih, spl_free (h x List.mem_cons_self)]
    rfl
theorem split_ne (x y : Str) : Txt.split x y ≠ [] := by
  unfold Txt.split
  split
  · simp
  · split
    · simp
    · rw [StrLaws.partsBetween_eq]
      obtain ⟨p, r, e⟩ := StrLaws.partsFrom_ne x y.length 0 (Builtin.Str.occurrences x y 0 x.length (x.length + 1))
      rw [e]
      simp
theorem split_spl (x : Str) (c : Nat) : (Txt.split x ⟨#[c]⟩).map (fun p => p.cps.toList) = spl c x.cps.toList := by
  rw [← spl_join (split_ne x _) (StrLaws.split_free x c), StrLaws.join_split]
theorem spl_len (c : Nat) : ∀ l, (spl c l).length ≤ l.length + 1
  | [] => Nat.le_refl _
  | x :: xs => by
    have ih := spl_len c xs
    unfold spl
    by_cases h : x = c
    · rw [if_pos h, List.length_cons, List.length_cons]
      omega
    · rw [if_neg h]
      obtain ⟨p, r, e⟩ := spl_ne c xs
      rw [e] at ih ⊢
      rw [List.length_cons, List.length_cons]
      rw [List.length_cons] at ih
      omega
theorem split_len (x : Str) (c : Nat) : (Txt.split x ⟨#[c]⟩).length ≤ x.length + 1 := by
  have h := spl_len c x.cps.toList
  rw [← split_spl, List.length_map] at h
  exact h
/-- the parts that are not empty -/
def nw (c : Nat) (l : List Nat) : List (List Nat) := (spl c l).filter fun p => !p.isEmpty
theorem nw_app (c : Nat) (a r : List Nat) : nw c (a ++ c :: r) = nw c a ++ nw c r := by
  unfold nw
  rw [spl_app, List.filter_append]
theorem nw_nil (c : Nat) : nw c [] = [] := rfl
theorem nw_sp (c : Nat) (b : List Nat) : ∀ k, nw c (List.replicate k c ++ b) = nw c b
  | 0 => rfl
  | k + 1 => by
    rw [List.replicate_succ, List.cons_append]
    show nw c ([] ++ c :: _) = _
    rw [nw_app, nw_sp c b k]
    rfl
theorem nw_word {c : Nat} {w : List Nat} (h : c ∉ w) (h' : w ≠ []) : nw c w = [w] := by
  unfold nw
  rw [spl_free h]
  cases w with
  | nil => exact absurd rfl h'
  | cons x w => rfl
theorem nw_word_sp {c : Nat} {w : List Nat} (h : c ∉ w) (h' : w ≠ []) (k : Nat) (b : List Nat) : nw c (w ++ (List.replicate (k + 1) c ++ b)) = w :: nw c b := by
  rw [List.replicate_succ, List.cons_append, nw_app, nw_word h h', nw_sp]
  rfl
theorem nw_word_end {c : Nat} {w : List Nat} (h : c ∉ w) (h' : w ≠ []) : ∀ k, nw c (w ++ List.replicate k c) = [w]
  | 0 => by rw [List.replicate, List.append_nil, nw_word h h']
  | k + 1 => by
    have := nw_word_sp h h' k []
    rw [List.append_nil] at this
    rw [this]
    rfl
theorem str_inj {a b : Str} (h : a.cps.toList = b.cps.toList) : a = b := Str.ext' (Array.toList_inj.mp h)
def wordsOf (c : Nat) (s : Str) : List Str := (Txt.split s ⟨#[c]⟩).filter fun w => !decide (w = (⟨#[]⟩ : Str))
theorem wordsOf_nw (c : Nat) (s : Str) : (wordsOf c s).map (fun p => p.cps.toList) = nw c s.cps.toList := by
  unfold wordsOf nw
  rw [← split_spl, List.filter_map]
  refine congrArg (List.map _) (List.filter_congr fun w _ => ?_)
  have : (decide (w = (⟨#[]⟩ : Str))) = w.cps.toList.isEmpty := by
    by_cases h : w = ⟨#[]⟩
    · subst h
      rfl
    · rw [decide_eq_false h]
      symm
      rw [List.isEmpty_eq_false_iff]
      intro e
      exact h (str_inj e)
  rw [this]
  rfl
theorem wordsOf_eq {c : Nat} {s : Str} {ws : List Str} (h : nw c s.cps.toList = ws.map fun p => p.cps.toList) : wordsOf c s = ws := by
  rw [← wordsOf_nw] at h
  exact (List.map_inj_right (fun a b e => str_inj e)).mp h
/-! ### joined, cut, one sign -/
theorem join0 : ∀ ys : List Str, (Txt.join (⟨#[]⟩ : Str) ys).cps.toList = (ys.map fun y => y.cps.toList).flatten := by
  intro ys
  show (Builtin.Str.glued _ ys).cps.toList = _
  rw [StrLaws.glued_eq_join]
  induction ys with
  | nil => rfl
  | cons x r ih =>
    cases r with
    | nil => simp [Str.join]
    | cons y r =>
      show (x ++ (⟨#[]⟩ : Str) ++ Str.join ⟨#[]⟩ (y :: r)).cps.toList = _
      simp only [Str.cps_append, Array.toList_append]
      rw [ih, List.map_cons (f := fun y : Str => y.cps.toList) (a := x), List.flatten_cons]
      simp
theorem join0_one {α : Type} (l : List α) (f : α → Nat) : Txt.join (⟨#[]⟩ : Str) (l.map fun a => ⟨#[f a]⟩) = ⟨(l.map f).toArray⟩ := by
  apply str_inj
  rw [join0, List.map_map]
  show (l.map fun a => [f a]).flatten = l.map f
  induction l with
  | nil => rfl
  | cons a l ih => rw [List.map_cons, List.flatten_cons, ih]; rfl
theorem ixsD {s : Str} {i : Int} {S : Sto} (h0 : 0 ≤ i) (h1 : i < s.length) (hs : s.length ≤ sizeLine) : ixW (.d (.str s)) (.d (.int i)) S = .ok (.d (.str ⟨#[s.cps.toList.getD i.toNat 0]⟩)) S := by
  show (if s.length ≤ sizeLine then _ else R.st) = _
  rw [if_pos hs]
  have hl : i.toNat < s.cps.toList.length := by
    show i.toNat < s.length
    omega
  rw [atN (a := s.cps.toList.getD i.toNat 0) h0 (by rw [List.getElem?_eq_getElem hl, List.getD_eq_getElem?_getD, List.getElem?_eq_getElem hl]; rfl)]
  rfl
theorem cutS_mem {s : Str} {lo hi : Option Int} {c : Nat} (h : c ∈ (cutS s lo hi).cps.toList) : c ∈ s.cps.toList := by
  unfold cutS at h
  simp at h
  exact List.mem_of_mem_drop (List.mem_of_mem_take h)
theorem take_min {α : Type} (l : List α) (m : Nat) : l.take (min m l.length) = l.take m := by
  by_cases h : m ≤ l.length
  · rw [Nat.min_eq_left h]
  · rw [Nat.min_eq_right (by omega), List.take_of_length_le (Nat.le_refl _), List.take_of_length_le (by omega)]
theorem drop_min {α : Type} (l : List α) (m : Nat) : l.drop (min m l.length) = l.drop m := by
  by_cases h : m ≤ l.length
  · rw [Nat.min_eq_left h]
  · rw [Nat.min_eq_right (by omega), List.drop_eq_nil_of_le (Nat.le_refl _), List.drop_eq_nil_of_le (by omega)]
theorem cutS_to {s : Str} {k : Int} (h : 0 ≤ k) : (cutS s none (some k)).cps.toList = s.cps.toList.take k.toNat := by
  obtain ⟨m, rfl⟩ := Int.eq_ofNat_of_zero_le h
  have e : s.length = s.cps.toList.length := rfl
  unfold cutS
  rw [HT.sIx_nat, HT.sIx_none, Int.toNat_natCast, List.drop_zero, Nat.sub_zero, e, take_min]
theorem cutS_from {s : Str} {k : Int} (h : 0 ≤ k) : (cutS s (some k) none).cps.toList = s.cps.toList.drop k.toNat := by
  obtain ⟨m, rfl⟩ := Int.eq_ofNat_of_zero_le h
  have e : s.length = s.cps.toList.length := rfl
  unfold cutS
  rw [HT.sIx_nat, HT.sIx_none, Int.toNat_natCast, e, drop_min]
  show ((s.cps.toList.drop m).take (s.cps.toList.length - min m s.cps.toList.length)) = _
  refine List.take_of_length_le ?_
  rw [List.length_drop]
  omega
theorem sls {s : Str} {lo hi : Option Int} {z : Bool} {S : Sto} (hs : s.length ≤ sizeLine) : slW z (.d (.str s)) lo hi S = .ok (.d (.str (cutS s lo hi))) S := if_pos hs
/-- a place of a written tuple -/
theorem pick {α : Type} {l : List α} {f : α → D} {i : Int} (h0 : 0 ≤ i) (h1 : i < l.length) : ∃ w ∈ l, ∀ S, ixW (.d (.tup (l.map f))) (.d (.int i)) S = .ok (.d (f w)) S := by
  have hl : i.toNat < l.length := by omega
  exact ⟨l[i.toNat], List.getElem_mem hl, fun S => ixt (atI_map (atN h0 (List.getElem?_eq_getElem hl)))⟩
theorem mj {a : Str} {l : List D} {ys : List Str} {z : Bool} {S : Sto} (h : allStr l = some ys) (hz : joinLen a ys ≤ 16777216) : meW z .join (.d (.str a)) [.d (.lst l)] S = .ok (.d (.str (Txt.join a ys))) S := by
  show (match (some l).bind allStr with
    | some ys => if joinLen a ys ≤ 16777216 then ok1 (D.str (Txt.join a ys)) S else R.st
    | none => R.st) = R.ok (W.d (D.str (Txt.join a ys))) S
  rw [Option.bind_some, h]
  dsimp only
  rw [if_pos hz]
  rfl
theorem msp {a b : Str} {S : Sto} (h : b.length ≠ 0 ∧ a.length + 2 ≤ sizeLine) : meW true .split (.d (.str a)) [.d (.str b)] S = .ok (.d (strsL (Txt.split a b))) S := by
  show (if b.length ≠ 0 ∧ a.length + 2 ≤ sizeLine then _ else R.st) = _
  rw [if_pos h]
  rfl
/-- signs on end -/
theorem rpt {c : Nat} {n : Int} {S : Sto} {z : Bool} (h : n ≤ 1000) (h' : -1000 ≤ n) : bin z .mul (.d (.str ⟨#[c]⟩)) (.d (.int n)) S = .ok (.d (.str ⟨(List.replicate n.toNat c).toArray⟩)) S := by
  show (if (⟨#[c]⟩ : Str).length = 1 ∧ n ≤ 1000 ∧ -1000 ≤ n then _ else R.st) = _
  rw [if_pos ⟨rfl, h, h'⟩]
  have : (List.replicate n.toNat [c]).flatten = List.replicate n.toNat c := by
    induction n.toNat with
    | zero => rfl
    | succ k ih => rw [List.replicate_succ, List.flatten_cons, ih, List.replicate_succ]; rfl
  show R.ok (W.d (D.str ⟨(List.replicate n.toNat [c]).flatten.toArray⟩)) S = _
  rw [this]
end En

namespace En
open PySem PySem.Spec PyProof.Rows L2
theorem small {n : Nat} (h : n ≤ 1000000) : n ≤ sizeLine := Nat.le_trans h (by decide)
def intsL (l : List Int) : List D := l.map .int
theorem intsL_add (l : List Int) (x : Int) : intsL l ++ [.int x] = intsL (l ++ [x]) := by
  unfold intsL
  rw [List.map_append]
  rfl
theorem intsL_len (l : List Int) : (intsL l).length = l.length := by
  unfold intsL
  rw [List.length_map]
def inR (l : List Int) : Prop := ∀ x ∈ l, 0 ≤ x ∧ x < 1009
theorem inR_add {l : List Int} {x : Int} (h : inR l) (h1 : 0 ≤ x) (h2 : x < 1009) : inR (l ++ [x]) := fun y hy => by
  rcases List.mem_append.mp hy with hy | hy
  · exact h y hy
  · rw [List.mem_singleton.mp hy]
    exact ⟨h1, h2⟩
theorem inR_mod {l : List Int} (h : inR l) (x : Int) : inR (l ++ [x % 1009]) := inR_add h (Int.emod_nonneg _ (by decide)) (Int.emod_lt_of_pos _ (by decide))
theorem inR_app {l m : List Int} (h : inR l) (h' : inR m) : inR (l ++ m) := fun y hy => (List.mem_append.mp hy).elim (h y) (h' y)
theorem rng_ints (n : Nat) : rngL 0 n = ((List.range n).map fun (k : Nat) => (k : Int)).map fun k => W.d (.int k) := by
  unfold rngL
  rw [List.map_map]
  refine List.map_congr_left fun k _ => ?_
  show W.d (.int (0 + (k : Int))) = W.d (.int (k : Int))
  rw [Int.zero_add]
theorem rng_nat (n : Nat) : rngL 0 n = (List.range' 0 n).map fun (k : Nat) => W.d (.int (k : Int)) := by
  rw [rng_ints, List.map_map, List.range_eq_range']
  rfl
theorem rng_from (s n : Nat) : rngL (s : Int) n = (List.range' s n).map fun (k : Nat) => W.d (.int (k : Int)) := by
  unfold rngL
  rw [List.range_eq_range']
  apply List.ext_getElem
  · simp
  · intro i h1 h2
    simp
theorem enm_nat : ∀ (l : List D) (k : Nat), enmL k l = ((l.zipIdx k).map fun p => W.d (.tup [.int (p.2 : Int), p.1]))
  | [], k => rfl
  | x :: l, k => by
    rw [List.zipIdx_cons, List.map_cons, ← enm_nat l (k + 1)]
    rfl
theorem rsz {i : Int} (h0 : 0 ≤ i) (h : i ≤ 1000) : rngOk i = true := by
  unfold rngOk
  simp
  omega
/-! ### loops that append -/
/-- one more item a turn -/
theorem loopF_ex {α : Type} {g : G} {t : Tb} {b : B} {ks : List Nat} {e : Env'} {w : Nat → W} (f : α → D) (P : Nat → α → Prop) {B : Nat} : ∀ (m s : Nat) (acc : List α), (∀ i, s ≤ i → i < s + m → ∀ acc : List α, acc.length < B → ∃ e1 e2 x, evG g (w i) e [some (.lst (acc.map f))] = some e1 ∧ evB t b e1 [some (.lst (acc.map f))] = .nx e2 [some (.lst ((acc ++ [x]).map f))] ∧ kill e2 ks = e ∧ P i x) → acc.length + m ≤ B →
    ∃ xs : List α, loopF (evG g) (evK t b) ks 1 ((List.range' s m).map w) e [some (.lst (acc.map f))] = .nx e [some (.lst ((acc ++ xs).map f))] ∧ xs.length = m ∧ ∀ (j : Nat) (x : α), xs[j]? = some x → P (s + j) x
  | 0, s, acc, h, hz => ⟨[], by simp [loopF], rfl, fun j x q => by simp at q⟩
  | m + 1, s, acc, h, hz => by
    obtain ⟨e1, e2, x, h1, h2, h3, h4⟩ := h s (Nat.le_refl _) (by omega) acc (by omega)
    obtain ⟨xs, g1, g2, g3⟩ := loopF_ex f P m (s + 1) (acc ++ [x]) (fun i hi hj => h i (by omega) (by omega)) (by rw [List.length_append, List.length_singleton]; omega)
    refine ⟨x :: xs, ?_, by rw [List.length_cons, g2], fun j y q => ?_⟩
    · rw [List.range'_succ, List.map_cons, loopF_stepK h1 h2 (by simp), h3, g1, List.append_assoc]
      rfl
    · cases j with
      | zero =>
        simp at q
        subst q
        exact h4
      | succ j =>
        have := g3 j y (by simpa using q)
        rw [show s + (j + 1) = s + 1 + j by omega]
        exact this
/-- the same over a list's items -/
theorem loopF_map {α γ : Type} {g : G} {t : Tb} {b : B} {ks : List Nat} {e : Env'} {w : γ → W} (f : α → D) (h : γ → α) {B : Nat} : ∀ (l : List γ) (acc : List α), (∀ a ∈ l, ∀ acc : List α, acc.length < B → ∃ e1 e2, evG g (w a) e [some (.lst (acc.map f))] = some e1 ∧ evB t b e1 [some (.lst (acc.map f))] = .nx e2 [some (.lst ((acc ++ [h a]).map f))] ∧ kill e2 ks = e) → acc.length + l.length ≤ B →
    loopF (evG g) (evK t b) ks 1 (l.map w) e [some (.lst (acc.map f))] = .nx e [some (.lst ((acc ++ l.map h).map f))]
  | [], acc, _, _ => by simp [loopF]
  | a :: l, acc, hh, hz => by
    rw [List.length_cons] at hz
    obtain ⟨e1, e2, h1, h2, h3⟩ := hh a List.mem_cons_self acc (by omega)
    rw [List.map_cons, loopF_stepK h1 h2 (by simp), h3, loopF_map f h l (acc ++ [h a]) (fun a ha => hh a (List.mem_cons_of_mem _ ha)) (by rw [List.length_append, List.length_singleton]; omega), List.append_assoc]
    rfl
/-- nothing but the state's value changes -/
theorem loopF_inv {γ σ : Type} {g : G} {t : Tb} {b : B} {ks : List Nat} {n : Nat} {w : γ → W} (ev : σ → Env') (st : σ → Sto) (I : σ → Prop) : ∀ (l : List γ) (s : σ), I s → (∀ s, I s → (st s).length ≤ n) → (∀ a ∈ l, ∀ s, I s → ∃ e1 e2 s', evG g (w a) (ev s) (st s) = some e1 ∧ (evB t b e1 (st s) = .nx e2 (st s') ∨ evB t b e1 (st s) = .ct e2 (st s')) ∧ kill e2 ks = ev s' ∧ I s') →
    ∃ s', loopF (evG g) (evK t b) ks n (l.map w) (ev s) (st s) = .nx (ev s') (st s') ∧ I s'
  | [], s, hs, _, _ => ⟨s, by simp [loopF], hs⟩
  | a :: l, s, hs, hn, h => by
    obtain ⟨e1, e2, s', h1, h2, h3, h4⟩ := h a List.mem_cons_self s hs
    obtain ⟨s2, g1, g2⟩ := loopF_inv ev st I l s' h4 hn fun a ha => h a (List.mem_cons_of_mem _ ha)
    refine ⟨s2, ?_, g2⟩
    rw [← g1, List.map_cons]
    conv => lhs; unfold loopF
    rw [h1]
    dsimp only
    have hk : ∀ r, evB t b e1 (st s) = r → evK t b e1 (st s) = r := fun r q => q
    rcases h2 with h2 | h2
    · rw [hk _ h2]
      dsimp only
      rw [trimD (hn _ h4), h3]
    · rw [hk _ h2]
      dsimp only
      rw [trimD (hn _ h4), h3]
/-- a comprehension's items, one each -/
theorem loopC_ex {α : Type} {tg : W → Env' → Sto → Option Env'} {test : Env' → Sto → R Bool} {el : Env' → Sto → R W} {S : Sto} {e : Env'} {w : Nat → W} (f : α → D) (P : Nat → α → Prop) {B : Nat} (hB : B ≤ sizeLine) : ∀ (m s : Nat) (acc : List α), (∀ i, s ≤ i → i < s + m → ∃ e1 x, tg (w i) e S = some e1 ∧ test e1 S = .ok true S ∧ el e1 S = .ok (.d (f x)) S ∧ P i x) → acc.length + m ≤ B →
    ∃ xs : List α, loopC tg test el ((List.range' s m).map w) e (acc.map f) S = .ok ((acc ++ xs).map f) S ∧ xs.length = m ∧ ∀ (j : Nat) (x : α), xs[j]? = some x → P (s + j) x
  | 0, s, acc, h, hz => ⟨[], by simp [loopC], rfl, fun j x q => by simp at q⟩
  | m + 1, s, acc, h, hz => by
    obtain ⟨e1, x, h1, h2, h3, h4⟩ := h s (Nat.le_refl _) (by omega)
    obtain ⟨xs, g1, g2, g3⟩ := loopC_ex (tg := tg) (test := test) (el := el) f P hB m (s + 1) (acc ++ [x]) (fun i hi hj => h i (by omega) (by omega)) (by rw [List.length_append, List.length_singleton]; omega)
    refine ⟨x :: xs, ?_, by rw [List.length_cons, g2], fun j y q => ?_⟩
    · rw [List.range'_succ, List.map_cons, loopC, h1]
      dsimp only
      rw [h2]
      simp only [R.bind]
      rw [h3]
      dsimp only
      rw [if_pos (by rw [List.length_map]; omega)]
      have e : acc.map f ++ [f x] = (acc ++ [x]).map f := by rw [List.map_append]; rfl
      rw [e, g1, List.append_assoc]
      rfl
    · cases j with
      | zero =>
        simp at q
        subst q
        exact h4
      | succ j =>
        have := g3 j y (by simpa using q)
        rw [show s + (j + 1) = s + 1 + j by omega]
        exact this
/-! ### texts of letters and figures -/
def okC (w : Str) : Prop := ∀ c ∈ w.cps.toList, (48 ≤ c ∧ c ≤ 57) ∨ (97 ≤ c ∧ c ≤ 122)
theorem len_cps (w : Str) : w.length = w.cps.toList.length := rfl
theorem app_cps (a b : Str) : (a ++ b).cps.toList = a.cps.toList ++ b.cps.toList := by
  simp only [Str.cps_append, Array.toList_append]
theorem app_len (a b : Str) : (a ++ b).length = a.length + b.length := Str.length_append a b
theorem okC_app {a b : Str} (h : okC a) (h' : okC b) : okC (a ++ b) := fun c hc => by
  rw [app_cps] at hc
  exact (List.mem_append.mp hc).elim (h c) (h' c)
instance (w : Str) : Decidable (okC w) := by unfold okC; infer_instance
def nmC : List Nat := ("abcdefghijklmnopqrstuvwxyz0123456789" : Str).cps.toList
theorem nm_mem {c : Nat} (h : (48 ≤ c ∧ c ≤ 57) ∨ (97 ≤ c ∧ c ≤ 122)) : c ∈ nmC := by
  have : ∀ c < 123, (48 ≤ c ∧ c ≤ 57) ∨ (97 ≤ c ∧ c ≤ 122) → c ∈ nmC := by decide +kernel
  exact this c (by omega) h
def spN (c : Nat) (n : Int) : Str := ⟨(List.replicate n.toNat c).toArray⟩
theorem spN_cps (c : Nat) (n : Int) : (spN c n).cps.toList = List.replicate n.toNat c := rfl
theorem spN_len (c : Nat) (n : Int) : (spN c n).length = n.toNat := by
  rw [len_cps, spN_cps, List.length_replicate]
theorem rptN {c : Nat} {n : Int} {S : Sto} {z : Bool} (h : n ≤ 1000) (h' : -1000 ≤ n) : bin z .mul (.d (.str ⟨#[c]⟩)) (.d (.int n)) S = .ok (.d (.str (spN c n))) S := rpt h h'
theorem okStr {w : Str} (h : okC w) : PyData.strOk w = true := by
  unfold PyData.strOk
  rw [← Array.all_toList]
  refine List.all_eq_true.mpr fun c hc => ?_
  have := h c hc
  simp
  omega
theorem str_small (i : Int) (h : i.natAbs < 2 ^ 64) : ∀ S, biW true .str [.d (.int i)] S = .ok (.d (.str (toString i))) S := fun S => by
  show (if i.natAbs.log2 < 1920 then ok1 (.str (toString i)) S else .st) = _
  rw [if_pos]
  · rfl
  · rcases Nat.eq_zero_or_pos i.natAbs with h0 | h0
    · rw [h0]
      decide
    · have := (Nat.log2_lt (by omega)).mpr h
      omega
/-! ### in a list of texts, of ints -/
theorem inOf_str {a : Str} : ∀ l : List Str, inOf (.str a) (l.map .str) = decide (a ∈ l)
  | [] => rfl
  | b :: l => by
    show (decide (b = a) || inOf (.str a) (l.map .str)) = _
    rw [inOf_str l]
    by_cases h : b = a
    · subst h
      simp
    · have : ¬ a = b := fun e => h e.symm
      simp [h, this]
theorem flat_strs : ∀ l : List Str, (l.map D.str).all flatD = true
  | [] => rfl
  | b :: l => by
    rw [List.map_cons, List.all_cons, flat_strs l]
    rfl
theorem inOf_int {a : Int} : ∀ l : List Int, inOf (.int a) (l.map .int) = decide (a ∈ l)
  | [] => rfl
  | b :: l => by
    show (decide (b = a) || inOf (.int a) (l.map .int)) = _
    rw [inOf_int l]
    by_cases h : b = a
    · subst h
      simp
    · have : ¬ a = b := fun e => h e.symm
      simp [h, this]
theorem flat_ints : ∀ l : List Int, (l.map D.int).all flatD = true
  | [] => rfl
  | b :: l => by
    rw [List.map_cons, List.all_cons, flat_ints l]
    rfl
section
variable {S : Sto} {a : Str} {l : List Str} {i : Int} {m : List Int}
theorem in_ms : cmpW .inn (.d (.str a)) (.m 0) (some (.lst (l.map .str)) :: S) = some (decide (a ∈ l)) := by
  show (if flatD (.str a) && (l.map D.str).all flatD then some (inOf (.str a) (l.map .str)) else none) = _
  rw [flat_strs, inOf_str]
  rfl
theorem in_ds : cmpW .inn (.d (.str a)) (.d (.lst (l.map .str))) S = some (decide (a ∈ l)) := by
  show (if flatD (.str a) && (l.map D.str).all flatD then some (inOf (.str a) (l.map .str)) else none) = _
  rw [flat_strs, inOf_str]
  rfl
theorem ni_ms : cmpW .notIn (.d (.str a)) (.m 0) (some (.lst (l.map .str)) :: S) = some (!decide (a ∈ l)) := by
  show (if flatD (.str a) && (l.map D.str).all flatD then some (!inOf (.str a) (l.map .str)) else none) = _
  rw [flat_strs, inOf_str]
  rfl
theorem ni_ds : cmpW .notIn (.d (.str a)) (.d (.lst (l.map .str))) S = some (!decide (a ∈ l)) := by
  show (if flatD (.str a) && (l.map D.str).all flatD then some (!inOf (.str a) (l.map .str)) else none) = _
  rw [flat_strs, inOf_str]
  rfl
theorem in_di : cmpW .inn (.d (.int i)) (.d (.lst (m.map .int))) S = some (decide (i ∈ m)) := by
  show (if flatD (.int i) && (m.map D.int).all flatD then some (inOf (.int i) (m.map .int)) else none) = _
  rw [flat_ints, inOf_int]
  rfl
theorem ni_di : cmpW .notIn (.d (.int i)) (.d (.lst (m.map .int))) S = some (!decide (i ∈ m)) := by
  show (if flatD (.int i) && (m.map D.int).all flatD then some (!inOf (.int i) (m.map .int)) else none) = _
  rw [flat_ints, inOf_int]
  rfl
end
theorem run_nx {t : Tb} {np n : Nat} {b : B} {ws : List W} {S S' : Sto} {e : Env'} (h0 : ws.length = np) (h : evB t b (ws.map some ++ List.replicate (n - ws.length) none) S = .nx e S') (hl : S'.length ≤ S.length) : run t np n b ws S = .ok (.d .non) S' := by
  unfold run
  rw [if_pos h0, h]
  show R.ok (W.d .non) (trim S.length [] S') = _
  rw [trimD hl]
theorem run_rtS {t : Tb} {np n : Nat} {b : B} {ws : List W} {S S' : Sto} {w : W} (h0 : ws.length = np) (h : evB t b (ws.map some ++ List.replicate (n - ws.length) none) S = .rt w S') (hl : S'.length ≤ S.length) : run t np n b ws S = .ok w S' := by
  unfold run
  rw [if_pos h0, h]
  show R.ok w (trim S.length [some w] S') = _
  rw [trimD hl]
/-! ### a list behind another object -/
section
variable {S : Sto} {o : Option Ob} {l : List D} {x : D} {e : Env'} {t : Tb} {n : Nat} {a : Str} {ls : List Str}
theorem mk2b : mkL false l [o] = .ok (.m 1) [o, some (.lst l)] := rfl
theorem em1b : meTy (o :: some (.lst l) :: S) .append (.m 1) = true := by unfold meTy; rfl
theorem me1b (h : l.length < sizeLine) : meW true .append (.m 1) [.d x] (o :: some (.lst l) :: S) = .ok (.d .non) (o :: some (.lst (l ++ [x])) :: S) := by
  show (if l.length < sizeLine then _ else R.st) = _
  rw [if_pos h]
  rfl
theorem bu50b : biW true .len [.m 1] (o :: some (.lst l) :: S) = .ok (.d (.int l.length)) (o :: some (.lst l) :: S) := rfl
theorem q60b : kFz n e (o :: some (.lst l) :: S) (some (some (.m 1))) = .nx (e.set n (some (.d (.lst l)))) (o :: none :: S) := rfl
theorem in_msb : cmpW .inn (.d (.str a)) (.m 1) (o :: some (.lst (ls.map .str)) :: S) = some (decide (a ∈ ls)) := by
  show (if flatD (.str a) && (ls.map D.str).all flatD then some (inOf (.str a) (ls.map .str)) else none) = _
  rw [flat_strs, inOf_str]
  rfl
theorem tu1 : biW true .tuple [.d (.lst l)] S = .ok (.d (.tup l)) S := rfl
theorem li1 : biW true .list [.d (.lst l)] S = .ok (.d (.lst l)) S := rfl
theorem li2 : biW true .list [.d (.tup l)] S = .ok (.d (.lst l)) S := rfl
theorem it1 {i : Int} : biW true .int [.d (.int i)] S = .ok (.d (.int i)) S := rfl
theorem is1 : isiW "list" (.d (.lst l)) S = some true := rfl
theorem is2 {b : Bool} : isiW "bool" (.d (.bl b)) S = some true := rfl
end
theorem run_nxT {t : Tb} {np n : Nat} {b : B} {ws : List W} {S S' S2 : Sto} {e : Env'} (h0 : ws.length = np) (h : evB t b (ws.map some ++ List.replicate (n - ws.length) none) S = .nx e S') (hl : trim S.length [] S' = S2) : run t np n b ws S = .ok (.d .non) S2 := by
  unfold run
  rw [if_pos h0, h]
  show R.ok (W.d .non) (trim S.length [] S') = _
  rw [hl]
theorem tup0 {a : D} {r : List D} : ∀ S, ixW (.d (.tup (a :: r))) (.d (.int 0)) S = .ok (.d a) S := fun S => ixt atI0
theorem tup1 {a b : D} {r : List D} : ∀ S, ixW (.d (.tup (a :: b :: r))) (.d (.int 1)) S = .ok (.d b) S := fun S => ixt (atN (by decide) rfl)
theorem tup2 {a b c : D} {r : List D} : ∀ S, ixW (.d (.tup (a :: b :: c :: r))) (.d (.int 2)) S = .ok (.d c) S := fun S => ixt (atN (by decide) rfl)
theorem map_md {α : Type} (f : α → D) (l : List α) : (l.map f).map W.d = l.map fun a => W.d (f a) := by rw [List.map_map]; rfl
theorem mk2c {l : List D} {o p : Option Ob} : mkL false l [o, p] = .ok (.m 2) [o, p, some (.lst l)] := rfl
theorem em1c {l : List D} {o p : Option Ob} {S : Sto} : meTy (o :: p :: some (.lst l) :: S) .append (.m 2) = true := by unfold meTy; rfl
theorem me1c {l : List D} {o p : Option Ob} {S : Sto} {x : D} (h : l.length < sizeLine) : meW true .append (.m 2) [.d x] (o :: p :: some (.lst l) :: S) = .ok (.d .non) (o :: p :: some (.lst (l ++ [x])) :: S) := by
  show (if l.length < sizeLine then _ else R.st) = _
  rw [if_pos h]
  rfl
theorem q60c {n : Nat} {e : Env'} {l : List D} {o p : Option Ob} {S : Sto} : kFz n e (o :: p :: some (.lst l) :: S) (some (some (.m 2))) = .nx (e.set n (some (.d (.lst l)))) (o :: p :: none :: S) := rfl
theorem bi1b {b : Bool} {S : Sto} : biW true .int [.d (.bl b)] S = .ok (.d (.int (b2i b))) S := rfl
/-- the turns counted -/
theorem loopF_invN {γ σ : Type} {g : G} {t : Tb} {b : B} {ks : List Nat} {n : Nat} {w : γ → W} (ev : σ → Env') (st : σ → Sto) (I : Nat → σ → Prop) : ∀ (l : List γ) (m : Nat) (s : σ), I m s → (∀ m s, I m s → (st s).length ≤ n) → (∀ (i : Nat) (a : γ), l[i]? = some a → ∀ s, I (m + i) s → ∃ e1 e2 s', evG g (w a) (ev s) (st s) = some e1 ∧ (evB t b e1 (st s) = .nx e2 (st s') ∨ evB t b e1 (st s) = .ct e2 (st s')) ∧ kill e2 ks = ev s' ∧ I (m + i + 1) s') →
    ∃ s', loopF (evG g) (evK t b) ks n (l.map w) (ev s) (st s) = .nx (ev s') (st s') ∧ I (m + l.length) s'
  | [], m, s, hs, _, _ => ⟨s, by simp [loopF], hs⟩
  | a :: l, m, s, hs, hn, h => by
    obtain ⟨e1, e2, s', h1, h2, h3, h4⟩ := h 0 a rfl s hs
    obtain ⟨s2, g1, g2⟩ := loopF_invN ev st I l (m + 1) s' h4 hn fun i a ha s hi => by
      have := h (i + 1) a (by simpa using ha) s (by rw [show m + (i + 1) = m + 1 + i by omega]; exact hi)
      rw [show m + 1 + i + 1 = m + (i + 1) + 1 by omega]
      exact this
    refine ⟨s2, ?_, by rw [List.length_cons, show m + (l.length + 1) = m + 1 + l.length by omega]; exact g2⟩
    rw [← g1, List.map_cons]
    conv => lhs; unfold loopF
    rw [h1]
    dsimp only
    have hk : ∀ r, evB t b e1 (st s) = r → evK t b e1 (st s) = r := fun r q => q
    rcases h2 with h2 | h2
    · rw [hk _ h2]
      dsimp only
      rw [trimD (hn _ _ h4), h3]
    · rw [hk _ h2]
      dsimp only
      rw [trimD (hn _ _ h4), h3]
theorem callF_p {F : Fn} {ws : List W} {e : Env'} {i : Nat} {l l' : List D} {r : D} (he : e[i]? = some (some (.m 0))) (hw : renWs [0] ws = some ws) (h : F ws [some (.lst l)] = .ok (.d r) [some (.lst l')]) : callF F ws e [(i, [])] [some (.lst l)] = .ok (.d r) [some (.lst l')] := by
  unfold callF
  simp [plcs, plc, he, hw, subS, renO, h, flatS, wbW, wbS]
end En

/-! the law's defs as engine terms (printed by gen.py) -/
namespace En.K73
open PySem PySem.Spec PyProof.Rows L2 En
def b0_1 : B := (.cons (.iff (.cmp .ge (.bi true .abs (.cons (.var 0) .nil)) (.op true .pow (.int 10) (.int 18))) (.cons (.ex (.me true .append (.var 2) (.cons (.op true .mod (.bi true .int (.cons (.var 3) .nil)) (.int 1009)) .nil))) (.cons (.set 3 (.op true .fdiv (.var 3) (.int 1009))) .nil)) (.cons (.set 5 (.op true .mod (.op true .add (.op true .mul (.var 3) (.int 48271)) (.op true .mul (.op true .add (.var 4) (.int 1)) (.int 69621))) (.int 2147483647))) (.cons (.set 5 (.op true .mod (.op true .add (.op true .mul (.var 5) (.int 16807)) (.op true .mul (.int 271) (.op true .add (.var 4) (.int 3)))) (.int 2147483629))) (.cons (.ex (.me true .append (.var 2) (.cons (.op true .mod (.bi true .int (.cons (.var 5) .nil)) (.int 1009)) .nil))) .nil)))) .nil)
/-- _law_row -/
abbrev N0 : List Str := ["_law_cell", "_law_many", "_law_row_here", "_law_rest", "_law_k", "_law_mixed"]
def b0 : B := (.cons (.set 2 (.lst false .nil)) (.cons (.set 3 (.bi true .abs (.cons (.var 0) .nil))) (.cons (.fo (.nm 4) (.rng1 (.var 1)) b0_1 [4, 5]) (.cons (.fz 2) (.cons (.ret (.var 2)) .nil)))))
def b1_1 : B := (.cons (.ex (.me true .append (.var 4) (.cons (.int 0) .nil))) .nil)
def b1_3 : B := (.cons (.ex (.me true .append (.var 4) (.cons (.var 6) .nil))) .nil)
def b1_2 : B := (.cons (.fo (.nm 6) (.seq (.call 0 (.cons (.var 5) (.cons (.var 3) .nil)) [])) b1_3 [6]) .nil)
/-- _law_numbers -/
abbrev N1 : List Str := ["_law_script", "_law_many", "_law_cells", "_law_each", "_law_numbers_here", "_law_cell", "_law_number"]
def b1 : B := (.cons (.set 2 (.sl true (.var 0) .no (.so (.int 63)))) (.cons (.set 3 (.op true .add (.int 1) (.op true .fdiv (.var 1) (.bi true .max (.cons (.int 1) (.cons (.bi true .len (.cons (.var 2) .nil)) .nil)))))) (.cons (.set 4 (.lst false .nil)) (.cons (.fo (.nm 5) (.seq (.var 2)) b1_2 [5, 6]) (.cons (.wh (.cmp .lt (.bi true .len (.cons (.var 4) .nil)) (.var 1)) b1_1 []) (.cons (.fz 4) (.cons (.ret (.sl true (.var 4) .no (.so (.var 1)))) .nil)))))))
def b2_1 : B := (.cons (.set 4 (.lc true [("_law_kind", 5)] (.nm 5) (.seq (.ix (.var 3) (.int 1))) .yes (.tup (.cons (.ix (.var 5) (.int 0)) (.cons (.op true .sub (.op true .mul (.ix (.var 5) (.int 1)) (.var 1)) (.op true .fdiv (.var 1) (.int 3))) (.cons (.ix (.var 5) (.int 2)) .nil)))))) (.cons (.ex (.me true .append (.var 2) (.cons (.tup (.cons (.ix (.var 3) (.int 0)) (.cons (.var 4) (.cons (.ix (.var 3) (.int 2)) .nil)))) .nil))) .nil))
/-- _law_scaled -/
abbrev N2 : List Str := ["_law_specs_here", "_law_factor", "_law_scaled_here", "_law_spec", "_law_kinds_here", "_law_kind"]
def b2 : B := (.cons (.set 2 (.lst false .nil)) (.cons (.fo (.nm 3) (.seq (.var 0)) b2_1 [3, 4]) (.cons (.fz 2) (.cons (.ret (.var 2)) .nil))))
/-- _law_name -/
abbrev N3 : List Str := ["_law_number", "_law_k", "_law_text"]
def b3 : B := (.cons (.set 2 (.op true .mul (.ix (.str "kxzabc") (.op true .mod (.bi true .int (.cons (.var 0) .nil)) (.int 6))) (.op true .mod (.op true .fdiv (.var 0) (.int 6)) (.int 3)))) (.cons (.iff (.cmp .eq (.op true .mod (.op true .fdiv (.var 0) (.int 18)) (.int 2)) (.int 0)) (.cons (.ret (.op true .add (.var 2) (.bi true .str (.cons (.var 1) .nil)))) .nil) .nil) (.cons (.ret (.op true .add (.bi true .str (.cons (.var 1) .nil)) (.var 2))) .nil)))
def b4_1 : B := (.cons (.set 4 (.call 3 (.cons (.ix (.var 0) (.op true .add (.var 1) (.int 1))) (.cons (.var 3) .nil)) [])) (.cons (.ex (.me true .append (.var 2) (.cons (.tup (.cons (.var 4) (.cons (.op true .add (.int 1) (.op true .mod (.bi true .int (.cons (.ix (.var 0) (.op true .add (.op true .add (.var 1) (.int 2)) (.op true .mul (.int 2) (.var 3)))) .nil)) (.int 4))) (.cons (.op true .add (.int 1) (.op true .mod (.bi true .int (.cons (.ix (.var 0) (.op true .add (.op true .add (.var 1) (.int 3)) (.op true .mul (.int 2) (.var 3)))) .nil)) (.int 9))) .nil)))) .nil))) .nil))
/-- _law_kinds -/
abbrev N4 : List Str := ["_law_numbers_here", "_law_at", "_law_kinds_here", "_law_k", "_law_name_here"]
def b4 : B := (.cons (.set 2 (.lst false .nil)) (.cons (.fo (.nm 3) (.rng1 (.op true .add (.int 1) (.op true .mod (.bi true .int (.cons (.ix (.var 0) (.var 1)) .nil)) (.int 2)))) b4_1 [3, 4]) (.cons (.fz 2) (.cons (.ret (.var 2)) .nil))))
def b5_1 : B := (.cons (.set 5 (.ix (.ix (.var 2) (.op true .mod (.bi true .int (.cons (.ix (.var 0) (.op true .add (.op true .add (.var 1) (.int 1)) (.op true .mul (.int 3) (.var 4)))) .nil)) (.bi true .len (.cons (.var 2) .nil)))) (.int 0))) (.cons (.set 6 (.ix (.ix (.var 2) (.op true .mod (.bi true .int (.cons (.ix (.var 0) (.op true .add (.op true .add (.var 1) (.int 2)) (.op true .mul (.int 3) (.var 4)))) .nil)) (.bi true .len (.cons (.var 2) .nil)))) (.int 0))) (.cons (.ex (.me true .append (.var 3) (.cons (.tup (.cons (.var 5) (.cons (.var 6) (.cons (.op true .add (.int 1) (.op true .mod (.bi true .int (.cons (.ix (.var 0) (.op true .add (.op true .add (.var 1) (.int 3)) (.op true .mul (.int 3) (.var 4)))) .nil)) (.int 6))) .nil)))) .nil))) .nil)))
/-- _law_ways -/
abbrev N5 : List Str := ["_law_numbers_here", "_law_at", "_law_kinds_here", "_law_ways_here", "_law_k", "_law_source", "_law_target"]
def b5 : B := (.cons (.set 3 (.lst false .nil)) (.cons (.fo (.nm 4) (.rng1 (.op true .mod (.bi true .int (.cons (.ix (.var 0) (.var 1)) .nil)) (.int 4))) b5_1 [4, 5, 6]) (.cons (.fz 3) (.cons (.ret (.var 3)) .nil))))
def b6_1 : B := (.cons (.set 3 (.call 4 (.cons (.var 0) (.cons (.op true .add (.int 2) (.op true .mul (.int 17) (.var 2))) .nil)) [])) (.cons (.set 4 (.call 5 (.cons (.var 0) (.cons (.op true .add (.int 8) (.op true .mul (.int 17) (.var 2))) (.cons (.var 3) .nil))) [])) (.cons (.ex (.me true .append (.var 1) (.cons (.tup (.cons (.call 3 (.cons (.ix (.var 0) (.int 1)) (.cons (.var 2) .nil)) []) (.cons (.var 3) (.cons (.var 4) .nil)))) .nil))) .nil)))
/-- _law_specs -/
abbrev N6 : List Str := ["_law_numbers_here", "_law_specs_here", "_law_k", "_law_kinds_here", "_law_ways_here"]
def b6 : B := (.cons (.set 1 (.lst false .nil)) (.cons (.fo (.nm 2) (.rng1 (.op true .add (.int 1) (.op true .mod (.bi true .int (.cons (.ix (.var 0) (.int 0)) .nil)) (.int 2)))) b6_1 [2, 3, 4]) (.cons (.fz 1) (.cons (.ret (.var 1)) .nil))))
/-- _law_table -/
abbrev N7 : List Str := ["_law_numbers_here", "_law_at", "_law_size", "_law_k"]
def b7 : B := (.cons (.set 2 (.op true .add (.int 1) (.op true .mod (.bi true .int (.cons (.ix (.var 0) (.var 1)) .nil)) (.int 3)))) (.cons (.ret (.lc true [("_law_k", 3)] (.nm 3) (.rng1 (.var 2)) .yes (.op true .mod (.bi true .int (.cons (.ix (.var 0) (.op true .add (.op true .add (.var 1) (.int 1)) (.var 3))) .nil)) (.int 4)))) .nil))
def b8_1 : B := (.cons (.iff (.cmp .eq (.ix (.ix (.var 0) (.var 2)) (.int 0)) (.var 1)) (.cons (.ret (.var 2)) .nil) .nil) .nil)
/-- _law_index -/
abbrev N8 : List Str := ["_law_kinds_here", "_law_name_here", "_law_k"]
def b8 : B := (.cons (.fo (.nm 2) (.rng1 (.bi true .len (.cons (.var 0) .nil))) b8_1 [2]) (.cons (.ret (.int 0)) .nil))
def b9_4 : B := (.cons (.iff (.and (.cons (.cmp .eq (.ix (.var 11) (.int 0)) (.ix (.var 9) (.int 0))) (.one (.cmp .le (.ix (.var 11) (.int 2)) (.var 7))))) (.cons (.set 10 (.bi true .max (.cons (.var 10) (.cons (.ix (.ix (.var 6) (.op true .sub (.var 7) (.ix (.var 11) (.int 2)))) (.call 8 (.cons (.var 5) (.cons (.ix (.var 11) (.int 1)) .nil)) [])) .nil)))) .nil) .nil) .nil)
def b9_3 : B := (.cons (.set 10 (.int 0)) (.cons (.fo (.nm 11) (.seq (.ix (.var 4) (.int 2))) b9_4 [11]) (.cons (.ex (.me true .append (.var 8) (.cons (.op true .add (.var 10) (.op true .mul (.ix (.var 9) (.int 1)) (.bi true .int (.cons (.cmp .le (.ix (.var 9) (.int 2)) (.var 7)) .nil)))) .nil))) .nil)))
def b9_2 : B := (.cons (.set 8 (.lst false .nil)) (.cons (.fo (.nm 9) (.seq (.var 5)) b9_3 [9, 10, 11]) (.cons (.fz 8) (.cons (.ex (.me true .append (.var 6) (.cons (.var 8) .nil))) (.cons (.setIx (.var 2) (.var 7) (.op true .add (.ix (.var 2) (.var 7)) (.bi true .max (.cons (.var 8) .nil)))) .nil)))))
def b9_1 : B := (.cons (.set 5 (.ix (.var 4) (.int 1))) (.cons (.set 6 (.lst false .nil)) (.cons (.fo (.nm 7) (.rng1 (.op true .add (.var 1) (.int 1))) b9_2 [7, 8, 9, 10, 11]) (.cons (.fz 6) .nil))))
/-- _law_totals -/
abbrev N9 : List Str := ["_law_specs_here", "_law_length", "_law_totals_here", "_law_k", "_law_spec", "_law_kinds_here", "_law_rows", "_law_size", "_law_row_here", "_law_kind", "_law_best", "_law_way"]
def b9 : B := (.cons (.set 2 (.lc false [("_law_k", 3)] (.nm 3) (.rng1 (.op true .add (.var 1) (.int 1))) .yes (.int 0))) (.cons (.fo (.nm 4) (.seq (.var 0)) b9_1 [4, 5, 6, 7, 8, 9, 10, 11]) (.cons (.fz 2) (.cons (.ret (.var 2)) .nil))))
def b10_1 : B := (.cons (.set 4 (.bi true .sum (.cons (.lc true [("_law_slot", 5)] (.nm 5) (.rng2 (.var 3) (.op true .add (.var 3) (.var 1))) .yes (.ix (.var 0) (.op true .mod (.bi true .int (.cons (.var 5) .nil)) (.bi true .len (.cons (.var 0) .nil))))) .nil))) (.cons (.iff (.or (.cons (.cmp .lt (.var 2) (.int 0)) (.one (.cmp .lt (.var 4) (.var 2))))) (.cons (.set 2 (.var 4)) .nil) .nil) .nil))
/-- _law_least_supply -/
abbrev N10 : List Str := ["_law_table_here", "_law_length", "_law_least", "_law_start", "_law_supply", "_law_slot"]
def b10 : B := (.cons (.set 2 (.neg (.int 1))) (.cons (.fo (.nm 3) (.rng1 (.bi true .len (.cons (.var 0) .nil))) b10_1 [3, 4]) (.cons (.ret (.var 2)) .nil)))
/-- own_work -/
abbrev N11 : List Str := ["kind", "size"]
def b11 : B := (.cons (.iff (.cmp .le (.ix (.var 0) (.int 2)) (.var 1)) (.cons (.ret (.ix (.var 0) (.int 1))) .nil) .nil) (.cons (.ret (.int 0)) .nil))
def b12_1 : B := (.cons (.iff (.cmp .eq (.ix (.var 3) (.int 0)) (.var 1)) (.cons (.ret (.var 2)) .nil) .nil) .nil)
/-- Task.kind_number -/
abbrev N12 : List Str := ["self", "kind_name", "number", "kind"]
def b12 : B := (.cons (.fo (.tup (.cons (.nm 2) (.cons (.nm 3) .nil))) (.enm (.fld "Task" "kinds" (.var 0))) b12_1 [2, 3]) (.cons .dead .nil))
/-- Task.ways_from -/
abbrev N13 : List Str := ["self", "kind_name", "way"]
def b13 : B := (.cons (.ex (.mth 0 "Task" "kind_number" (.var 0) (.cons (.var 1) .nil) .nil [])) (.cons (.ret (.lc true [("way", 2)] (.nm 2) (.seq (.fld "Task" "ways" (.var 0))) (.cmp .eq (.ix (.var 2) (.int 0)) (.var 1)) (.tup (.cons (.ix (.var 2) (.int 1)) (.cons (.ix (.var 2) (.int 2)) .nil))))) .nil))
def b14_1 : B := (.cons (.iff (.cmp .le (.var 6) (.var 2)) (.cons (.set 4 (.bi true .max (.cons (.var 4) (.cons (.ix (.ix (.var 3) (.op true .sub (.var 2) (.var 6))) (.mth 0 "Task" "kind_number" (.var 0) (.cons (.var 5) .nil) .nil [])) .nil)))) .nil) .nil) .nil)
/-- best_continuation -/
abbrev N14 : List Str := ["task", "name", "size", "found", "best", "target", "distance"]
def b14 : B := (.cons (.set 4 (.int 0)) (.cons (.fo (.tup (.cons (.nm 5) (.cons (.nm 6) .nil))) (.seq (.mth 1 "Task" "ways_from" (.var 0) (.cons (.var 1) .nil) .nil [])) b14_1 [5, 6]) (.cons (.ret (.var 4)) .nil)))
def b15_2 : B := (.cons (.ex (.me true .append (.var 4) (.cons (.op true .add (.call 11 (.cons (.var 5) (.cons (.var 3) .nil)) []) (.call 12 (.cons (.var 0) (.cons (.ix (.var 5) (.int 0)) (.cons (.var 3) (.cons (.var 2) .nil)))) [(2, [])])) .nil))) .nil)
def b15_1 : B := (.cons (.set 4 (.lst false .nil)) (.cons (.fo (.nm 5) (.seq (.fld "Task" "kinds" (.var 0))) b15_2 [5]) (.cons (.fz 4) (.cons (.ex (.me true .append (.var 2) (.cons (.var 4) .nil))) .nil))))
/-- rows -/
abbrev N15 : List Str := ["task", "length", "found", "size", "row", "kind"]
def b15 : B := (.cons (.set 2 (.lst false .nil)) (.cons (.fo (.nm 3) (.rng1 (.op true .add (.var 1) (.int 1))) b15_1 [3, 4, 5]) (.cons (.fz 2) (.cons (.ret (.var 2)) .nil))))
/-- demands -/
abbrev N16 : List Str := ["task", "length", "row"]
def b16 : B := (.cons (.ret (.lc true [("row", 2)] (.nm 2) (.seq (.call 13 (.cons (.var 0) (.cons (.var 1) .nil)) [])) .yes (.bi true .max (.cons (.var 2) .nil)))) .nil)
/-- supply_of_first -/
abbrev N17 : List Str := ["table", "slots", "rounds", "rest"]
def b17 : B := (.cons (.asg (.tup (.cons (.nm 2) (.cons (.nm 3) .nil))) (.bi true .divmod (.cons (.var 1) (.cons (.bi true .len (.cons (.var 0) .nil)) .nil)))) (.cons (.ret (.op true .add (.op true .mul (.var 2) (.bi true .sum (.cons (.var 0) .nil))) (.bi true .sum (.cons (.sl true (.var 0) .no (.so (.var 3))) .nil)))) .nil))
/-- supply -/
abbrev N18 : List Str := ["table", "start", "end"]
def b18 : B := (.cons (.iff (.cmp .le (.var 2) (.var 1)) (.cons (.ret (.int 0)) .nil) .nil) (.cons (.ret (.op true .sub (.call 15 (.cons (.var 0) (.cons (.var 2) .nil)) []) (.call 15 (.cons (.var 0) (.cons (.var 1) .nil)) []))) .nil))
def b19_1 : B := (.cons (.set 2 (.bi true .min (.cons (.var 2) (.cons (.call 16 (.cons (.var 0) (.cons (.var 3) (.cons (.op true .add (.var 3) (.var 1)) .nil))) []) .nil)))) .nil)
/-- least_supply -/
abbrev N19 : List Str := ["table", "length", "least", "start"]
def b19 : B := (.cons (.set 2 (.call 16 (.cons (.var 0) (.cons (.int 0) (.cons (.var 1) .nil))) [])) (.cons (.fo (.nm 3) (.rng2 (.int 1) (.bi true .len (.cons (.var 0) .nil))) b19_1 [3]) (.cons (.ret (.var 2)) .nil)))
/-- column_widths -/
abbrev N20 : List Str := ["rows", "row", "at"]
def b20 : B := (.cons (.ret (.lc true [("at", 2)] (.nm 2) (.rng1 (.bi true .len (.cons (.ix (.var 0) (.int 0)) .nil))) .yes (.bi true .max (.cons (.lc true [("row", 1)] (.nm 1) (.seq (.var 0)) .yes (.bi true .len (.cons (.ix (.var 1) (.var 2)) .nil))) .nil)))) .nil)
def b21_2 : B := (.cons (.ex (.me true .append (.var 4) (.cons (.me true .rjust (.ix (.var 3) (.var 5)) (.cons (.ix (.var 1) (.var 5)) .nil)) .nil))) .nil)
def b21_1 : B := (.cons (.set 4 (.lst false (.cons (.me true .ljust (.ix (.var 3) (.int 0)) (.cons (.ix (.var 1) (.int 0)) .nil)) .nil))) (.cons (.fo (.nm 5) (.rng2 (.int 1) (.bi true .len (.cons (.var 3) .nil))) b21_2 [5]) (.cons (.fz 4) (.cons (.ex (.me true .append (.var 2) (.cons (.me0 true .rstrip (.me true .join (.str "  ") (.cons (.var 4) .nil))) .nil))) .nil))))
/-- table_lines -/
abbrev N21 : List Str := ["rows", "widths", "lines", "row", "cells", "at"]
def b21 : B := (.cons (.set 1 (.call 18 (.cons (.var 0) .nil) [])) (.cons (.set 2 (.lst false .nil)) (.cons (.fo (.nm 3) (.seq (.var 0)) b21_1 [3, 4, 5]) (.cons (.fz 2) (.cons (.ret (.var 2)) .nil)))))
def b22_1 : B := (.cons (.set 6 (.lc true [("column", 7)] (.nm 7) (.seq (.var 4)) .yes (.ix (.var 7) (.var 5)))) (.cons (.set 8 (.lc true [("amount", 9)] (.nm 9) (.seq (.var 6)) .yes (.bi true .str (.cons (.var 9) .nil)))) (.cons (.ex (.me true .append (.var 2) (.cons (.op true .add (.op true .add (.lst true (.cons (.bi true .str (.cons (.var 5) .nil)) .nil)) (.var 8)) (.lst true (.cons (.bi true .str (.cons (.bi true .sum (.cons (.var 6) .nil)) .nil)) (.cons (.bi true .str (.cons (.call 17 (.cons (.fld "System" "table" (.var 0)) (.cons (.var 5) .nil)) []) .nil)) .nil)))) .nil))) .nil)))
/-- demand_table -/
abbrev N22 : List Str := ["system", "length", "rows", "task", "columns", "size", "amounts", "column", "cells", "amount"]
def b22 : B := (.cons (.set 2 (.lst false (.cons (.op true .add (.op true .add (.lst true (.cons (.str "length") .nil)) (.lc true [("task", 3)] (.nm 3) (.seq (.fld "System" "tasks" (.var 0))) .yes (.fld "Task" "name" (.var 3)))) (.lst true (.cons (.str "demand") (.cons (.str "supply") .nil)))) .nil))) (.cons (.set 4 (.lc true [("task", 3)] (.nm 3) (.seq (.fld "System" "tasks" (.var 0))) .yes (.call 14 (.cons (.var 3) (.cons (.var 1) .nil)) []))) (.cons (.fo (.nm 5) (.rng1 (.op true .add (.var 1) (.int 1))) b22_1 [5, 6, 8]) (.cons (.fz 2) (.cons (.ret (.call 19 (.cons (.var 2) .nil) [])) .nil)))))
/-- is_name -/
abbrev N23 : List Str := ["text", "char"]
def b23 : B := (.cons (.iff (.not (.chn .le .le (.int 1) (.bi true .len (.cons (.var 0) .nil)) (.glo 0))) (.cons (.ret (.bl false)) .nil) .nil) (.cons (.ret (.bi true .all (.cons (.lc true [("char", 1)] (.nm 1) (.chars (.var 0)) .yes (.cmp .inn (.var 1) (.glo 1))) .nil))) .nil))
def b24_1 : B := (.cons (.iff (.or (.cons (.not (.tru (.call 20 (.cons (.var 2) .nil) []))) (.one (.cmp .inn (.var 2) (.var 1))))) (.cons (.ret (.bl false)) .nil) .nil) (.cons (.iff (.or (.cons (.not (.chn .le .le (.int 1) (.var 3) (.glo 3))) (.one (.not (.chn .le .le (.int 1) (.var 4) (.glo 4)))))) (.cons (.ret (.bl false)) .nil) .nil) (.cons (.ex (.me true .append (.var 1) (.cons (.var 2) .nil))) .nil)))
/-- are_kinds -/
abbrev N24 : List Str := ["kinds", "seen", "name", "cost", "deadline"]
def b24 : B := (.cons (.iff (.not (.chn .le .le (.int 1) (.bi true .len (.cons (.var 0) .nil)) (.glo 2))) (.cons (.ret (.bl false)) .nil) .nil) (.cons (.set 1 (.lst false .nil)) (.cons (.fo (.tup (.cons (.nm 2) (.cons (.nm 3) (.cons (.nm 4) .nil)))) (.seq (.var 0)) b24_1 [2, 3, 4]) (.cons (.fz 1) (.cons (.ret (.bl true)) .nil)))))
def b25_1 : B := (.cons (.iff (.or (.cons (.cmp .notIn (.var 2) (.var 1)) (.one (.cmp .notIn (.var 3) (.var 1))))) (.cons (.ret (.bl false)) .nil) .nil) (.cons (.iff (.not (.chn .le .le (.int 1) (.var 4) (.glo 6))) (.cons (.ret (.bl false)) .nil) .nil) .nil))
/-- are_ways -/
abbrev N25 : List Str := ["ways", "kind_names", "source", "target", "distance"]
def b25 : B := (.cons (.iff (.cmp .gt (.bi true .len (.cons (.var 0) .nil)) (.glo 5)) (.cons (.ret (.bl false)) .nil) .nil) (.cons (.fo (.tup (.cons (.nm 2) (.cons (.nm 3) (.cons (.nm 4) .nil)))) (.seq (.var 0)) b25_1 [2, 3, 4]) (.cons (.ret (.bl true)) .nil)))
/-- Task.__init__ -/
abbrev N26 : List Str := ["self", "name", "kinds", "ways", "kind", "way"]
def b26 : B := (.cons (.iff (.or (.cons (.not (.tru (.call 20 (.cons (.var 1) .nil) []))) (.one (.not (.tru (.call 21 (.cons (.var 2) .nil) [])))))) (.cons .dead .nil) .nil) (.cons (.iff (.not (.tru (.call 22 (.cons (.var 3) (.cons (.lc true [("kind", 4)] (.nm 4) (.seq (.var 2)) .yes (.ix (.var 4) (.int 0))) .nil)) []))) (.cons .dead .nil) .nil) (.cons (.setF "Task" "name" (.var 0) (.var 1)) (.cons (.setF "Task" "kinds" (.var 0) (.bi true .tuple (.cons (.lc true [("kind", 4)] (.nm 4) (.seq (.var 2)) .yes (.tup (.cons (.ix (.var 4) (.int 0)) (.cons (.ix (.var 4) (.int 1)) (.cons (.ix (.var 4) (.int 2)) .nil))))) .nil))) (.cons (.setF "Task" "ways" (.var 0) (.bi true .tuple (.cons (.lc true [("way", 5)] (.nm 5) (.seq (.var 3)) .yes (.tup (.cons (.ix (.var 5) (.int 0)) (.cons (.ix (.var 5) (.int 1)) (.cons (.ix (.var 5) (.int 2)) .nil))))) .nil))) .nil)))))
/-- is_table -/
abbrev N27 : List Str := ["table", "capacity"]
def b27 : B := (.cons (.iff (.not (.chn .le .le (.int 1) (.bi true .len (.cons (.var 0) .nil)) (.glo 7))) (.cons (.ret (.bl false)) .nil) .nil) (.cons (.ret (.bi true .all (.cons (.lc true [("capacity", 1)] (.nm 1) (.seq (.var 0)) .yes (.chn .le .le (.int 0) (.var 1) (.glo 8))) .nil))) .nil))
def b28_1 : B := (.cons (.iff (.cmp .inn (.fld "Task" "name" (.var 4)) (.var 3)) (.cons .dead .nil) .nil) (.cons (.ex (.me true .append (.var 3) (.cons (.fld "Task" "name" (.var 4)) .nil))) .nil))
/-- System.__init__ -/
abbrev N28 : List Str := ["self", "tasks", "table", "names", "task"]
def b28 : B := (.cons (.iff (.not (.tru (.call 23 (.cons (.var 2) .nil) []))) (.cons .dead .nil) .nil) (.cons (.set 3 (.lst false .nil)) (.cons (.fo (.nm 4) (.seq (.var 1)) b28_1 [4]) (.cons (.fz 3) (.cons (.iff (.cmp .gt (.bi true .len (.cons (.var 3) .nil)) (.glo 9)) (.cons .dead .nil) .nil) (.cons (.setF "System" "tasks" (.var 0) (.bi true .tuple (.cons (.var 1) .nil))) (.cons (.setF "System" "table" (.var 0) (.bi true .tuple (.cons (.var 2) .nil))) .nil)))))))
/-- _law_system -/
abbrev N29 : List Str := ["_law_specs_here", "_law_table_here", "_law_tasks", "_law_spec"]
def b29 : B := (.cons (.set 2 (.lc true [("_law_spec", 3)] (.nm 3) (.seq (.var 0)) .yes (.mk 0 "Task" (.cons (.ix (.var 3) (.int 0)) .nil) (.cons (.bi true .list (.cons (.ix (.var 3) (.int 1)) .nil)) (.cons (.bi true .list (.cons (.ix (.var 3) (.int 2)) .nil)) .nil))))) (.cons (.ret (.mk 1 "System" (.cons (.var 2) .nil) (.cons (.bi true .list (.cons (.var 1) .nil)) .nil))) .nil))
def b30_2 : B := (.cons (.set 5 (.op true .add (.op true .add (.op true .add (.var 5) (.str "  ")) (.op true .mul (.str " ") (.op true .sub (.ix (.var 1) (.var 3)) (.bi true .len (.cons (.ix (.var 2) (.var 3)) .nil))))) (.ix (.var 2) (.var 3)))) .nil)
def b30_1 : B := (.cons (.set 5 (.op true .add (.ix (.var 2) (.int 0)) (.op true .mul (.str " ") (.op true .sub (.ix (.var 1) (.int 0)) (.bi true .len (.cons (.ix (.var 2) (.int 0)) .nil)))))) (.cons (.fo (.nm 3) (.rng2 (.int 1) (.bi true .len (.cons (.var 2) .nil))) b30_2 [3]) (.cons (.ex (.me true .append (.var 4) (.cons (.me0 true .rstrip (.var 5)) .nil))) .nil)))
/-- _law_lines -/
abbrev N30 : List Str := ["_law_rows", "_law_widths", "_law_row_here", "_law_at", "_law_lines_here", "_law_line"]
def b30 : B := (.cons (.set 1 (.lc true [("_law_at", 3)] (.nm 3) (.rng1 (.bi true .len (.cons (.ix (.var 0) (.int 0)) .nil))) .yes (.bi true .max (.cons (.lc true [("_law_row_here", 2)] (.nm 2) (.seq (.var 0)) .yes (.bi true .len (.cons (.ix (.var 2) (.var 3)) .nil))) .nil)))) (.cons (.set 4 (.lst false .nil)) (.cons (.fo (.nm 2) (.seq (.var 0)) b30_1 [2, 3, 5]) (.cons (.fz 4) (.cons (.ret (.var 4)) .nil)))))
def b31_1 : B := (.cons (.set 11 (.lc true [("_law_column", 12)] (.nm 12) (.seq (.var 7)) .yes (.ix (.var 12) (.var 10)))) (.cons (.set 13 (.op true .add (.lst true (.cons (.bi true .str (.cons (.var 10) .nil)) .nil)) (.lc true [("_law_amount", 14)] (.nm 14) (.seq (.var 11)) .yes (.bi true .str (.cons (.var 14) .nil))))) (.cons (.ex (.me true .append (.var 9) (.cons (.op true .add (.var 13) (.lst true (.cons (.bi true .str (.cons (.bi true .sum (.cons (.var 11) .nil)) .nil)) (.cons (.bi true .str (.cons (.call 10 (.cons (.var 4) (.cons (.var 10) .nil)) []) .nil)) .nil)))) .nil))) .nil)))
/-- law -/
abbrev N31 : List Str := ["_law_script", "_law_numbers_here", "_law_factor", "_law_specs_here", "_law_table_here", "_law_capacity", "_law_length", "_law_columns", "_law_spec", "_law_rows", "_law_size", "_law_amounts", "_law_column", "_law_row_here", "_law_amount", "_law_actual"]
def b31 : B := (.cons (.set 1 (.call 1 (.cons (.var 0) (.cons (.int 60) .nil)) [])) (.cons (.set 2 (.ix (.lst true (.cons (.int 1) (.cons (.int 1) (.cons (.int 17) (.cons (.int 240) .nil))))) (.op true .mod (.bi true .int (.cons (.ix (.var 1) (.int 55)) .nil)) (.int 4)))) (.cons (.set 3 (.call 2 (.cons (.call 6 (.cons (.var 1) .nil) []) (.cons (.var 2) .nil)) [])) (.cons (.iff (.cmp .eq (.op true .mod (.bi true .int (.cons (.ix (.var 1) (.int 53)) .nil)) (.int 9)) (.int 4)) (.cons (.set 3 (.lst true .nil)) .nil) .nil) (.cons (.set 4 (.lc true [("_law_capacity", 5)] (.nm 5) (.seq (.call 7 (.cons (.var 1) (.cons (.int 44) .nil)) [])) .yes (.op true .mul (.var 5) (.var 2)))) (.cons (.set 6 (.op true .mod (.bi true .int (.cons (.ix (.var 1) (.int 50)) .nil)) (.int 25))) (.cons (.set 7 (.lc true [("_law_spec", 8)] (.nm 8) (.seq (.var 3)) .yes (.call 9 (.cons (.lst true (.cons (.var 8) .nil)) (.cons (.var 6) .nil)) []))) (.cons (.set 9 (.lst false (.cons (.op true .add (.op true .add (.lst true (.cons (.str "length") .nil)) (.lc true [("_law_spec", 8)] (.nm 8) (.seq (.var 3)) .yes (.ix (.var 8) (.int 0)))) (.lst true (.cons (.str "demand") (.cons (.str "supply") .nil)))) .nil))) (.cons (.fo (.nm 10) (.rng1 (.op true .add (.var 6) (.int 1))) b31_1 [10, 11, 13]) (.cons (.fz 9) (.cons (.set 15 (.kc 0 (.cons (.call 24 (.cons (.var 3) (.cons (.var 4) .nil)) []) .nil) (.cons (.var 6) .nil) [])) (.cons (.ret (.and (.cons (.isi (.var 15) "list") (.one (.cmp .eq (.var 15) (.call 25 (.cons (.var 9) .nil) [])))))) .nil))))))))))))
def cn : List D := [.int (12), .str "abcdefghijklmnopqrstuvwxyz0123456789", .int (8), .int (1000), .int (1000), .int (16), .int (1000), .int (1001), .int (1000000), .int (6)]
def supL : List (Str × List Str) := []
def exnL : List (Str × List Str) := []
theorem k0 : cn[0]? = some (.int (12)) := rfl
theorem k1 : cn[1]? = some (.str "abcdefghijklmnopqrstuvwxyz0123456789") := rfl
theorem k2 : cn[2]? = some (.int (8)) := rfl
theorem k3 : cn[3]? = some (.int (1000)) := rfl
theorem k4 : cn[4]? = some (.int (1000)) := rfl
theorem k5 : cn[5]? = some (.int (16)) := rfl
theorem k6 : cn[6]? = some (.int (1000)) := rfl
theorem k7 : cn[7]? = some (.int (1001)) := rfl
theorem k8 : cn[8]? = some (.int (1000000)) := rfl
theorem k9 : cn[9]? = some (.int (6)) := rfl
def t0 : Tb := ⟨[], cn, [], [], [], [], supL, exnL, none⟩
def F0 : Fn := run t0 2 6 b0
def t1 : Tb := ⟨[F0], cn, [], [], [], [], supL, exnL, none⟩
def F1 : Fn := run t1 2 7 b1
def t2 : Tb := ⟨[F0, F1], cn, [], [], [], [], supL, exnL, none⟩
def F2 : Fn := run t2 2 6 b2
def t3 : Tb := ⟨[F0, F1, F2], cn, [], [], [], [], supL, exnL, none⟩
def F3 : Fn := run t3 2 3 b3
def t4 : Tb := ⟨[F0, F1, F2, F3], cn, [], [], [], [], supL, exnL, none⟩
def F4 : Fn := run t4 2 5 b4
def t5 : Tb := ⟨[F0, F1, F2, F3, F4], cn, [], [], [], [], supL, exnL, none⟩
def F5 : Fn := run t5 3 7 b5
def t6 : Tb := ⟨[F0, F1, F2, F3, F4, F5], cn, [], [], [], [], supL, exnL, none⟩
def F6 : Fn := run t6 1 5 b6
def t7 : Tb := ⟨[F0, F1, F2, F3, F4, F5, F6], cn, [], [], [], [], supL, exnL, none⟩
def F7 : Fn := run t7 2 4 b7
def t8 : Tb := ⟨[F0, F1, F2, F3, F4, F5, F6, F7], cn, [], [], [], [], supL, exnL, none⟩
def F8 : Fn := run t8 2 3 b8
def t9 : Tb := ⟨[F0, F1, F2, F3, F4, F5, F6, F7, F8], cn, [], [], [], [], supL, exnL, none⟩
def F9 : Fn := run t9 2 12 b9
def t10 : Tb := ⟨[F0, F1, F2, F3, F4, F5, F6, F7, F8, F9], cn, [], [], [], [], supL, exnL, none⟩
def F10 : Fn := run t10 2 6 b10
def t11 : Tb := ⟨[F0, F1, F2, F3, F4, F5, F6, F7, F8, F9, F10], cn, [], [], [], [], supL, exnL, none⟩
def F11 : Fn := run t11 2 2 b11
def t12 : Tb := ⟨[F0, F1, F2, F3, F4, F5, F6, F7, F8, F9, F10, F11], cn, [], [], [], [], supL, exnL, none⟩
def F12 : Fn := run t12 2 4 b12
def t13 : Tb := ⟨[F0, F1, F2, F3, F4, F5, F6, F7, F8, F9, F10, F11], cn, [], [(F12, [.pos 0, .pos 1])], [], [], supL, exnL, none⟩
def F13 : Fn := run t13 2 3 b13
def t14 : Tb := ⟨[F0, F1, F2, F3, F4, F5, F6, F7, F8, F9, F10, F11], cn, [], [(F12, [.pos 0, .pos 1]), (F13, [.pos 0, .pos 1])], [], [], supL, exnL, none⟩
def F14 : Fn := run t14 4 7 b14
def t15 : Tb := ⟨[F0, F1, F2, F3, F4, F5, F6, F7, F8, F9, F10, F11, F14], cn, [], [(F12, [.pos 0, .pos 1]), (F13, [.pos 0, .pos 1])], [], [], supL, exnL, none⟩
def F15 : Fn := run t15 2 6 b15
def t16 : Tb := ⟨[F0, F1, F2, F3, F4, F5, F6, F7, F8, F9, F10, F11, F14, F15], cn, [], [(F12, [.pos 0, .pos 1]), (F13, [.pos 0, .pos 1])], [], [], supL, exnL, none⟩
def F16 : Fn := run t16 2 3 b16
def t17 : Tb := ⟨[F0, F1, F2, F3, F4, F5, F6, F7, F8, F9, F10, F11, F14, F15, F16], cn, [], [(F12, [.pos 0, .pos 1]), (F13, [.pos 0, .pos 1])], [], [], supL, exnL, none⟩
def F17 : Fn := run t17 2 4 b17
def t18 : Tb := ⟨[F0, F1, F2, F3, F4, F5, F6, F7, F8, F9, F10, F11, F14, F15, F16, F17], cn, [], [(F12, [.pos 0, .pos 1]), (F13, [.pos 0, .pos 1])], [], [], supL, exnL, none⟩
def F18 : Fn := run t18 3 3 b18
def t19 : Tb := ⟨[F0, F1, F2, F3, F4, F5, F6, F7, F8, F9, F10, F11, F14, F15, F16, F17, F18], cn, [], [(F12, [.pos 0, .pos 1]), (F13, [.pos 0, .pos 1])], [], [], supL, exnL, none⟩
def F19 : Fn := run t19 2 4 b19
def t20 : Tb := ⟨[F0, F1, F2, F3, F4, F5, F6, F7, F8, F9, F10, F11, F14, F15, F16, F17, F18, F19], cn, [], [(F12, [.pos 0, .pos 1]), (F13, [.pos 0, .pos 1])], [], [], supL, exnL, none⟩
def F20 : Fn := run t20 1 3 b20
def t21 : Tb := ⟨[F0, F1, F2, F3, F4, F5, F6, F7, F8, F9, F10, F11, F14, F15, F16, F17, F18, F19, F20], cn, [], [(F12, [.pos 0, .pos 1]), (F13, [.pos 0, .pos 1])], [], [], supL, exnL, none⟩
def F21 : Fn := run t21 1 6 b21
def t22 : Tb := ⟨[F0, F1, F2, F3, F4, F5, F6, F7, F8, F9, F10, F11, F14, F15, F16, F17, F18, F19, F20, F21], cn, [], [(F12, [.pos 0, .pos 1]), (F13, [.pos 0, .pos 1])], [], [], supL, exnL, none⟩
def F22 : Fn := run t22 2 10 b22
def t23 : Tb := ⟨[F0, F1, F2, F3, F4, F5, F6, F7, F8, F9, F10, F11, F14, F15, F16, F17, F18, F19, F20, F21], cn, [(F22, [.pos 0, .kw 0])], [(F12, [.pos 0, .pos 1]), (F13, [.pos 0, .pos 1])], [], [], supL, exnL, none⟩
def F23 : Fn := run t23 1 2 b23
def t24 : Tb := ⟨[F0, F1, F2, F3, F4, F5, F6, F7, F8, F9, F10, F11, F14, F15, F16, F17, F18, F19, F20, F21, F23], cn, [(F22, [.pos 0, .kw 0])], [(F12, [.pos 0, .pos 1]), (F13, [.pos 0, .pos 1])], [], [], supL, exnL, none⟩
def F24 : Fn := run t24 1 5 b24
def t25 : Tb := ⟨[F0, F1, F2, F3, F4, F5, F6, F7, F8, F9, F10, F11, F14, F15, F16, F17, F18, F19, F20, F21, F23, F24], cn, [(F22, [.pos 0, .kw 0])], [(F12, [.pos 0, .pos 1]), (F13, [.pos 0, .pos 1])], [], [], supL, exnL, none⟩
def F25 : Fn := run t25 2 5 b25
def t26 : Tb := ⟨[F0, F1, F2, F3, F4, F5, F6, F7, F8, F9, F10, F11, F14, F15, F16, F17, F18, F19, F20, F21, F23, F24, F25], cn, [(F22, [.pos 0, .kw 0])], [(F12, [.pos 0, .pos 1]), (F13, [.pos 0, .pos 1])], [], [], supL, exnL, none⟩
def F26 : Fn := run t26 4 6 b26
def t27 : Tb := ⟨[F0, F1, F2, F3, F4, F5, F6, F7, F8, F9, F10, F11, F14, F15, F16, F17, F18, F19, F20, F21, F23, F24, F25], cn, [(F22, [.pos 0, .kw 0])], [(F12, [.pos 0, .pos 1]), (F13, [.pos 0, .pos 1])], [(F26, [.pos 0, .pos 1, .kw 0, .kw 1])], [], supL, exnL, none⟩
def F27 : Fn := run t27 1 2 b27
def t28 : Tb := ⟨[F0, F1, F2, F3, F4, F5, F6, F7, F8, F9, F10, F11, F14, F15, F16, F17, F18, F19, F20, F21, F23, F24, F25, F27], cn, [(F22, [.pos 0, .kw 0])], [(F12, [.pos 0, .pos 1]), (F13, [.pos 0, .pos 1])], [(F26, [.pos 0, .pos 1, .kw 0, .kw 1])], [], supL, exnL, none⟩
def F28 : Fn := run t28 3 5 b28
def t29 : Tb := ⟨[F0, F1, F2, F3, F4, F5, F6, F7, F8, F9, F10, F11, F14, F15, F16, F17, F18, F19, F20, F21, F23, F24, F25, F27], cn, [(F22, [.pos 0, .kw 0])], [(F12, [.pos 0, .pos 1]), (F13, [.pos 0, .pos 1])], [(F26, [.pos 0, .pos 1, .kw 0, .kw 1]), (F28, [.pos 0, .pos 1, .kw 0])], [], supL, exnL, none⟩
def F29 : Fn := run t29 2 4 b29
def t30 : Tb := ⟨[F0, F1, F2, F3, F4, F5, F6, F7, F8, F9, F10, F11, F14, F15, F16, F17, F18, F19, F20, F21, F23, F24, F25, F27, F29], cn, [(F22, [.pos 0, .kw 0])], [(F12, [.pos 0, .pos 1]), (F13, [.pos 0, .pos 1])], [(F26, [.pos 0, .pos 1, .kw 0, .kw 1]), (F28, [.pos 0, .pos 1, .kw 0])], [], supL, exnL, none⟩
def F30 : Fn := run t30 1 6 b30
def t31 : Tb := ⟨[F0, F1, F2, F3, F4, F5, F6, F7, F8, F9, F10, F11, F14, F15, F16, F17, F18, F19, F20, F21, F23, F24, F25, F27, F29, F30], cn, [(F22, [.pos 0, .kw 0])], [(F12, [.pos 0, .pos 1]), (F13, [.pos 0, .pos 1])], [(F26, [.pos 0, .pos 1, .kw 0, .kw 1]), (F28, [.pos 0, .pos 1, .kw 0])], [], supL, exnL, none⟩
def F31 : Fn := run t31 1 16 b31
def t32 : Tb := ⟨[F0, F1, F2, F3, F4, F5, F6, F7, F8, F9, F10, F11, F14, F15, F16, F17, F18, F19, F20, F21, F23, F24, F25, F27, F29, F30, F31], cn, [(F22, [.pos 0, .kw 0])], [(F12, [.pos 0, .pos 1]), (F13, [.pos 0, .pos 1])], [(F26, [.pos 0, .pos 1, .kw 0, .kw 1]), (F28, [.pos 0, .pos 1, .kw 0])], [], supL, exnL, none⟩
theorem tc0 : t0.cn = cn := rfl
theorem tc1 : t1.cn = cn := rfl
theorem tf1_0 : t1.fn[0]? = some F0 := rfl
theorem tc2 : t2.cn = cn := rfl
theorem tc3 : t3.cn = cn := rfl
theorem tc4 : t4.cn = cn := rfl
theorem tf4_3 : t4.fn[3]? = some F3 := rfl
theorem tc5 : t5.cn = cn := rfl
theorem tc6 : t6.cn = cn := rfl
theorem tf6_3 : t6.fn[3]? = some F3 := rfl
theorem tf6_4 : t6.fn[4]? = some F4 := rfl
theorem tf6_5 : t6.fn[5]? = some F5 := rfl
theorem tc7 : t7.cn = cn := rfl
theorem tc8 : t8.cn = cn := rfl
theorem tc9 : t9.cn = cn := rfl
theorem tf9_8 : t9.fn[8]? = some F8 := rfl
theorem tc10 : t10.cn = cn := rfl
theorem tc11 : t11.cn = cn := rfl
theorem tc12 : t12.cn = cn := rfl
theorem tc13 : t13.cn = cn := rfl
theorem tmt13_0 : t13.mt[0]? = some (F12, [.pos 0, .pos 1]) := rfl
theorem tc14 : t14.cn = cn := rfl
theorem tmt14_0 : t14.mt[0]? = some (F12, [.pos 0, .pos 1]) := rfl
theorem tmt14_1 : t14.mt[1]? = some (F13, [.pos 0, .pos 1]) := rfl
theorem tc15 : t15.cn = cn := rfl
theorem tf15_11 : t15.fn[11]? = some F11 := rfl
theorem tf15_12 : t15.fn[12]? = some F14 := rfl
theorem tc16 : t16.cn = cn := rfl
theorem tf16_13 : t16.fn[13]? = some F15 := rfl
theorem tc17 : t17.cn = cn := rfl
theorem tc18 : t18.cn = cn := rfl
theorem tf18_15 : t18.fn[15]? = some F17 := rfl
theorem tc19 : t19.cn = cn := rfl
theorem tf19_16 : t19.fn[16]? = some F18 := rfl
theorem tc20 : t20.cn = cn := rfl
theorem tc21 : t21.cn = cn := rfl
theorem tf21_18 : t21.fn[18]? = some F20 := rfl
theorem tc22 : t22.cn = cn := rfl
theorem tf22_14 : t22.fn[14]? = some F16 := rfl
theorem tf22_17 : t22.fn[17]? = some F19 := rfl
theorem tf22_19 : t22.fn[19]? = some F21 := rfl
theorem tc23 : t23.cn = cn := rfl
theorem tc24 : t24.cn = cn := rfl
theorem tf24_20 : t24.fn[20]? = some F23 := rfl
theorem tc25 : t25.cn = cn := rfl
theorem tc26 : t26.cn = cn := rfl
theorem tf26_20 : t26.fn[20]? = some F23 := rfl
theorem tf26_21 : t26.fn[21]? = some F24 := rfl
theorem tf26_22 : t26.fn[22]? = some F25 := rfl
theorem tc27 : t27.cn = cn := rfl
theorem tc28 : t28.cn = cn := rfl
theorem tf28_23 : t28.fn[23]? = some F27 := rfl
theorem tc29 : t29.cn = cn := rfl
theorem tnw29_0 : t29.nw[0]? = some (F26, [.pos 0, .pos 1, .kw 0, .kw 1]) := rfl
theorem tnw29_1 : t29.nw[1]? = some (F28, [.pos 0, .pos 1, .kw 0]) := rfl
theorem tc30 : t30.cn = cn := rfl
theorem tc31 : t31.cn = cn := rfl
theorem tf31_1 : t31.fn[1]? = some F1 := rfl
theorem tf31_2 : t31.fn[2]? = some F2 := rfl
theorem tf31_6 : t31.fn[6]? = some F6 := rfl
theorem tf31_7 : t31.fn[7]? = some F7 := rfl
theorem tf31_9 : t31.fn[9]? = some F9 := rfl
theorem tf31_10 : t31.fn[10]? = some F10 := rfl
theorem tf31_24 : t31.fn[24]? = some F29 := rfl
theorem tf31_25 : t31.fn[25]? = some F30 := rfl
theorem tkc31_0 : t31.kc[0]? = some (F22, [.pos 0, .kw 0]) := rfl
local macro_rules | `(tactic| walk_at "ev") => `(tactic| simp (config := {failIfUnchanged := false}) only [mk2c, em1c, me1c, q60c, bi1b, mk2b, em1b, me1b, bu50b, q60b, in_msb, in_ms, in_ds, ni_ms, ni_ds, in_di, ni_di, tu1, li1, li2, it1, is1, is2, tup0, tup1, tup2, q51, q51a, q52, q52a, q52b, q52c, q52d, q53, q53a, q53b, q53c, q54, q54a, q54b, q54c, q54d, q55, q55a, q55b, q55c, q56, q56a, q57, q57a, q58, q58a, q58b, q59, q59a, q59b, q60, q60a, q61, q38b, q38c, ar0, ar1, ar2, ar3, ar4, ar5, gt0, gt1, da0, em4, em5, em6, q1, q2, q3, q4, q5, q6, q7, q7a, q7b, q8, q8a, q9, q9a, q9b, q10, q10a, q10b, q10c, q10d, q11, q12, q11a, q11b, q11c, q11d, q12a, q12b, q12c, q12d, q13, q13a, q14, q14a, q14b, q15, q15a, q15b, q16, q16a, q16b, q17, q17a, q17b, q18, q18a, q18b, q18c, q19, q19a, q19b, q20, q20a, q21, q21a, q22, q22a, q22b, q23, q23a, q23b, q24, q25, q25a, q25b, q25c, q26, q26a, q26b, q27, q28, q28a, q29, q29a, q30, q30a, q30b, q31, q31a, q31b, q31c, q31d, q32, q33, q34, q34a, q32a, q32b, q32c, q32d, q33a, q33b, q33c, q33d, q35, q35a, q35b, q35c, q36, q36a, q37, q37a, q37b, q38, q38a, q39, q39a, q40, q40a, q40b, q40c, q40d, q41, q41a, q42, q42a, q42b, q43, q43a, q43b, q43c, q43d, q44, q44a, q44b, q44c, q45, q45a, q46, q46a, q46b, q47, q47a, q47b, q48, q48a, q49, q50, q50a, q50b, q50c, sz_le, sz_lt, em2, em3, wl8, eg1, eg2, eg3, eg5, eg6, bi8, bi11, bi12, q44d, eb1, eb2, eb3, es1, es2, es3, sb1, sb2, sb3, sb4, sb5, sb6, ge0, ge1, fz0, fz1, sn0, sn1, ci1, ci2, ci3, ci4, ci5, ci6, cs5, cs6, cb5, cb6, oo1, oo2, oo3, bi1, bi2, bu2, bu3, bu4, bu6, bu7, bu8, bu9, tr1, ok1, List.length_cons, List.length_nil, List.length_append, List.length_map, List.map_cons, List.map_nil, List.cons_append, List.nil_append, List.replicate, if_true, Nat.reduceAdd, Nat.reduceSub, Nat.reduceLT, Nat.reduceLeDiff, kill, Bool.not_true, Bool.not_false, decide_true, decide_false, Bool.and_true, Bool.true_and, Bool.and_false, Bool.false_and, and_true, true_and, bu1, bi3, bi4, bi5, bi6, bi7, Int.reduceLT, Int.reduceLE, Nat.reducePow, nx2, mk1, mk2, sl1, sl2, sl3, sl4, sl5, Int.reduceNeg,  em1, me1, fzm0, bu50, da1, Option.map_some, Int.cast_ofNat_Int, Int.reduceAdd, Int.reduceEq, Int.reduceGT, ip1, wl1, wl20, wl21, wl22, wl23, wl3, wl4, wl5, kd1, Int.reduceToNat, List.drop_succ_cons, List.drop_zero, Option.isSome_some, Option.isSome_none, List.isEmpty_cons, List.isEmpty_nil, Bool.false_eq_true, if_false, ch1, ch2, *, k0, k1, k2, k3, k4, k5, k6, k7, k8, k9, tc0, tc1, tf1_0, tc2, tc3, tc4, tf4_3, tc5, tc6, tf6_3, tf6_4, tf6_5, tc7, tc8, tc9, tf9_8, tc10, tc11, tc12, tc13, tmt13_0, tc14, tmt14_0, tmt14_1, tc15, tf15_11, tf15_12, tc16, tf16_13, tc17, tc18, tf18_15, tc19, tf19_16, tc20, tc21, tf21_18, tc22, tf22_14, tf22_17, tf22_19, tc23, tc24, tf24_20, tc25, tc26, tf26_20, tf26_21, tf26_22, tc27, tc28, tf28_23, tc29, tnw29_0, tnw29_1, tc30, tc31, tf31_1, tf31_2, tf31_6, tf31_7, tf31_9, tf31_10, tf31_24, tf31_25, tkc31_0])
theorem row_body (c m rest k : Int) (x5 : Option W) (acc : List Int) (hr : 0 ≤ rest) (hz : acc.length < sizeLine) : ∃ rest' e x, evB t0 b0_1 [some (.d (.int c)), some (.d (.int m)), some (.m 0), some (.d (.int rest)), some (.d (.int k)), none] [some (.lst (intsL acc))] = .nx e [some (.lst (intsL (acc ++ [x % 1009])))] ∧ kill e [4, 5] = [some (.d (.int c)), some (.d (.int m)), some (.m 0), some (.d (.int rest')), none, none] ∧ 0 ≤ rest' := by
  have hm1 : ∀ i, mulOk i 48271 = true := fun i => by simp [mulOk]
  have hm2 : ∀ i, mulOk i 69621 = true := fun i => by simp [mulOk]
  have hm3 : ∀ i, mulOk i 16807 = true := fun i => by simp [mulOk]
  have hm4 : ∀ i, mulOk 271 i = true := fun i => by simp [mulOk]
  have hp : ∀ S, bin true .pow (.d (.int 10)) (.d (.int 18)) S = .ok (.d (.int (10 ^ 18))) S := fun S => rfl
  have hl : (intsL acc).length < sizeLine := by rw [intsL_len]; exact hz
  have hi : ∀ i S, biW true .int [.d (.int i)] S = .ok (.d (.int i)) S := fun i S => rfl
  unfold b0_1
  cases hc : decide ((10:Int) ^ 18 ≤ (if c < 0 then -c else c)) with
  | true =>
    refine ⟨rest / 1009, [some (.d (.int c)), some (.d (.int m)), some (.m 0), some (.d (.int (rest / 1009))), some (.d (.int k)), none], rest, ?_, rfl, Int.ediv_nonneg hr (by decide)⟩
    rw [← intsL_add]
    walk_at "ev"
  | false =>
    refine ⟨rest, [some (.d (.int c)), some (.d (.int m)), some (.m 0), some (.d (.int rest)), some (.d (.int k)), some (.d (.int ((((rest * 48271 + (k + 1) * 69621) % 2147483647) * 16807 + 271 * (k + 3)) % 2147483629)))], (((rest * 48271 + (k + 1) * 69621) % 2147483647) * 16807 + 271 * (k + 3)) % 2147483629, ?_, rfl, hr⟩
    rw [← intsL_add]
    walk_at "ev"
theorem row_loop (c m : Int) : ∀ (ks : List Int) (rest : Int) (acc : List Int), 0 ≤ rest → inR acc → acc.length + ks.length ≤ sizeLine → ∃ rest' acc', loopF (evG (.nm 4)) (evK t0 b0_1) [4, 5] 1 (ks.map fun k => .d (.int k)) [some (.d (.int c)), some (.d (.int m)), some (.m 0), some (.d (.int rest)), none, none] [some (.lst (intsL acc))] = .nx [some (.d (.int c)), some (.d (.int m)), some (.m 0), some (.d (.int rest')), none, none] [some (.lst (intsL acc'))] ∧ acc'.length = acc.length + ks.length ∧ inR acc'
  | [], rest, acc, hr, ha, hz => ⟨rest, acc, by simp [loopF], by simp, ha⟩
  | k :: ks, rest, acc, hr, ha, hz => by
    rw [List.length_cons] at hz
    obtain ⟨rest', e, x, h1, h2, h3⟩ := row_body c m rest k none acc hr (by omega)
    obtain ⟨r2, acc2, g1, g2, g3⟩ := row_loop c m ks rest' (acc ++ [x % 1009]) h3 (inR_mod ha x) (by rw [List.length_append, List.length_singleton]; omega)
    refine ⟨r2, acc2, ?_, ?_, g3⟩
    · rw [List.map_cons, loopF_stepK (e1 := [some (.d (.int c)), some (.d (.int m)), some (.m 0), some (.d (.int rest)), some (.d (.int k)), none]) (by rw [eg1]; rfl) h1 (by simp), h2, g1]
    · rw [g2, List.length_append, List.length_singleton, List.length_cons]
      omega
theorem row_ok (c m : Int) (h0 : 0 ≤ m) (h1 : m ≤ 1000) : ∃ l : List Int, F0 [.d (.int c), .d (.int m)] [] = .ok (.d (.lst (intsL l))) [] ∧ l.length = m.toNat ∧ inR l := by
  obtain ⟨r, l, g1, g2, g3⟩ := row_loop c m ((List.range m.toNat).map fun (k : Nat) => (k : Int)) (if c < 0 then -c else c) [] (by split <;> omega) (fun x hx => (List.not_mem_nil hx).elim) (by rw [List.length_map, List.length_range]; exact small (by simp; omega))
  refine ⟨l, ?_, by rw [g2, List.length_map, List.length_range]; simp, g3⟩
  have g1' : loopF (evG (.nm 4)) (evK t0 b0_1) [4, 5] 1 (rngL 0 m.toNat) [some (.d (.int c)), some (.d (.int m)), some (.m 0), some (.d (.int (if c < 0 then -c else c))), none, none] [some (.lst [])] = .nx [some (.d (.int c)), some (.d (.int m)), some (.m 0), some (.d (.int r)), none, none] [some (.lst (intsL l))] := by rw [rng_ints]; exact g1
  have rk : rngOk m = true := rsz h0 h1
  have z0 : 0 ≤ sizeLine := Nat.zero_le _
  unfold F0 b0
  refine run_rt rfl (S' := [none]) ?_
  walk_at "ev"
theorem app_loop (e0 : List (Option W)) (he : e0.length = 4) (y : Option W) : ∀ (l acc : List Int), acc.length + l.length ≤ sizeLine → loopF (evG (.nm 6)) (evK t1 b1_3) [6] 1 (l.map fun k => .d (.int k)) (e0 ++ [some (.m 0), y, none]) [some (.lst (intsL acc))] = .nx (e0 ++ [some (.m 0), y, none]) [some (.lst (intsL (acc ++ l)))]
  | [], acc, hz => by simp [loopF]
  | x :: l, acc, hz => by
    rw [List.length_cons] at hz
    obtain ⟨p0, p1, p2, p3, rfl⟩ : ∃ p0 p1 p2 p3, e0 = [p0, p1, p2, p3] := by
      match e0, he with
      | [p0, p1, p2, p3], _ => exact ⟨p0, p1, p2, p3, rfl⟩
    have hl : (intsL acc).length < sizeLine := by rw [intsL_len]; omega
    have body : evB t1 b1_3 [p0, p1, p2, p3, some (.m 0), y, some (.d (.int x))] [some (.lst (intsL acc))] = .nx [p0, p1, p2, p3, some (.m 0), y, some (.d (.int x))] [some (.lst (intsL (acc ++ [x])))] := by
      unfold b1_3
      rw [← intsL_add]
      walk_at "ev"
    rw [List.map_cons]
    show loopF _ _ _ _ _ [p0, p1, p2, p3, some (.m 0), y, none] _ = _
    rw [loopF_stepK (e1 := [p0, p1, p2, p3, some (.m 0), y, some (.d (.int x))]) (by rw [eg1]; rfl) body (by simp)]
    have ih := app_loop [p0, p1, p2, p3] rfl y l (acc ++ [x]) (by rw [List.length_append, List.length_singleton]; omega)
    show loopF _ _ _ _ _ [p0, p1, p2, p3, some (.m 0), y, none] _ = _
    have ih : loopF (evG (.nm 6)) (evK t1 b1_3) [6] 1 (l.map fun k => .d (.int k)) [p0, p1, p2, p3, some (.m 0), y, none] [some (.lst (intsL (acc ++ [x])))] = _ := ih
    rw [ih, List.append_assoc]
    rfl
theorem cell_loop (p0 p1 p2 : Option W) (each : Int) (h0 : 0 ≤ each) (h1 : each ≤ 1000) : ∀ (cs acc : List Int), acc.length + cs.length * each.toNat ≤ sizeLine → inR acc → ∃ acc', loopF (evG (.nm 5)) (evK t1 b1_2) [5, 6] 1 (cs.map fun k => .d (.int k)) [p0, p1, p2, some (.d (.int each)), some (.m 0), none, none] [some (.lst (intsL acc))] = .nx [p0, p1, p2, some (.d (.int each)), some (.m 0), none, none] [some (.lst (intsL acc'))] ∧ acc'.length = acc.length + cs.length * each.toNat ∧ inR acc'
  | [], acc, hz, ha => ⟨acc, by simp [loopF], by simp, ha⟩
  | c :: cs, acc, hz, ha => by
    rw [List.length_cons, Nat.succ_mul] at hz
    obtain ⟨l, g1, g2, g3⟩ := row_ok c each h0 h1
    have ap := app_loop [p0, p1, p2, some (.d (.int each))] rfl (some (.d (.int c))) l acc (by omega)
    have cl : ∀ e S, callF F0 [.d (.int c), .d (.int each)] e [] S = .ok (.d (.lst (intsL l))) S := fun e S => callF_d rfl g1
    have body : evB t1 b1_2 [p0, p1, p2, some (.d (.int each)), some (.m 0), some (.d (.int c)), none] [some (.lst (intsL acc))] = .nx [p0, p1, p2, some (.d (.int each)), some (.m 0), some (.d (.int c)), none] [some (.lst (intsL (acc ++ l)))] := by
      have ap : loopF (evG (.nm 6)) (evK t1 b1_3) [6] 1 ((intsL l).map .d) [p0, p1, p2, some (.d (.int each)), some (.m 0), some (.d (.int c)), none] [some (.lst (intsL acc))] = .nx [p0, p1, p2, some (.d (.int each)), some (.m 0), some (.d (.int c)), none] [some (.lst (intsL (acc ++ l)))] := by
        unfold intsL at ap ⊢
        rw [List.map_map]
        exact ap
      unfold b1_2
      walk_at "ev"
    obtain ⟨acc2, k1, k2, k3⟩ := cell_loop p0 p1 p2 each h0 h1 cs (acc ++ l) (by rw [List.length_append]; omega) (inR_app ha g3)
    refine ⟨acc2, ?_, ?_, k3⟩
    · rw [List.map_cons, loopF_stepK (e1 := [p0, p1, p2, some (.d (.int each)), some (.m 0), some (.d (.int c)), none]) (by rw [eg1]; rfl) body (by simp)]
      exact k1
    · rw [k2, List.length_append, List.length_cons, Nat.succ_mul, g2]
      omega
theorem fill_loop (p0 p2 p3 : Option W) (m : Int) (hm : m ≤ 1000) : ∀ (k fuel : Nat) (acc : List Int), m.toNat - acc.length ≤ k → k < fuel → inR acc → ∃ acc', loopW (evTK t1 (.cmp .lt (.bi true .len (.cons (.var 4) .nil)) (.var 1))) (evK t1 b1_1) [] 1 fuel [p0, some (.d (.int m)), p2, p3, some (.m 0), none, none] [some (.lst (intsL acc))] = .nx [p0, some (.d (.int m)), p2, p3, some (.m 0), none, none] [some (.lst (intsL acc'))] ∧ m.toNat ≤ acc'.length ∧ inR acc'
  | k, 0, acc, hk, hf, ha => by omega
  | k, fuel + 1, acc, hk, hf, ha => by
    have il := intsL_len acc
    by_cases hlt : (acc.length : Int) < m
    · cases k with
      | zero => omega
      | succ k =>
        have hl : acc.length < sizeLine := by exact Nat.lt_of_lt_of_le (by omega : acc.length < 10000) (small (by decide))
        obtain ⟨acc2, g1, g2, g3⟩ := fill_loop p0 p2 p3 m hm k fuel (acc ++ [0]) (by rw [List.length_append, List.length_singleton]; omega) (by omega) (inR_add ha (by decide) (by decide))
        refine ⟨acc2, ?_, g2, g3⟩
        have body : evB t1 b1_1 [p0, some (.d (.int m)), p2, p3, some (.m 0), none, none] [some (.lst (intsL acc))] = .nx [p0, some (.d (.int m)), p2, p3, some (.m 0), none, none] [some (.lst (intsL (acc ++ [0])))] := by
          unfold b1_1
          rw [← intsL_add]
          walk_at "ev"
        rw [loopW_stepK (by walk_at "ev") body (by simp)]
        exact g1
    · refine ⟨acc, ?_, by omega, ha⟩
      rw [loopW_endK (by walk_at "ev")]
theorem num_ok (ns : List Int) (m : Int) (hn : ns.length ≤ 63) (h0 : 0 ≤ m) (h1 : m ≤ 900) : ∃ l : List Int, F1 [.d (.ro (ns.map .int)), .d (.int m)] [] = .ok (.d (.lst (intsL l))) [] ∧ l.length = m.toNat ∧ inR l := by
  have ht : (ns.map D.int).take 63 = ns.map D.int := List.take_of_length_le (by rw [List.length_map]; exact hn)
  obtain ⟨d, hd⟩ : ∃ d : Int, d = (if (ns.length : Int) > 1 then (ns.length : Int) else 1) := ⟨_, rfl⟩
  have d0 : 0 < d ∧ d < 1073741824 := by rw [hd]; split <;> omega
  have e0 : 0 ≤ m / d := Int.ediv_nonneg h0 (by omega)
  have e1 : m / d ≤ m := Int.ediv_le_self _ h0
  have sz : 100000 ≤ sizeLine := by rw [sizeLine_eq]; omega
  obtain ⟨a1, k1, k2, k3⟩ := cell_loop (some (.d (.ro (ns.map .int)))) (some (.d (.int m))) (some (.d (.lst (ns.map .int)))) (1 + m / d) (by omega) (by omega) ns [] (by
    have q1 : (1 + m / d).toNat ≤ 1000 := by omega
    have : ns.length * (1 + m / d).toNat ≤ 63 * 1000 := Nat.mul_le_mul hn q1
    simp only [List.length_nil]
    omega) (fun x hx => (List.not_mem_nil hx).elim)
  obtain ⟨a2, f1, f2, f3⟩ := fill_loop (some (.d (.ro (ns.map .int)))) (some (.d (.lst (ns.map .int)))) (some (.d (.int (1 + m / d)))) m (by omega) m.toNat 100000 a1 (by omega) (by omega) k3
  refine ⟨a2.take m.toNat, ?_, by rw [List.length_take]; omega, fun x hx => f3 x (List.mem_of_mem_take hx)⟩
  have k1' : loopF (evG (.nm 5)) (evK t1 b1_2) [5, 6] 1 ((ns.map D.int).map .d) [some (.d (.ro (ns.map .int))), some (.d (.int m)), some (.d (.lst (ns.map .int))), some (.d (.int (1 + m / d))), some (.m 0), none, none] [some (.lst [])] = .nx [some (.d (.ro (ns.map .int))), some (.d (.int m)), some (.d (.lst (ns.map .int))), some (.d (.int (1 + m / d))), some (.m 0), none, none] [some (.lst (intsL a1))] := by
    rw [List.map_map]
    exact k1
  have z0 : 0 ≤ sizeLine := Nat.zero_le _
  have mx : ∀ S, biW true .max [.d (.int 1), .d (.int ns.length)] S = .ok (.d (.int d)) S := fun S => by rw [hd]; rfl
  have tk : List.take m.toNat (intsL a2) = intsL (a2.take m.toNat) := by
    unfold intsL
    rw [List.map_take]
  have t63 : Int.toNat 63 = 63 := rfl
  clear k1 k2 k3 f2 f3 hd
  unfold F1 b1
  refine run_rt rfl (S' := [none]) ?_
  walk_at "ev"
/-- the numbers of a script: read by their places -/
theorem nums (ns : List Int) (m : Int) (hn : ns.length ≤ 63) (h0 : 0 ≤ m) (h1 : m ≤ 900) : ∃ (N : List D) (v : Int → Int), (∀ e S, callF F1 [.d (.ro (ns.map .int)), .d (.int m)] e [] S = .ok (.d (.lst N)) S) ∧ (∀ i : Int, 0 ≤ i → i < m → ∀ S, ixW (.d (.lst N)) (.d (.int i)) S = .ok (.d (.int (v i))) S) ∧ (∀ i : Int, 0 ≤ i → i < m → 0 ≤ v i ∧ v i < 1009) := by
  obtain ⟨l, e, hl, hR⟩ := num_ok ns m hn h0 h1
  have hb : ∀ i : Int, 0 ≤ i → i < m → i.toNat < l.length := fun i a b => by rw [hl]; omega
  refine ⟨intsL l, fun i => l.getD i.toNat 0, fun e' S => callF_d rfl e, fun i a b S => ?_, fun i a b => ?_⟩
  · refine ixl (atI_map (atN a ?_))
    show l[i.toNat]? = some (l.getD i.toNat 0)
    rw [List.getD_eq_getElem?_getD, List.getElem?_eq_getElem (hb i a b)]
    rfl
  · show 0 ≤ l.getD i.toNat 0 ∧ l.getD i.toNat 0 < 1009
    rw [List.getD_eq_getElem?_getD, List.getElem?_eq_getElem (hb i a b)]
    exact hR _ (List.getElem_mem _)
def isNm (w : Str) : Prop := 1 ≤ w.length ∧ w.length ≤ 12 ∧ okC w
theorem isname_ok (w : Str) (h : isNm w) : ∀ e S, callF F23 [.d (.str w)] e [] S = .ok (.d (.bl true)) S := fun e S => by
  obtain ⟨h1, h2, h3⟩ := h
  have l1 : (1:Int) ≤ w.length := by omega
  have l2 : (w.length:Int) ≤ 12 := by omega
  have hs : w.length ≤ sizeLine := small (by omega)
  have ha : w.cps.toList.all (fun c => decide (c ∈ nmC)) = true := List.all_eq_true.mpr fun c hc => decide_eq_true (nm_mem (h3 c hc))
  refine callF_d rfl ?_
  unfold F23 b23
  refine run_rt rfl (S' := []) ?_
  walk_at "ev"
  rw [loopC_all0 (f := fun c => .bl (decide (c ∈ nmC))) (fun a _ => ⟨_, rfl, rfl, rfl⟩) hs]
  walk_at "ev"
def nmCh (n : Int) : Nat := ("kxzabc" : Str).cps.toList.getD (n % 6).toNat 0
def nmT (n : Int) : Str := spN (nmCh n) (n / 6 % 3)
def nameOf (n k : Int) : Str := if n / 18 % 2 = 0 then nmT n ++ (toString k : Str) else (toString k : Str) ++ nmT n
theorem nmCh_ok (n : Int) (h : 0 ≤ n) : 97 ≤ nmCh n ∧ nmCh n ≤ 122 := by
  have : ∀ i < 6, 97 ≤ ("kxzabc" : Str).cps.toList.getD i 0 ∧ ("kxzabc" : Str).cps.toList.getD i 0 ≤ 122 := by decide
  exact this _ (by omega)
theorem nmT_ok (n : Int) (h : 0 ≤ n) : okC (nmT n) ∧ (nmT n).length ≤ 2 := by
  refine ⟨fun c hc => ?_, by unfold nmT; rw [spN_len]; omega⟩
  unfold nmT at hc
  rw [spN_cps] at hc
  rw [(List.mem_replicate.mp hc).2]
  exact .inr (nmCh_ok n h)
theorem dig01 (k : Int) (h0 : 0 ≤ k) (h1 : k ≤ 1) : okC (toString k : Str) ∧ (toString k : Str).length = 1 := by
  rcases (show k = 0 ∨ k = 1 by omega) with rfl | rfl
  · exact ⟨by decide, by decide⟩
  · exact ⟨by decide, by decide⟩
theorem nameOf_ok (n k : Int) (h : 0 ≤ n) (h0 : 0 ≤ k) (h1 : k ≤ 1) : isNm (nameOf n k) ∧ (nameOf n k).length ≤ 3 := by
  obtain ⟨a1, a2⟩ := nmT_ok n h
  obtain ⟨b1, b2⟩ := dig01 k h0 h1
  unfold nameOf isNm
  split
  · exact ⟨⟨by rw [app_len]; omega, by rw [app_len]; omega, okC_app a1 b1⟩, by rw [app_len]; omega⟩
  · exact ⟨⟨by rw [app_len]; omega, by rw [app_len]; omega, okC_app b1 a1⟩, by rw [app_len]; omega⟩
theorem nameOf_ne (n : Int) : nameOf n 0 ≠ nameOf n 1 := fun e => by
  have d : (toString (0:Int) : Str).cps.toList ≠ (toString (1:Int) : Str).cps.toList := by decide
  have e2 := congrArg (fun s : Str => s.cps.toList) e
  unfold nameOf at e2
  split at e2
  · simp only [app_cps] at e2
    exact d (List.append_cancel_left e2)
  · simp only [app_cps] at e2
    exact d (List.append_cancel_right e2)
theorem name_ok (n k : Int) (h : 0 ≤ n) (hn : n < 1009) (h0 : 0 ≤ k) (h1 : k ≤ 1) : ∀ e S, callF F3 [.d (.int n), .d (.int k)] e [] S = .ok (.d (.str (nameOf n k))) S := fun e S => by
  have hx : ∀ S, ixW (.d (.str "kxzabc")) (.d (.int (n % 6))) S = .ok (.d (.str ⟨#[nmCh n]⟩)) S := fun S => ixsD (s := ("kxzabc" : Str)) (i := n % 6) (S := S) (by omega) (by show n % 6 < 6; omega) (small (by decide))
  have hr : ∀ S, bin true .mul (.d (.str ⟨#[nmCh n]⟩)) (.d (.int (n / 6 % 3))) S = .ok (.d (.str (nmT n))) S := fun S => rptN (by omega) (by omega)
  have hi : ∀ i S, biW true .int [.d (.int i)] S = .ok (.d (.int i)) S := fun i S => rfl
  have hs := str_small k (by omega)
  obtain ⟨a1, a2⟩ := nmT_ok n h
  obtain ⟨b1, b2⟩ := dig01 k h0 h1
  have z1 : (nmT n).length + (toString k : Str).length ≤ sizeLine := small (by omega)
  have z2 : (toString k : Str).length + (nmT n).length ≤ sizeLine := small (by omega)
  refine callF_d rfl ?_
  unfold F3 b3
  refine run_rt rfl (S' := []) ?_
  clear b2 a2
  unfold nameOf
  by_cases c : n / 18 % 2 = 0
  · have c1 : decide (n / 18 % 2 = 0) = true := decide_eq_true c
    rw [if_pos c]
    clear c
    walk_at "ev"
  · have c1 : decide (n / 18 % 2 = 0) = false := decide_eq_false c
    rw [if_neg c]
    clear c
    walk_at "ev"
/-! kinds -/
abbrev Kd := Str × Int × Int
abbrev Wy := Str × Str × Int
abbrev Spc := Str × List Kd × List Wy
def kD (k : Kd) : D := .tup [.str k.1, .int k.2.1, .int k.2.2]
def wD (k : Wy) : D := .tup [.str k.1, .str k.2.1, .int k.2.2]
def spD (s : Spc) : D := .tup [.str s.1, .lst (s.2.1.map kD), .lst (s.2.2.map wD)]
def goodK (ks : List Kd) : Prop := 1 ≤ ks.length ∧ ks.length ≤ 2 ∧ (ks.map (·.1)).Nodup ∧ ∀ k ∈ ks, isNm k.1 ∧ (1 ≤ k.2.1 ∧ k.2.1 ≤ 4) ∧ 1 ≤ k.2.2 ∧ k.2.2 ≤ 9
def goodW (ks : List Kd) (ws : List Wy) : Prop := ws.length ≤ 3 ∧ ∀ w ∈ ws, w.1 ∈ ks.map (·.1) ∧ w.2.1 ∈ ks.map (·.1) ∧ 1 ≤ w.2.2 ∧ w.2.2 ≤ 6
section
variable {N : List D} {v : Int → Int} {m : Int}
theorem kinds_ok (hv : ∀ i : Int, 0 ≤ i → i < m → ∀ S, ixW (.d (.lst N)) (.d (.int i)) S = .ok (.d (.int (v i))) S) (hr : ∀ i : Int, 0 ≤ i → i < m → 0 ≤ v i ∧ v i < 1009) (at_ : Int) (h0 : 0 ≤ at_) (h1 : at_ + 6 ≤ m) :
    ∃ ks : List Kd, (∀ e S, callF F4 [.d (.lst N), .d (.int at_)] e [] S = .ok (.d (.lst (ks.map kD))) S) ∧ goodK ks := by
  obtain ⟨c, hc⟩ : ∃ c : Nat, ((c : Nat) : Int) = 1 + v at_ % 2 := ⟨(1 + v at_ % 2).toNat, by omega⟩
  have v0 := hv at_ h0 (by omega)
  have v1 := hv (at_ + 1) (by omega) (by omega)
  have r1 := hr (at_ + 1) (by omega) (by omega)
  have hi : ∀ i S, biW true .int [.d (.int i)] S = .ok (.d (.int i)) S := fun i S => rfl
  obtain ⟨xs, g1, g2, g3⟩ := loopF_ex (g := .nm 3) (t := t4) (b := b4_1) (ks := [3, 4]) (e := [some (.d (.lst N)), some (.d (.int at_)), some (.m 0), none, none]) (w := fun k : Nat => W.d (.int (k : Int))) kD (fun i x => x.1 = nameOf (v (at_ + 1)) i ∧ (1 ≤ x.2.1 ∧ x.2.1 ≤ 4) ∧ 1 ≤ x.2.2 ∧ x.2.2 ≤ 9) (B := 2) c 0 [] (fun i _ hi2 acc hz => by
    have i2 : i < 2 := by omega
    have x2 := hv (at_ + 2 + 2 * (i : Int)) (by omega) (by omega)
    have x3 := hv (at_ + 3 + 2 * (i : Int)) (by omega) (by omega)
    have nk := name_ok (v (at_ + 1)) i r1.1 r1.2 (by omega) (by omega)
    have mk : mulOk 2 (i : Int) = true := by simp [mulOk]
    have al : acc.length < sizeLine := Nat.lt_of_lt_of_le hz (small (by decide))
    refine ⟨[some (.d (.lst N)), some (.d (.int at_)), some (.m 0), some (.d (.int i)), none], [some (.d (.lst N)), some (.d (.int at_)), some (.m 0), some (.d (.int i)), some (.d (.str (nameOf (v (at_ + 1)) i)))], (nameOf (v (at_ + 1)) i, 1 + v (at_ + 2 + 2 * (i : Int)) % 4, 1 + v (at_ + 3 + 2 * (i : Int)) % 9), by rw [eg1]; rfl, ?_, rfl, rfl, ⟨by show 1 ≤ 1 + _; omega, by show 1 + _ ≤ 4; omega⟩, by show 1 ≤ 1 + _; omega, by show 1 + _ ≤ 9; omega⟩
    have e : ∀ a b c, (acc ++ [((a, b, c) : Kd)]).map kD = acc.map kD ++ [.tup [.str a, .int b, .int c]] := fun a b c => by rw [List.map_append]; rfl
    rw [e]
    unfold b4_1
    clear hv hr hz hi2 i2
    walk_at "ev") (by simp; omega)
  refine ⟨xs, fun e S => callF_d rfl ?_, by omega, by omega, ?_, fun k hk => ?_⟩
  · have rk : rngOk (1 + v at_ % 2) = true := rsz (by omega) (by omega)
    have tn : (1 + v at_ % 2).toNat = c := by omega
    have g1' : loopF (evG (.nm 3)) (evK t4 b4_1) [3, 4] 1 (rngL 0 c) [some (.d (.lst N)), some (.d (.int at_)), some (.m 0), none, none] [some (.lst [])] = .nx [some (.d (.lst N)), some (.d (.int at_)), some (.m 0), none, none] [some (.lst (xs.map kD))] := by
      rw [rng_nat]
      exact g1
    have z0 : 0 ≤ sizeLine := Nat.zero_le _
    unfold F4 b4
    refine run_rt rfl (S' := [none]) ?_
    clear hv hr g3 g2
    walk_at "ev"
  · match xs, g2, g3 with
    | [], g2, _ => simp
    | [a], _, _ => simp
    | [a, b], _, g3 =>
      have ea := (g3 0 a rfl).1
      have eb := (g3 1 b rfl).1
      have ne : a.1 ≠ b.1 := by
        rw [ea, eb]
        exact nameOf_ne _
      simpa using ne
    | a :: b :: c :: r, g2, _ =>
      simp at g2
      omega
  · obtain ⟨j, hj⟩ := List.getElem?_of_mem hk
    have hl := (List.getElem?_eq_some_iff.mp hj).1
    obtain ⟨p1, p2, p3⟩ := g3 j k hj
    refine ⟨?_, p2, p3⟩
    rw [p1]
    exact (nameOf_ok _ _ r1.1 (by omega) (by omega)).1
theorem kD_get (ks : List Kd) (i : Int) (h0 : 0 ≤ i) (h1 : i < ks.length) : ∃ k ∈ ks, ∀ S, ixW (.d (.lst (ks.map kD))) (.d (.int i)) S = .ok (.d (.tup [.str k.1, .int k.2.1, .int k.2.2])) S := by
  have hl : i.toNat < ks.length := by omega
  exact ⟨ks[i.toNat], List.getElem_mem hl, fun S => ixl (atI_map (f := kD) (atN h0 (List.getElem?_eq_getElem hl)))⟩
theorem ways_ok (hv : ∀ i : Int, 0 ≤ i → i < m → ∀ S, ixW (.d (.lst N)) (.d (.int i)) S = .ok (.d (.int (v i))) S) (hr : ∀ i : Int, 0 ≤ i → i < m → 0 ≤ v i ∧ v i < 1009) (at_ : Int) (h0 : 0 ≤ at_) (h1 : at_ + 10 ≤ m) (ks : List Kd) (hk : goodK ks) :
    ∃ ws : List Wy, (∀ e S, callF F5 [.d (.lst N), .d (.int at_), .d (.lst (ks.map kD))] e [] S = .ok (.d (.lst (ws.map wD))) S) ∧ goodW ks ws := by
  obtain ⟨c, hc⟩ : ∃ c : Nat, ((c : Nat) : Int) = v at_ % 4 := ⟨(v at_ % 4).toNat, by omega⟩
  have v0 := hv at_ h0 (by omega)
  have hi : ∀ i S, biW true .int [.d (.int i)] S = .ok (.d (.int i)) S := fun i S => rfl
  have kl := hk.1
  have kl2 := hk.2.1
  have klb : (0:Int) < (ks.length : Int) := by omega
  obtain ⟨xs, g1, g2, g3⟩ := loopF_ex (g := .nm 4) (t := t5) (b := b5_1) (ks := [4, 5, 6]) (e := [some (.d (.lst N)), some (.d (.int at_)), some (.d (.lst (ks.map kD))), some (.m 0), none, none, none]) (w := fun k : Nat => W.d (.int (k : Int))) wD (fun i x => x.1 ∈ ks.map (·.1) ∧ x.2.1 ∈ ks.map (·.1) ∧ 1 ≤ x.2.2 ∧ x.2.2 ≤ 6) (B := 3) c 0 [] (fun i _ hi2 acc hz => by
    have i2 : i < 3 := by omega
    have x1 := hv (at_ + 1 + 3 * (i : Int)) (by omega) (by omega)
    have x2 := hv (at_ + 2 + 3 * (i : Int)) (by omega) (by omega)
    have x3 := hv (at_ + 3 + 3 * (i : Int)) (by omega) (by omega)
    have mk : mulOk 3 (i : Int) = true := by simp [mulOk]
    have al : acc.length < sizeLine := Nat.lt_of_lt_of_le hz (small (by decide))
    obtain ⟨a, ha, ga⟩ := kD_get ks (v (at_ + 1 + 3 * (i : Int)) % (ks.length : Int)) (Int.emod_nonneg _ (by omega)) (Int.emod_lt_of_pos _ klb)
    obtain ⟨b, hb, gb⟩ := kD_get ks (v (at_ + 2 + 3 * (i : Int)) % (ks.length : Int)) (Int.emod_nonneg _ (by omega)) (Int.emod_lt_of_pos _ klb)
    have ta := @tup0 (.str a.1) [.int a.2.1, .int a.2.2]
    have tb := @tup0 (.str b.1) [.int b.2.1, .int b.2.2]
    refine ⟨[some (.d (.lst N)), some (.d (.int at_)), some (.d (.lst (ks.map kD))), some (.m 0), some (.d (.int i)), none, none], [some (.d (.lst N)), some (.d (.int at_)), some (.d (.lst (ks.map kD))), some (.m 0), some (.d (.int i)), some (.d (.str a.1)), some (.d (.str b.1))], (a.1, b.1, 1 + v (at_ + 3 + 3 * (i : Int)) % 6), by rw [eg1]; rfl, ?_, rfl, List.mem_map_of_mem ha, List.mem_map_of_mem hb, by show 1 ≤ 1 + _; omega, by show 1 + _ ≤ 6; omega⟩
    have e : ∀ a b c, (acc ++ [((a, b, c) : Wy)]).map wD = acc.map wD ++ [.tup [.str a, .str b, .int c]] := fun a b c => by rw [List.map_append]; rfl
    rw [e]
    unfold b5_1
    clear hv hr hz hi2 i2 ha hb hk kl kl2
    walk_at "ev") (by simp; omega)
  refine ⟨xs, fun e S => callF_d rfl ?_, by omega, fun w hw => ?_⟩
  · have rk : rngOk (v at_ % 4) = true := rsz (by omega) (by omega)
    have tn : (v at_ % 4).toNat = c := by omega
    have g1' : loopF (evG (.nm 4)) (evK t5 b5_1) [4, 5, 6] 1 (rngL 0 c) [some (.d (.lst N)), some (.d (.int at_)), some (.d (.lst (ks.map kD))), some (.m 0), none, none, none] [some (.lst [])] = .nx [some (.d (.lst N)), some (.d (.int at_)), some (.d (.lst (ks.map kD))), some (.m 0), none, none, none] [some (.lst (xs.map wD))] := by
      rw [rng_nat]
      exact g1
    have z0 : 0 ≤ sizeLine := Nat.zero_le _
    unfold F5 b5
    refine run_rt rfl (S' := [none]) ?_
    clear hv hr g3 g2
    walk_at "ev"
  · obtain ⟨j, hj⟩ := List.getElem?_of_mem hw
    exact g3 j w hj
def goodS (s : Spc) : Prop := isNm s.1 ∧ goodK s.2.1 ∧ goodW s.2.1 s.2.2
theorem specs_ok (hv : ∀ i : Int, 0 ≤ i → i < m → ∀ S, ixW (.d (.lst N)) (.d (.int i)) S = .ok (.d (.int (v i))) S) (hr : ∀ i : Int, 0 ≤ i → i < m → 0 ≤ v i ∧ v i < 1009) (h1 : 40 ≤ m) :
    ∃ ss : List Spc, (∀ e S, callF F6 [.d (.lst N)] e [] S = .ok (.d (.lst (ss.map spD))) S) ∧ 1 ≤ ss.length ∧ ss.length ≤ 2 ∧ (∀ s ∈ ss, goodS s) ∧ (ss.map (·.1)).Nodup := by
  obtain ⟨c, hc⟩ : ∃ c : Nat, ((c : Nat) : Int) = 1 + v 0 % 2 := ⟨(1 + v 0 % 2).toNat, by omega⟩
  have v0 := hv 0 (by omega) (by omega)
  have v1 := hv 1 (by omega) (by omega)
  have r1 := hr 1 (by omega) (by omega)
  have hi : ∀ i S, biW true .int [.d (.int i)] S = .ok (.d (.int i)) S := fun i S => rfl
  obtain ⟨xs, g1, g2, g3⟩ := loopF_ex (g := .nm 2) (t := t6) (b := b6_1) (ks := [2, 3, 4]) (e := [some (.d (.lst N)), some (.m 0), none, none, none]) (w := fun k : Nat => W.d (.int (k : Int))) spD (fun i x => x.1 = nameOf (v 1) i ∧ goodK x.2.1 ∧ goodW x.2.1 x.2.2) (B := 2) c 0 [] (fun i _ hi2 acc hz => by
    have i2 : i < 2 := by omega
    obtain ⟨ks, ek, gk⟩ := kinds_ok hv hr (2 + 17 * (i : Int)) (by omega) (by omega)
    obtain ⟨ws, ew, gw⟩ := ways_ok hv hr (8 + 17 * (i : Int)) (by omega) (by omega) ks gk
    have mk : mulOk 17 (i : Int) = true := by simp [mulOk]
    have al : acc.length < sizeLine := Nat.lt_of_lt_of_le hz (small (by decide))
    have nk := name_ok (v 1) i r1.1 r1.2 (by omega) (by omega)
    refine ⟨[some (.d (.lst N)), some (.m 0), some (.d (.int i)), none, none], [some (.d (.lst N)), some (.m 0), some (.d (.int i)), some (.d (.lst (ks.map kD))), some (.d (.lst (ws.map wD)))], (nameOf (v 1) i, ks, ws), by rw [eg1]; rfl, ?_, rfl, rfl, gk, gw⟩
    have e : ∀ a b c, (acc ++ [((a, b, c) : Spc)]).map spD = acc.map spD ++ [.tup [.str a, .lst (b.map kD), .lst (c.map wD)]] := fun a b c => by rw [List.map_append]; rfl
    rw [e]
    unfold b6_1
    clear hv hr hz hi2 i2 gk gw
    walk_at "ev") (by simp; omega)
  refine ⟨xs, fun e S => callF_d rfl ?_, by omega, by omega, fun s hs => ?_, ?_⟩
  · have rk : rngOk (1 + v 0 % 2) = true := rsz (by omega) (by omega)
    have tn : (1 + v 0 % 2).toNat = c := by omega
    have g1' : loopF (evG (.nm 2)) (evK t6 b6_1) [2, 3, 4] 1 (rngL 0 c) [some (.d (.lst N)), some (.m 0), none, none, none] [some (.lst [])] = .nx [some (.d (.lst N)), some (.m 0), none, none, none] [some (.lst (xs.map spD))] := by
      rw [rng_nat]
      exact g1
    have z0 : 0 ≤ sizeLine := Nat.zero_le _
    unfold F6 b6
    refine run_rt rfl (S' := [none]) ?_
    clear hv hr g3 g2
    walk_at "ev"
  · obtain ⟨j, hj⟩ := List.getElem?_of_mem hs
    have hl := (List.getElem?_eq_some_iff.mp hj).1
    obtain ⟨p1, p2, p3⟩ := g3 j s hj
    refine ⟨?_, p2, p3⟩
    rw [p1]
    exact (nameOf_ok _ _ r1.1 (by omega) (by omega)).1
  · match xs, g2, g3 with
    | [], g2, _ => simp
    | [a], _, _ => simp
    | [a, b], _, g3 =>
      have ea := (g3 0 a rfl).1
      have eb := (g3 1 b rfl).1
      have ne : a.1 ≠ b.1 := by
        rw [ea, eb]
        exact nameOf_ne _
      simpa using ne
    | a :: b :: c :: r, g2, _ =>
      simp at g2
      omega
/-- a table of small capacities -/
theorem table_ok (hv : ∀ i : Int, 0 ≤ i → i < m → ∀ S, ixW (.d (.lst N)) (.d (.int i)) S = .ok (.d (.int (v i))) S) (hr : ∀ i : Int, 0 ≤ i → i < m → 0 ≤ v i ∧ v i < 1009) (at_ : Int) (h0 : 0 ≤ at_) (h1 : at_ + 4 ≤ m) :
    ∃ tb : List Int, (∀ e S, callF F7 [.d (.lst N), .d (.int at_)] e [] S = .ok (.d (.lst (tb.map .int))) S) ∧ 1 ≤ tb.length ∧ tb.length ≤ 3 ∧ ∀ x ∈ tb, 0 ≤ x ∧ x ≤ 3 := by
  obtain ⟨c, hc⟩ : ∃ c : Nat, ((c : Nat) : Int) = 1 + v at_ % 3 := ⟨(1 + v at_ % 3).toNat, by omega⟩
  have v0 := hv at_ h0 (by omega)
  have hi : ∀ i S, biW true .int [.d (.int i)] S = .ok (.d (.int i)) S := fun i S => rfl
  have rk : rngOk (1 + v at_ % 3) = true := rsz (by omega) (by omega)
  have tn : (1 + v at_ % 3).toNat = c := by omega
  suffices h : ∃ tb : List Int, evB t7 b7 [some (.d (.lst N)), some (.d (.int at_)), none, none] [] = .rt (.d (.lst (tb.map .int))) [] ∧ tb.length = c ∧ ∀ x ∈ tb, 0 ≤ x ∧ x ≤ 3 by
    obtain ⟨tb, e, hl, hx⟩ := h
    exact ⟨tb, fun e' S => callF_d rfl (run_rt rfl e), by omega, by omega, hx⟩
  obtain ⟨xs, g1, g2, g3⟩ := loopC_ex (tg := evG (.nm 3)) (test := evTK t7 .yes) (el := evEK t7 (.op true .mod (.bi true .int (.cons (.ix (.var 0) (.op true .add (.op true .add (.var 1) (.int 1)) (.var 3))) .nil)) (.int 4))) (S := []) (e := [some (.d (.lst N)), some (.d (.int at_)), some (.d (.int (1 + v at_ % 3))), none]) (w := fun k : Nat => W.d (.int (k : Int))) D.int (fun i x => 0 ≤ x ∧ x ≤ 3) (B := 3) (small (by decide)) c 0 [] (fun i _ hi2 => by
    have x1 := hv (at_ + 1 + (i : Int)) (by omega) (by omega)
    refine ⟨[some (.d (.lst N)), some (.d (.int at_)), some (.d (.int (1 + v at_ % 3))), some (.d (.int i))], v (at_ + 1 + (i : Int)) % 4, by rw [eg1]; rfl, rfl, ?_, by omega, by omega⟩
    clear hv hr hi2
    walk_at "ev") (by simp; omega)
  refine ⟨xs, ?_, g2, fun x hx => ?_⟩
  · have g1' : loopC (evG (.nm 3)) (evTK t7 .yes) (evEK t7 (.op true .mod (.bi true .int (.cons (.ix (.var 0) (.op true .add (.op true .add (.var 1) (.int 1)) (.var 3))) .nil)) (.int 4))) (rngL 0 c) [some (.d (.lst N)), some (.d (.int at_)), some (.d (.int (1 + v at_ % 3))), none] [] [] = .ok (xs.map D.int) [] := by
      rw [rng_nat]
      exact g1
    unfold b7
    clear hv hr g3 g2 g1
    walk_at "ev"
  · obtain ⟨j, hj⟩ := List.getElem?_of_mem hx
    exact g3 j x hj
end
def okK (ks : List Kd) : Prop := 1 ≤ ks.length ∧ ks.length ≤ 8 ∧ (ks.map (·.1)).Nodup ∧ ∀ k ∈ ks, isNm k.1 ∧ (1 ≤ k.2.1 ∧ k.2.1 ≤ 1000) ∧ 1 ≤ k.2.2 ∧ k.2.2 ≤ 1000
def okWy (ks : List Kd) (ws : List Wy) : Prop := ws.length ≤ 16 ∧ ∀ w ∈ ws, w.1 ∈ ks.map (·.1) ∧ w.2.1 ∈ ks.map (·.1) ∧ 1 ≤ w.2.2 ∧ w.2.2 ≤ 1000
def okS (s : Spc) : Prop := isNm s.1 ∧ okK s.2.1 ∧ okWy s.2.1 s.2.2
theorem kinds_loop (p0 : Option W) : ∀ (l : List Kd) (acc : List Str), (∀ k ∈ l, isNm k.1 ∧ (1 ≤ k.2.1 ∧ k.2.1 ≤ 1000) ∧ 1 ≤ k.2.2 ∧ k.2.2 ≤ 1000) → (acc ++ l.map (·.1)).Nodup → acc.length + l.length ≤ 1000 →
    loopF (evG (.tup (.cons (.nm 2) (.cons (.nm 3) (.cons (.nm 4) .nil))))) (evK t24 b24_1) [2, 3, 4] 1 (l.map fun k => .d (kD k)) [p0, some (.m 0), none, none, none] [some (.lst (acc.map .str))] = .nx [p0, some (.m 0), none, none, none] [some (.lst ((acc ++ l.map (·.1)).map .str))]
  | [], acc, _, _, _ => by simp [loopF]
  | (a, c, d) :: l, acc, h, nd, hz => by
    rw [List.length_cons] at hz
    obtain ⟨h1, ⟨h2, h3⟩, h4, h5⟩ := h _ List.mem_cons_self
    dsimp only at h1 h2 h3 h4 h5
    have nk := isname_ok a h1
    have na : decide (a ∈ acc) = false := by
      refine decide_eq_false fun hm => ?_
      have := (List.nodup_append.mp nd).2.2 a hm a (by simp)
      exact this rfl
    have im := fun S => @in_ms S a acc
    have al : acc.length < sizeLine := Nat.lt_of_lt_of_le (show acc.length < 1000 by omega) (small (by decide))
    have d2 : decide (1 ≤ c) = true := decide_eq_true h2
    have d3 : decide (c ≤ 1000) = true := decide_eq_true h3
    have d4 : decide (1 ≤ d) = true := decide_eq_true h4
    have d5 : decide (d ≤ 1000) = true := decide_eq_true h5
    have tg : evG (.tup (.cons (.nm 2) (.cons (.nm 3) (.cons (.nm 4) .nil)))) (.d (kD (a, c, d))) [p0, some (.m 0), none, none, none] [some (.lst (acc.map .str))] = some [p0, some (.m 0), some (.d (.str a)), some (.d (.int c)), some (.d (.int d))] := by
      unfold kD
      walk_at "ev"
    have body : evB t24 b24_1 [p0, some (.m 0), some (.d (.str a)), some (.d (.int c)), some (.d (.int d))] [some (.lst (acc.map .str))] = .nx [p0, some (.m 0), some (.d (.str a)), some (.d (.int c)), some (.d (.int d))] [some (.lst ((acc ++ [a]).map .str))] := by
      have e : (acc ++ [a]).map D.str = acc.map .str ++ [.str a] := by rw [List.map_append]; rfl
      rw [e]
      unfold b24_1
      clear h nd h1 h2 h3 h4 h5 hz
      walk_at "ev"
    rw [List.map_cons, loopF_stepK tg body (by simp)]
    have ih := kinds_loop p0 l (acc ++ [a]) (fun k hk => h k (List.mem_cons_of_mem _ hk)) (by rw [List.append_assoc]; exact nd) (by rw [List.length_append, List.length_singleton]; omega)
    rw [List.append_assoc] at ih
    exact ih
theorem arekinds_ok (ks : List Kd) (h : okK ks) : ∀ e S, callF F24 [.d (.lst (ks.map kD))] e [] S = .ok (.d (.bl true)) S := fun e S => by
  obtain ⟨h1, h2, h3, h4⟩ := h
  have lp := kinds_loop (some (.d (.lst (ks.map kD)))) ks [] h4 (by simpa using h3) (by simp; omega)
  have lp' : loopF (evG (.tup (.cons (.nm 2) (.cons (.nm 3) (.cons (.nm 4) .nil))))) (evK t24 b24_1) [2, 3, 4] 1 ((ks.map kD).map W.d) [some (.d (.lst (ks.map kD))), some (.m 0), none, none, none] [some (.lst [])] = .nx [some (.d (.lst (ks.map kD))), some (.m 0), none, none, none] [some (.lst ((ks.map (·.1)).map .str))] := by
    rw [List.map_map]
    exact lp
  have d1 : decide ((1:Int) ≤ (ks.length : Int)) = true := decide_eq_true (by omega)
  have d2 : decide ((ks.length : Int) ≤ 8) = true := decide_eq_true (by omega)
  have z0 : 0 ≤ sizeLine := Nat.zero_le _
  refine callF_d rfl ?_
  unfold F24 b24
  refine run_rt rfl (S' := [none]) ?_
  clear h1 h2 h3 h4 lp
  walk_at "ev"
theorem areways_ok (ks : List Kd) (ws : List Wy) (h : okWy ks ws) : ∀ e S, callF F25 [.d (.lst (ws.map wD)), .d (.lst ((ks.map (·.1)).map .str))] e [] S = .ok (.d (.bl true)) S := fun e S => by
  obtain ⟨h1, h2⟩ := h
  obtain ⟨_, lp, _⟩ := loopF_inv (g := .tup (.cons (.nm 2) (.cons (.nm 3) (.cons (.nm 4) .nil)))) (t := t25) (b := b25_1) (ks := [2, 3, 4]) (n := 0) (w := fun k : Wy => W.d (wD k)) (ev := fun _ : Unit => [some (.d (.lst (ws.map wD))), some (.d (.lst ((ks.map (·.1)).map .str))), none, none, none]) (st := fun _ => []) (I := fun _ => True) ws () trivial (fun _ _ => by simp) (fun w hw _ _ => by
    obtain ⟨a, c, d⟩ := w
    obtain ⟨g1, g2, g3, g4⟩ := h2 _ hw
    dsimp only at g1 g2 g3 g4
    refine ⟨[some (.d (.lst (ws.map wD))), some (.d (.lst ((ks.map (·.1)).map .str))), some (.d (.str a)), some (.d (.str c)), some (.d (.int d))], [some (.d (.lst (ws.map wD))), some (.d (.lst ((ks.map (·.1)).map .str))), some (.d (.str a)), some (.d (.str c)), some (.d (.int d))], (), ?_, .inl ?_, rfl, trivial⟩
    · unfold wD
      walk_at "ev"
    · have d1 : decide (a ∈ ks.map (·.1)) = true := decide_eq_true g1
      have d2 : decide (c ∈ ks.map (·.1)) = true := decide_eq_true g2
      have n1 := fun S => @ni_ds S a (ks.map (·.1))
      have n2 := fun S => @ni_ds S c (ks.map (·.1))
      have d3 : decide (1 ≤ d) = true := decide_eq_true g3
      have d4 : decide (d ≤ 1000) = true := decide_eq_true g4
      unfold b25_1
      clear h1 h2 hw g1 g2 g3 g4
      walk_at "ev")
  have lp' : loopF (evG (.tup (.cons (.nm 2) (.cons (.nm 3) (.cons (.nm 4) .nil))))) (evK t25 b25_1) [2, 3, 4] 0 ((ws.map wD).map W.d) [some (.d (.lst (ws.map wD))), some (.d (.lst ((ks.map (·.1)).map .str))), none, none, none] [] = .nx [some (.d (.lst (ws.map wD))), some (.d (.lst ((ks.map (·.1)).map .str))), none, none, none] [] := by
    rw [List.map_map]
    exact lp
  have d1 : decide ((16:Int) < (ws.length : Int)) = false := decide_eq_false (by omega)
  refine callF_d rfl ?_
  unfold F25 b25
  refine run_rt rfl (S' := []) ?_
  clear h1 h2 lp
  walk_at "ev"
def taskD (s : Spc) : D := .ins "Task" ["name", "kinds", "ways"] [.str s.1, .tup (s.2.1.map kD), .tup (s.2.2.map wD)]
theorem task_name (s : Spc) : ∀ S, fldW "Task" "name" (.d (taskD s)) S = .ok (.d (.str s.1)) S := fun _ => rfl
theorem task_kinds (s : Spc) : ∀ S, fldW "Task" "kinds" (.d (taskD s)) S = .ok (.d (.tup (s.2.1.map kD))) S := fun _ => rfl
theorem task_ways (s : Spc) : ∀ S, fldW "Task" "ways" (.d (taskD s)) S = .ok (.d (.tup (s.2.2.map wD))) S := fun _ => rfl
theorem task_init (s : Spc) (h : okS s) : F26 [.m 0, .d (.str s.1), .d (.lst (s.2.1.map kD)), .d (.lst (s.2.2.map wD))] [some (.ins "Task" [] [])] = .ok (.d .non) [some (.ins "Task" ["name", "kinds", "ways"] [.d (.str s.1), .d (.tup (s.2.1.map kD)), .d (.tup (s.2.2.map wD))])] := by
  obtain ⟨nm, ks, ws⟩ := s
  obtain ⟨h1, h2, h3⟩ := h
  dsimp only at h1 h2 h3 ⊢
  have c1 := isname_ok nm h1
  have c2 := arekinds_ok ks h2
  have c3 := areways_ok ks ws h3
  have tu : ∀ l S, biW true .tuple [.d (.lst l)] S = .ok (.d (.tup l)) S := fun _ _ => rfl
  have zk : ks.length ≤ sizeLine := small (by have := h2.2.1; omega)
  have zw : ws.length ≤ sizeLine := small (by have := h3.1; omega)
  have z3 : 3 ≤ sizeLine := by decide
  have k1 : ∀ (e : Env') (S : Sto), e.length = 6 → loopC (evG (.nm 4)) (evTK t26 .yes) (evEK t26 (.ix (.var 4) (.int 0))) ((ks.map kD).map W.d) e [] S = .ok ((ks.map (·.1)).map .str) S := fun e S he => by
    rw [List.map_map, List.map_map]
    refine loopC_all0 (g := fun k : Kd => W.d (kD k)) (f := fun k => .str k.1) (fun k _ => ⟨e.set 4 (some (.d (kD k))), by rw [eg1, if_pos (by omega)], rfl, ?_⟩) zk
    have g4 : getE (e.set 4 (some (.d (kD k)))) 4 S = .ok (.d (kD k)) S := by
      unfold getE
      rw [List.getElem?_set_self (by omega)]
    have i0 := @tup0 (.str k.1) [.int k.2.1, .int k.2.2] S
    have i0 : ixW (.d (kD k)) (.d (.int 0)) S = .ok (.d (.str k.1)) S := i0
    clear c1 c2 c3 h1 h2 h3
    walk_at "ev"
  have k2 : ∀ (e : Env') (S : Sto), e.length = 6 → loopC (evG (.nm 4)) (evTK t26 .yes) (evEK t26 (.tup (.cons (.ix (.var 4) (.int 0)) (.cons (.ix (.var 4) (.int 1)) (.cons (.ix (.var 4) (.int 2)) .nil))))) ((ks.map kD).map W.d) e [] S = .ok (ks.map kD) S := fun e S he => by
    rw [List.map_map]
    refine loopC_all0 (g := fun k : Kd => W.d (kD k)) (f := kD) (fun k _ => ⟨e.set 4 (some (.d (kD k))), by rw [eg1, if_pos (by omega)], rfl, ?_⟩) zk
    have g4 : getE (e.set 4 (some (.d (kD k)))) 4 S = .ok (.d (kD k)) S := by
      unfold getE
      rw [List.getElem?_set_self (by omega)]
    have i0 : ixW (.d (kD k)) (.d (.int 0)) S = .ok (.d (.str k.1)) S := @tup0 (.str k.1) [.int k.2.1, .int k.2.2] S
    have i1 : ixW (.d (kD k)) (.d (.int 1)) S = .ok (.d (.int k.2.1)) S := @tup1 (.str k.1) (.int k.2.1) [.int k.2.2] S
    have i2 : ixW (.d (kD k)) (.d (.int 2)) S = .ok (.d (.int k.2.2)) S := @tup2 (.str k.1) (.int k.2.1) (.int k.2.2) [] S
    clear c1 c2 c3 h1 h2 h3
    walk_at "ev"
    rfl
  have k3 : ∀ (e : Env') (S : Sto), e.length = 6 → loopC (evG (.nm 5)) (evTK t26 .yes) (evEK t26 (.tup (.cons (.ix (.var 5) (.int 0)) (.cons (.ix (.var 5) (.int 1)) (.cons (.ix (.var 5) (.int 2)) .nil))))) ((ws.map wD).map W.d) e [] S = .ok (ws.map wD) S := fun e S he => by
    rw [List.map_map]
    refine loopC_all0 (g := fun k : Wy => W.d (wD k)) (f := wD) (fun k _ => ⟨e.set 5 (some (.d (wD k))), by rw [eg1, if_pos (by omega)], rfl, ?_⟩) zw
    have g4 : getE (e.set 5 (some (.d (wD k)))) 5 S = .ok (.d (wD k)) S := by
      unfold getE
      rw [List.getElem?_set_self (by omega)]
    have i0 : ixW (.d (wD k)) (.d (.int 0)) S = .ok (.d (.str k.1)) S := @tup0 (.str k.1) [.str k.2.1, .int k.2.2] S
    have i1 : ixW (.d (wD k)) (.d (.int 1)) S = .ok (.d (.str k.2.1)) S := @tup1 (.str k.1) (.str k.2.1) [.int k.2.2] S
    have i2 : ixW (.d (wD k)) (.d (.int 2)) S = .ok (.d (.int k.2.2)) S := @tup2 (.str k.1) (.str k.2.1) (.int k.2.2) [] S
    clear c1 c2 c3 h1 h2 h3
    walk_at "ev"
    rfl
  have p1 : putN "name" [] = (["name"] : List Str) := rfl
  have p2 : putN "kinds" ["name"] = (["name", "kinds"] : List Str) := rfl
  have p3 : putN "ways" ["name", "kinds"] = (["name", "kinds", "ways"] : List Str) := rfl
  have q1 : ∀ v, putW "name" v [] [] = [v] := fun _ => rfl
  have q2 : ∀ v x, putW "kinds" v ["name"] [x] = [x, v] := fun _ _ => rfl
  have q3 : ∀ v x y, putW "ways" v ["name", "kinds"] [x, y] = [x, y, v] := fun _ _ _ => rfl
  unfold F26 b26
  refine run_nx rfl (e := [some (.m 0), some (.d (.str nm)), some (.d (.lst (ks.map kD))), some (.d (.lst (ws.map wD))), none, none]) ?_ (by simp)
  clear h1 h2 h3 zk zw
  walk_at "ev"
theorem task_mk (s : Spc) (h : okS s) : ∀ S, makeF F26 "Task" [.m 0, .d (.str s.1), .d (.lst (s.2.1.map kD)), .d (.lst (s.2.2.map wD))] S = .ok (.d (taskD s)) S := fun S => makeF_d (task_init s h) (Nat.le_refl 3) rfl
def sysD (ss : List Spc) (tb : List Int) : D := .ins "System" ["tasks", "table"] [.tup (ss.map taskD), .tup (tb.map .int)]
theorem sys_tasks (ss : List Spc) (tb : List Int) : ∀ S, fldW "System" "tasks" (.d (sysD ss tb)) S = .ok (.d (.tup (ss.map taskD))) S := fun _ => rfl
theorem sys_table (ss : List Spc) (tb : List Int) : ∀ S, fldW "System" "table" (.d (sysD ss tb)) S = .ok (.d (.tup (tb.map .int))) S := fun _ => rfl
def okT (tb : List Int) : Prop := 1 ≤ tb.length ∧ tb.length ≤ 1001 ∧ ∀ x ∈ tb, 0 ≤ x ∧ x ≤ 1000000
def okSS (ss : List Spc) : Prop := ss.length ≤ 6 ∧ (∀ s ∈ ss, okS s) ∧ (ss.map (·.1)).Nodup
theorem istable_ok (tb : List Int) (h : okT tb) : ∀ e S, callF F27 [.d (.lst (tb.map .int))] e [] S = .ok (.d (.bl true)) S := fun e S => by
  obtain ⟨h1, h2, h3⟩ := h
  have d1 : decide ((1:Int) ≤ (tb.length : Int)) = true := decide_eq_true (by omega)
  have d2 : decide ((tb.length : Int) ≤ 1001) = true := decide_eq_true (by omega)
  have hs : tb.length ≤ sizeLine := small (by omega)
  have lp : ∀ (e : Env') S, e.length = 2 → loopC (evG (.nm 1)) (evTK t27 .yes) (evEK t27 (.chn .le .le (.int 0) (.var 1) (.glo 8))) ((tb.map D.int).map W.d) e [] S = .ok (tb.map fun _ => .bl true) S := fun e S he => by
    rw [List.map_map]
    refine loopC_all0 (g := fun x : Int => W.d (.int x)) (f := fun _ => .bl true) (fun x hx => ⟨e.set 1 (some (.d (.int x))), by rw [eg1, if_pos (by omega)], rfl, ?_⟩) hs
    have g4 : getE (e.set 1 (some (.d (.int x)))) 1 S = .ok (.d (.int x)) S := by
      unfold getE
      rw [List.getElem?_set_self (by omega)]
    have e1 : decide (0 ≤ x) = true := decide_eq_true (h3 x hx).1
    have e2 : decide (x ≤ 1000000) = true := decide_eq_true (h3 x hx).2
    clear h1 h2 h3 hx
    walk_at "ev"
  have ha : tb.all (fun _ => true) = true := List.all_eq_true.mpr fun _ _ => rfl
  have al := fun S => @bu9 S Int tb (fun _ => true)
  refine callF_d rfl ?_
  unfold F27 b27
  refine run_rt rfl (S' := []) ?_
  clear h1 h2 h3
  walk_at "ev"
theorem names_loop (p0 p1 p2 : Option W) (o : Option Ob) : ∀ (l : List Spc) (acc : List Str), (acc ++ l.map (·.1)).Nodup → acc.length + l.length ≤ 1000 →
    loopF (evG (.nm 4)) (evK t28 b28_1) [4] 2 (l.map fun s => .d (taskD s)) [p0, p1, p2, some (.m 1), none] [o, some (.lst (acc.map .str))] = .nx [p0, p1, p2, some (.m 1), none] [o, some (.lst ((acc ++ l.map (·.1)).map .str))]
  | [], acc, _, _ => by simp [loopF]
  | s :: l, acc, nd, hz => by
    rw [List.length_cons] at hz
    have na : decide (s.1 ∈ acc) = false := by
      refine decide_eq_false fun hm => ?_
      exact (List.nodup_append.mp nd).2.2 s.1 hm s.1 (by simp) rfl
    have al : acc.length < sizeLine := Nat.lt_of_lt_of_le (show acc.length < 1000 by omega) (small (by decide))
    have fn := task_name s
    have body : evB t28 b28_1 [p0, p1, p2, some (.m 1), some (.d (taskD s))] [o, some (.lst (acc.map .str))] = .nx [p0, p1, p2, some (.m 1), some (.d (taskD s))] [o, some (.lst ((acc ++ [s.1]).map .str))] := by
      have e : (acc ++ [s.1]).map D.str = acc.map .str ++ [.str s.1] := by rw [List.map_append]; rfl
      rw [e]
      unfold b28_1
      clear nd hz
      walk_at "ev"
    rw [List.map_cons, loopF_stepK (e1 := [p0, p1, p2, some (.m 1), some (.d (taskD s))]) (by rw [eg1]; rfl) body (by simp)]
    have ih := names_loop p0 p1 p2 o l (acc ++ [s.1]) (by rw [List.append_assoc]; exact nd) (by rw [List.length_append, List.length_singleton]; omega)
    rw [List.append_assoc] at ih
    exact ih
theorem sys_init (ss : List Spc) (tb : List Int) (h : okSS ss) (ht : okT tb) : F28 [.m 0, .d (.lst (ss.map taskD)), .d (.lst (tb.map .int))] [some (.ins "System" [] [])] = .ok (.d .non) [some (.ins "System" ["tasks", "table"] [.d (.tup (ss.map taskD)), .d (.tup (tb.map .int))])] := by
  obtain ⟨h1, h2, h3⟩ := h
  have c1 := istable_ok tb ht
  have lp := names_loop (some (.m 0)) (some (.d (.lst (ss.map taskD)))) (some (.d (.lst (tb.map .int)))) (some (.ins "System" [] [])) ss [] (by simpa using h3) (by simp; omega)
  have lp' : loopF (evG (.nm 4)) (evK t28 b28_1) [4] 2 ((ss.map taskD).map W.d) [some (.m 0), some (.d (.lst (ss.map taskD))), some (.d (.lst (tb.map .int))), some (.m 1), none] [some (.ins "System" [] []), some (.lst [])] = .nx [some (.m 0), some (.d (.lst (ss.map taskD))), some (.d (.lst (tb.map .int))), some (.m 1), none] [some (.ins "System" [] []), some (.lst ((ss.map (·.1)).map .str))] := by
    rw [List.map_map]
    exact lp
  have d1 : decide ((6:Int) < (ss.length : Int)) = false := decide_eq_false (by omega)
  have z0 : 0 ≤ sizeLine := Nat.zero_le _
  have p1 : putN "tasks" [] = (["tasks"] : List Str) := rfl
  have p2 : putN "table" ["tasks"] = (["tasks", "table"] : List Str) := rfl
  have q1 : ∀ v, putW "tasks" v [] [] = [v] := fun _ => rfl
  have q2 : ∀ v x, putW "table" v ["tasks"] [x] = [x, v] := fun _ _ => rfl
  unfold F28 b28
  refine run_nxT rfl (e := [some (.m 0), some (.d (.lst (ss.map taskD))), some (.d (.lst (tb.map .int))), some (.d (.lst ((ss.map (·.1)).map .str))), none]) (S' := [some (.ins "System" ["tasks", "table"] [.d (.tup (ss.map taskD)), .d (.tup (tb.map .int))]), none]) ?_ rfl
  clear h1 h2 h3 ht lp
  walk_at "ev"
theorem sys_mk (ss : List Spc) (tb : List Int) (h : okSS ss) (ht : okT tb) : ∀ S, makeF F28 "System" [.m 0, .d (.lst (ss.map taskD)), .d (.lst (tb.map .int))] S = .ok (.d (sysD ss tb)) S := fun S => makeF_d (sys_init ss tb h ht) (Nat.le_refl 2) rfl
theorem law_system_ok (ss : List Spc) (tb : List Int) (h : okSS ss) (ht : okT tb) : ∀ e S, callF F29 [.d (.lst (ss.map spD)), .d (.lst (tb.map .int))] e [] S = .ok (.d (sysD ss tb)) S := fun e S => by
  have mk := sys_mk ss tb h ht
  have zs : ss.length ≤ sizeLine := small (by have := h.1; omega)
  refine callF_d rfl ?_
  unfold F29 b29
  refine run_rt rfl (S' := []) ?_
  rw [seqB (e2 := [some (.d (.lst (ss.map spD))), some (.d (.lst (tb.map .int))), some (.d (.lst (ss.map taskD))), none]) (S2 := []) (by
    walk_at "ev"
    rw [map_md, loopC_all0 (g := fun s : Spc => W.d (spD s)) (f := taskD) (fun s hs => ⟨[some (.d (.lst (ss.map spD))), some (.d (.lst (tb.map .int))), none, some (.d (spD s))], by rw [eg1]; rfl, rfl, ?_⟩) zs]
    · walk_at "ev"
    · have km := task_mk s (h.2.1 s hs)
      have i0 : ∀ S, ixW (.d (spD s)) (.d (.int 0)) S = .ok (.d (.str s.1)) S := @tup0 (.str s.1) _
      have i1 : ∀ S, ixW (.d (spD s)) (.d (.int 1)) S = .ok (.d (.lst (s.2.1.map kD))) S := @tup1 (.str s.1) (.lst (s.2.1.map kD)) _
      have i2 : ∀ S, ixW (.d (spD s)) (.d (.int 2)) S = .ok (.d (.lst (s.2.2.map wD))) S := @tup2 (.str s.1) (.lst (s.2.1.map kD)) (.lst (s.2.2.map wD)) _
      clear h hs
      walk_at "ev")]
  clear h ht
  walk_at "ev"
/-! the number of a kind, its cost -/
theorem kn_loop (p0 : Option W) (a : Str) : ∀ (l : List Kd) (s : Nat), a ∈ l.map (·.1) → ∃ i k, loopF (evG (.tup (.cons (.nm 2) (.cons (.nm 3) .nil)))) (evK t12 b12_1) [2, 3] 0 (enmL s (l.map kD)) [p0, some (.d (.str a)), none, none] [] = .rt (.d (.int ((s + i : Nat) : Int))) [] ∧ l[i]? = some k ∧ k.1 = a
  | [], s, h => by simp at h
  | k :: l, s, h => by
    have tg : evG (.tup (.cons (.nm 2) (.cons (.nm 3) .nil))) (.d (.tup [.int (s : Int), kD k])) [p0, some (.d (.str a)), none, none] [] = some [p0, some (.d (.str a)), some (.d (.int (s : Int))), some (.d (kD k))] := by walk_at "ev"
    have i0 : ∀ S, ixW (.d (kD k)) (.d (.int 0)) S = .ok (.d (.str k.1)) S := @tup0 (.str k.1) _
    have en : enmL s ((k :: l).map kD) = .d (.tup [.int (s : Int), kD k]) :: enmL (s + 1) (l.map kD) := rfl
    rw [en]
    by_cases q : k.1 = a
    · have dq : decide (k.1 = a) = true := decide_eq_true q
      refine ⟨0, k, ?_, rfl, q⟩
      rw [loopF_retK (z := .d (.int (s : Int))) (S2 := []) tg (by
        unfold b12_1
        clear h q
        walk_at "ev")]
      rfl
    · have dq : decide (k.1 = a) = false := decide_eq_false q
      obtain ⟨i, k', e1, e2, e3⟩ := kn_loop p0 a l (s + 1) (by
        rw [List.map_cons] at h
        rcases List.mem_cons.mp h with e | h
        · exact absurd e.symm q
        · exact h)
      refine ⟨i + 1, k', ?_, e2, e3⟩
      rw [loopF_stepK (e2 := [p0, some (.d (.str a)), some (.d (.int (s : Int))), some (.d (kD k))]) (S2 := []) tg (by
        unfold b12_1
        clear h q e1
        walk_at "ev") (by simp)]
      rw [show s + (i + 1) = s + 1 + i by omega]
      exact e1
theorem kindnum_ok (s : Spc) (a : Str) (h : a ∈ s.2.1.map (·.1)) : ∃ i k, (∀ e S, callF F12 [.d (taskD s), .d (.str a)] e [] S = .ok (.d (.int ((i : Nat) : Int))) S) ∧ s.2.1[i]? = some k ∧ k.1 = a := by
  obtain ⟨i, k, e1, e2, e3⟩ := kn_loop (some (.d (taskD s))) a s.2.1 0 h
  refine ⟨i, k, fun e S => callF_d rfl ?_, e2, e3⟩
  have fk := task_kinds s
  rw [Nat.zero_add] at e1
  unfold F12 b12
  refine run_rt rfl (S' := []) ?_
  clear h e2 e3
  walk_at "ev"
theorem ins_ok (s : Spc) (m : Str) (h : ((["name", "kinds", "ways"] : List Str).contains m) = false) : ∀ S, insOk S "Task" m (.d (taskD s)) = true := fun S => by
  show (decide (("Task" : Str) = "Task") && !((["name", "kinds", "ways"] : List Str).contains m)) = true
  rw [h]
  rfl
/-! loops, once more -/
theorem loopF_stepT {g : G} {t : Tb} {b : B} {ks : List Nat} {n : Nat} {w : W} {ws : List W} {e e1 e2 e3 : Env'} {S S2 S3 : Sto} (h1 : evG g w e S = some e1) (h2 : evB t b e1 S = .nx e2 S2) (hk : kill e2 ks = e3) (ht : trim n e3 S2 = S3) : loopF (evG g) (evK t b) ks n (w :: ws) e S = loopF (evG g) (evK t b) ks n ws e3 S3 := by
  have hb : evK t b e1 S = .nx e2 S2 := h2
  conv => lhs; unfold loopF
  rw [h1]
  dsimp only
  rw [hb]
  dsimp only
  rw [hk, ht]
theorem loopF_fold {γ σ : Type} {g : G} {t : Tb} {b : B} {ks : List Nat} {S : Sto} {w : γ → W} (ev : σ → Env') (step : σ → γ → σ) (I : σ → Prop) : ∀ (l : List γ) (s : σ), I s → (∀ a ∈ l, ∀ s, I s → ∃ e1 e2, evG g (w a) (ev s) S = some e1 ∧ evB t b e1 S = .nx e2 S ∧ kill e2 ks = ev (step s a) ∧ I (step s a)) →
    loopF (evG g) (evK t b) ks S.length (l.map w) (ev s) S = .nx (ev (l.foldl step s)) S ∧ I (l.foldl step s)
  | [], s, hs, _ => ⟨by simp [loopF], hs⟩
  | a :: l, s, hs, h => by
    obtain ⟨e1, e2, h1, h2, h3, h4⟩ := h a List.mem_cons_self s hs
    have ih := loopF_fold ev step I l (step s a) h4 fun a ha => h a (List.mem_cons_of_mem _ ha)
    rw [List.map_cons, loopF_stepK h1 h2 (Nat.le_refl _), h3, List.foldl_cons]
    exact ih
theorem sl6 {l : List D} {i : Int} (h : 0 ≤ i) : ∀ S, slW true (.d (.tup l)) none (some i) S = .ok (.d (.tup (l.take i.toNat))) S := fun S => by
  show ok1 (.tup (cutD l none (some i))) S = _
  rw [cut2 h]
  rfl
theorem allInt_ints (l : List Int) : allInt (l.map .int) = some l := by
  have := allInt_map (fun i : Int => i) l
  simpa using this
theorem su1 (l : List Int) : ∀ S, biW true .sum [.d (.tup (l.map .int))] S = .ok (.d (.int l.sum)) S := fun S => by
  show optR ((allInt (l.map .int)).map fun l => .int l.sum) S = _
  rw [allInt_ints]
  rfl
theorem su2 (l : List Int) : ∀ S, biW true .sum [.d (.lst (l.map .int))] S = .ok (.d (.int l.sum)) S := fun S => by
  show optR ((allInt (l.map .int)).map fun l => .int l.sum) S = _
  rw [allInt_ints]
  rfl
theorem callF_pb {F : Fn} {ws : List W} {e : Env'} {i : Nat} {l : List D} {r : D} {S : Sto} (he : e[i]? = some (some (.m 0))) (hw : renWs [0] ws = some ws) (h : F ws [some (.lst l)] = .ok (.d r) [some (.lst l)]) : callF F ws e [(i, [])] (some (.lst l) :: S) = .ok (.d r) (some (.lst l) :: S) := by
  unfold callF
  simp [plcs, plc, he, hw, subS, renO, h, flatS, wbW, wbS]
theorem mx2 {m : List Int} (h : m ≠ []) : ∀ S, biW true .max [.d (.lst (m.map .int))] S = .ok (.d (.int (maxL m))) S := fun S => by
  cases m with
  | nil => exact absurd rfl h
  | cons a l =>
    show (match allInt ((a :: l).map .int) with
      | some (a :: l) => ok1 (.int (maxL (a :: l))) S
      | _ => R.st) = _
    rw [allInt_ints]
    rfl
theorem ixM {l : List D} {x : D} {i : Int} (h : atI l i = some x) : ∀ S, ixW (.m 0) (.d (.int i)) (some (.lst l) :: S) = .ok (.d x) (some (.lst l) :: S) := fun S => by
  show (match atI l i with
    | some x => ok1 x (some (.lst l) :: S)
    | none => R.st) = _
  rw [h]
  rfl
/-! ### what a table supplies -/
def csl (tb : List Int) (m : Nat) : Int := tb.getD (m % tb.length) 0
def cum (tb : List Int) : Nat → Int
  | 0 => 0
  | m + 1 => cum tb m + csl tb m
theorem take_sum (tb : List Int) (r : Nat) (h : r < tb.length) : (tb.take (r + 1)).sum = (tb.take r).sum + tb.getD r 0 := by
  rw [List.take_succ, List.sum_append, List.getElem?_eq_getElem h, List.getD_eq_getElem?_getD, List.getElem?_eq_getElem h]
  simp
theorem first_eq (tb : List Int) (h : 1 ≤ tb.length) : ∀ m : Nat, ((m / tb.length : Nat) : Int) * tb.sum + (tb.take (m % tb.length)).sum = cum tb m
  | 0 => by simp [cum]
  | m + 1 => by
    have ih := first_eq tb h m
    have hr : m % tb.length < tb.length := Nat.mod_lt _ h
    have dm := Nat.div_add_mod m tb.length
    have eq : m + 1 = tb.length * (m / tb.length) + (m % tb.length + 1) := by omega
    have e1 : (m + 1) / tb.length = m / tb.length + (m % tb.length + 1) / tb.length := by
      rw [← Nat.mul_add_div h, ← eq]
    have e2 : (m + 1) % tb.length = (m % tb.length + 1) % tb.length := by
      rw [← Nat.mul_add_mod tb.length (m / tb.length) (m % tb.length + 1), ← eq]
    have ts := take_sum tb _ hr
    show _ = cum tb m + tb.getD (m % tb.length) 0
    rw [← ih, e1, e2]
    by_cases q : m % tb.length + 1 < tb.length
    · rw [Nat.div_eq_of_lt q, Nat.mod_eq_of_lt q, ts, Nat.add_zero]
      omega
    · have e : m % tb.length + 1 = tb.length := by omega
      rw [e, Nat.div_self h, Nat.mod_self]
      rw [e, List.take_of_length_le (Nat.le_refl _)] at ts
      rw [Int.natCast_add, Int.add_mul, List.take_zero]
      simp only [Int.natCast_one, Int.one_mul, List.sum_nil]
      omega
theorem first_ok (tb : List Int) (h : 1 ≤ tb.length) (h2 : tb.length ≤ 1001) (m : Nat) (hm : m ≤ 10000) : ∀ e S, callF F17 [.d (.tup (tb.map .int)), .d (.int (m : Int))] e [] S = .ok (.d (.int (cum tb m))) S := fun e S => by
  have ln : ∀ S, biW true .len [.d (.tup (tb.map .int))] S = .ok (.d (.int (tb.length : Int))) S := fun S => by rw [bu3, List.length_map]
  have dv : ∀ S, biW true .divmod [.d (.int (m : Int)), .d (.int (tb.length : Int))] S = .ok (.d (.tup [.int ((m : Int) / (tb.length : Int)), .int ((m : Int) % (tb.length : Int))])) S := fun S => if_pos (by omega)
  have r0 : 0 ≤ (m : Int) % (tb.length : Int) := Int.emod_nonneg _ (by omega)
  have sl : ∀ S, slW true (.d (.tup (tb.map .int))) none (some ((m : Int) % (tb.length : Int))) S = .ok (.d (.tup ((tb.take (m % tb.length)).map .int))) S := fun S => by
    rw [sl6 r0, ← List.map_take]
    rfl
  have s1 := su1 tb
  have s2 := su1 (tb.take (m % tb.length))
  have mo : mulOk ((m : Int) / (tb.length : Int)) tb.sum = true := by
    refine decide_eq_true (.inl ?_)
    have : m / tb.length ≤ m := Nat.div_le_self _ _
    show (((m / tb.length : Nat) : Int)).natAbs < 2 ^ 64
    rw [Int.natAbs_natCast]
    exact Nat.lt_of_le_of_lt this (by omega)
  have fe : (m : Int) / (tb.length : Int) * tb.sum + (tb.take (m % tb.length)).sum = cum tb m := first_eq tb h m
  rw [← fe]
  refine callF_d rfl ?_
  unfold F17 b17
  refine run_rt rfl (S' := []) ?_
  clear h h2 hm fe r0
  walk_at "ev"
def win (tb : List Int) (a L : Nat) : Int := cum tb (a + L) - cum tb a
theorem supply_ok (tb : List Int) (h : 1 ≤ tb.length) (h2 : tb.length ≤ 1001) (a L : Nat) (hm : a + L ≤ 10000) : ∀ e S, callF F18 [.d (.tup (tb.map .int)), .d (.int (a : Int)), .d (.int ((a + L : Nat) : Int))] e [] S = .ok (.d (.int (win tb a L))) S := fun e S => by
  have f1 := first_ok tb h h2 a (by omega)
  have f2 := first_ok tb h h2 (a + L) hm
  refine callF_d rfl ?_
  unfold F18 b18
  refine run_rt rfl (S' := []) ?_
  by_cases q : L = 0
  · subst q
    have d1 : decide (((a + 0 : Nat) : Int) ≤ (a : Int)) = true := decide_eq_true (by omega)
    have w0 : win tb a 0 = 0 := by
      unfold win
      rw [Nat.add_zero]
      omega
    rw [w0]
    clear h h2 hm f1 f2 w0
    walk_at "ev"
  · have d1 : decide (((a + L : Nat) : Int) ≤ (a : Int)) = false := decide_eq_false (by omega)
    unfold win
    clear h h2 hm q
    walk_at "ev"
def lsS (tb : List Int) (L : Nat) (b : Int) (a : Nat) : Int := if win tb a L < b then win tb a L else b
def lsup (tb : List Int) (L : Nat) : Int := (List.range' 1 (tb.length - 1)).foldl (lsS tb L) (win tb 0 L)
theorem lsup_ok (tb : List Int) (h : 1 ≤ tb.length) (h2 : tb.length ≤ 1001) (L : Nat) (hm : L ≤ 5000) : ∀ e S, callF F19 [.d (.tup (tb.map .int)), .d (.int (L : Int))] e [] S = .ok (.d (.int (lsup tb L))) S := fun e S => by
  have ln : ∀ S, biW true .len [.d (.tup (tb.map .int))] S = .ok (.d (.int (tb.length : Int))) S := fun S => by rw [bu3, List.length_map]
  have s0 : ∀ e S, callF F18 [.d (.tup (tb.map .int)), .d (.int 0), .d (.int (L : Int))] e [] S = .ok (.d (.int (win tb 0 L))) S := by
    have := supply_ok tb h h2 0 L (by omega)
    rw [Nat.zero_add] at this
    exact this
  have rk : rngOk (tb.length : Int) = true := by unfold rngOk; simp; omega
  have rk1 : rngOk 1 = true := rfl
  have rg : rngL 1 ((tb.length : Int) - 1).toNat = (List.range' 1 (tb.length - 1)).map fun k : Nat => W.d (.int (k : Int)) := by
    have := rng_from 1 (tb.length - 1)
    rw [← this]
    congr 1
    omega
  have lp := (loopF_fold (g := .nm 3) (t := t19) (b := b19_1) (ks := [3]) (S := []) (w := fun k : Nat => W.d (.int (k : Int))) (fun b : Int => [some (.d (.tup (tb.map .int))), some (.d (.int (L : Int))), some (.d (.int b)), none]) (lsS tb L) (fun _ => True) (List.range' 1 (tb.length - 1)) (win tb 0 L) trivial (fun a ha s _ => by
    have ha : a < tb.length := by
      rw [List.mem_range'_1] at ha
      omega
    refine ⟨[some (.d (.tup (tb.map .int))), some (.d (.int (L : Int))), some (.d (.int s)), some (.d (.int (a : Int)))], [some (.d (.tup (tb.map .int))), some (.d (.int (L : Int))), some (.d (.int (lsS tb L s a))), some (.d (.int (a : Int)))], by rw [eg1]; rfl, ?_, rfl, trivial⟩
    have s1 : ∀ e S, callF F18 [.d (.tup (tb.map .int)), .d (.int (a : Int)), .d (.int ((a : Int) + (L : Int)))] e [] S = .ok (.d (.int (win tb a L))) S := supply_ok tb h h2 a L (by omega)
    have mn : ∀ S, biW true .min [.d (.int s), .d (.int (win tb a L))] S = .ok (.d (.int (lsS tb L s a))) S := fun S => rfl
    unfold b19_1
    clear h h2 hm ha s0 rg ln
    walk_at "ev")).1
  have lp' : loopF (evG (.nm 3)) (evK t19 b19_1) [3] 0 (rngL 1 ((tb.length : Int) - 1).toNat) [some (.d (.tup (tb.map .int))), some (.d (.int (L : Int))), some (.d (.int (win tb 0 L))), none] [] = .nx [some (.d (.tup (tb.map .int))), some (.d (.int (L : Int))), some (.d (.int (lsup tb L))), none] [] := by
    rw [rg]
    exact lp
  refine callF_d rfl ?_
  unfold F19 b19
  refine run_rt rfl (S' := []) ?_
  clear h h2 hm lp rg
  walk_at "ev"
/-! the same, slot by slot -/
def okTb (tb : List Int) : Prop := 1 ≤ tb.length ∧ tb.length ≤ 1001 ∧ ∀ x ∈ tb, 0 ≤ x ∧ x ≤ 1000000
theorem csl_ok (tb : List Int) (h : okTb tb) (m : Nat) : 0 ≤ csl tb m ∧ csl tb m ≤ 1000000 := by
  have hl : m % tb.length < tb.length := Nat.mod_lt _ h.1
  unfold csl
  rw [List.getD_eq_getElem?_getD, List.getElem?_eq_getElem hl]
  exact h.2.2 _ (List.getElem_mem hl)
theorem win_sum (tb : List Int) (a : Nat) : ∀ L, ((List.range' a L).map (csl tb)).sum = win tb a L
  | 0 => by
    unfold win
    rw [Nat.add_zero]
    simp
  | L + 1 => by
    have ih := win_sum tb a L
    rw [List.range'_concat, List.map_append, List.sum_append, ih]
    unfold win
    show _ = cum tb (a + L) + csl tb (a + L) - cum tb a
    simp only [List.map_cons, List.map_nil, List.sum_cons, List.sum_nil, Nat.one_mul]
    omega
theorem win_ok (tb : List Int) (h : okTb tb) (a : Nat) : ∀ L, 0 ≤ win tb a L ∧ win tb a L ≤ 1000000 * L
  | 0 => by
    unfold win
    rw [Nat.add_zero]
    omega
  | L + 1 => by
    have ih := win_ok tb h a L
    have c := csl_ok tb h (a + L)
    have e : win tb a (L + 1) = win tb a L + csl tb (a + L) := by
      unfold win
      show cum tb (a + L) + csl tb (a + L) - cum tb a = _
      omega
    rw [e]
    omega
def llS (tb : List Int) (L : Nat) (b : Int) (a : Nat) : Int := if b < 0 ∨ win tb a L < b then win tb a L else b
theorem ls_fold (tb : List Int) (h : okTb tb) (L : Nat) : ∀ (l : List Nat) (b : Int), 0 ≤ b → l.foldl (llS tb L) b = l.foldl (lsS tb L) b ∧ 0 ≤ l.foldl (lsS tb L) b
  | [], b, hb => ⟨rfl, hb⟩
  | a :: l, b, hb => by
    have w := (win_ok tb h a L).1
    have e : llS tb L b a = lsS tb L b a := by
      unfold llS lsS
      by_cases q : win tb a L < b
      · rw [if_pos q, if_pos (.inr q)]
      · rw [if_neg q, if_neg (by omega)]
    have e0 : 0 ≤ lsS tb L b a := by
      unfold lsS
      split <;> omega
    rw [List.foldl_cons, List.foldl_cons, e]
    exact ls_fold tb h L l _ e0
theorem ls_le (tb : List Int) (L : Nat) : ∀ (l : List Nat) (b : Int), l.foldl (lsS tb L) b ≤ b
  | [], b => Int.le_refl b
  | a :: l, b => by
    have ih := ls_le tb L l (lsS tb L b a)
    have : lsS tb L b a ≤ b := by
      unfold lsS
      split <;> omega
    rw [List.foldl_cons]
    omega
theorem lsup_range (tb : List Int) (h : okTb tb) (L : Nat) : 0 ≤ lsup tb L ∧ lsup tb L ≤ 1000000 * L := by
  have w := win_ok tb h 0 L
  have := ls_le tb L (List.range' 1 (tb.length - 1)) (win tb 0 L)
  refine ⟨(ls_fold tb h L _ _ w.1).2, ?_⟩
  unfold lsup
  omega
theorem ll_eq (tb : List Int) (h : okTb tb) (L : Nat) : (List.range' 0 tb.length).foldl (llS tb L) (-1) = lsup tb L := by
  obtain ⟨k, hk⟩ : ∃ k, tb.length = k + 1 := ⟨tb.length - 1, by have := h.1; omega⟩
  have w := win_ok tb h 0 L
  unfold lsup
  rw [hk, List.range'_succ, List.foldl_cons]
  have e : llS tb L (-1) 0 = win tb 0 L := by
    unfold llS
    rw [if_pos (.inl (by decide))]
  rw [e]
  exact (ls_fold tb h L _ _ w.1).1
theorem llsup_ok (tb : List Int) (h : okTb tb) (L : Nat) (hm : L ≤ 5000) : ∀ e S, callF F10 [.d (.lst (tb.map .int)), .d (.int (L : Int))] e [] S = .ok (.d (.int (lsup tb L))) S := fun e S => by
  have ln : ∀ S, biW true .len [.d (.lst (tb.map .int))] S = .ok (.d (.int (tb.length : Int))) S := fun S => by rw [bu2, List.length_map]
  have rk : rngOk (tb.length : Int) = true := by unfold rngOk; have := h.1; have := h.2.1; simp; omega
  have rg : rngL 0 ((tb.length : Int)).toNat = (List.range' 0 tb.length).map fun k : Nat => W.d (.int (k : Int)) := rng_nat _
  have lp := (loopF_fold (g := .nm 3) (t := t10) (b := b10_1) (ks := [3, 4]) (S := []) (w := fun k : Nat => W.d (.int (k : Int))) (fun b : Int => [some (.d (.lst (tb.map .int))), some (.d (.int (L : Int))), some (.d (.int b)), none, none, none]) (llS tb L) (fun _ => True) (List.range' 0 tb.length) (-1) trivial (fun a ha s _ => by
    have ha : a < tb.length := by
      rw [List.mem_range'_1] at ha
      omega
    refine ⟨[some (.d (.lst (tb.map .int))), some (.d (.int (L : Int))), some (.d (.int s)), some (.d (.int (a : Int))), none, none], [some (.d (.lst (tb.map .int))), some (.d (.int (L : Int))), some (.d (.int (llS tb L s a))), some (.d (.int (a : Int))), some (.d (.int (win tb a L))), none], by rw [eg1]; rfl, ?_, rfl, trivial⟩
    have rg2 : rngL (a : Int) ((a : Int) + (L : Int) - (a : Int)).toNat = (List.range' a L).map fun k : Nat => W.d (.int (k : Int)) := by
      rw [← rng_from]
      congr 1
      omega
    have ra : rngOk (a : Int) = true := by unfold rngOk; have := h.2.1; simp; omega
    have rb : rngOk ((a : Int) + (L : Int)) = true := by unfold rngOk; have := h.2.1; simp; omega
    have zl : L ≤ sizeLine := small (by omega)
    have hi : ∀ i S, biW true .int [.d (.int i)] S = .ok (.d (.int i)) S := fun i S => rfl
    have h0 : (0 : Int) < (tb.length : Int) := by have := h.1; omega
    have lc : ∀ S, loopC (evG (.nm 5)) (evTK t10 .yes) (evEK t10 (.ix (.var 0) (.op true .mod (.bi true .int (.cons (.var 5) .nil)) (.bi true .len (.cons (.var 0) .nil))))) ((List.range' a L).map fun k : Nat => W.d (.int (k : Int))) [some (.d (.lst (tb.map .int))), some (.d (.int (L : Int))), some (.d (.int s)), some (.d (.int (a : Int))), none, none] [] S = .ok (((List.range' a L).map (csl tb)).map .int) S := fun S => by
      rw [List.map_map]
      refine loopC_all0 (g := fun k : Nat => W.d (.int (k : Int))) (f := D.int ∘ csl tb) (fun k hk => ⟨[some (.d (.lst (tb.map .int))), some (.d (.int (L : Int))), some (.d (.int s)), some (.d (.int (a : Int))), none, some (.d (.int (k : Int)))], by rw [eg1]; rfl, rfl, ?_⟩) (by rw [List.length_range']; exact zl)
      have hl : k % tb.length < tb.length := Nat.mod_lt _ h.1
      have md : ∀ S, bin true .mod (.d (.int (k : Int))) (.d (.int (tb.length : Int))) S = .ok (.d (.int ((k % tb.length : Nat) : Int))) S := fun S => bi4 h0
      have ix : ∀ S, ixW (.d (.lst (tb.map .int))) (.d (.int ((k % tb.length : Nat) : Int))) S = .ok (.d (.int (csl tb k))) S := fun S => by
        refine ixl (atI_map (atN (by omega) ?_))
        unfold csl
        rw [Int.toNat_natCast, List.getD_eq_getElem?_getD, List.getElem?_eq_getElem hl]
        rfl
      show _ = R.ok (W.d (.int (csl tb k))) S
      clear h hm ha hl hk h0 rg rg2
      walk_at "ev"
    have s2 := su2 ((List.range' a L).map (csl tb))
    rw [win_sum] at s2
    have d1 : ∀ S, cmpW .lt (.d (.int s)) (.d (.int 0)) S = some (decide (s < 0)) := fun _ => rfl
    have d2 : ∀ S, cmpW .lt (.d (.int (win tb a L))) (.d (.int s)) S = some (decide (win tb a L < s)) := fun _ => rfl
    unfold b10_1 llS
    clear h hm ha rg h0
    cases q1 : decide (s < 0) with
    | true =>
      rw [if_pos (.inl (of_decide_eq_true q1))]
      walk_at "ev"
    | false =>
      cases q2 : decide (win tb a L < s) with
      | true =>
        rw [if_pos (.inr (of_decide_eq_true q2))]
        walk_at "ev"
      | false =>
        rw [if_neg (fun o => o.elim (of_decide_eq_false q1) (of_decide_eq_false q2))]
        walk_at "ev")).1
  rw [ll_eq tb h L] at lp
  have lp' : loopF (evG (.nm 3)) (evK t10 b10_1) [3, 4] 0 (rngL 0 ((tb.length : Int)).toNat) [some (.d (.lst (tb.map .int))), some (.d (.int (L : Int))), some (.d (.int (-1))), none, none, none] [] = .nx [some (.d (.lst (tb.map .int))), some (.d (.int (L : Int))), some (.d (.int (lsup tb L))), none, none, none] [] := by
    rw [rg]
    exact lp
  refine callF_d rfl ?_
  unfold F10 b10
  refine run_rt rfl (S' := []) ?_
  clear h hm lp rg
  walk_at "ev"
/-! ### the demand -/
def kix : List Kd → Str → Nat
  | [], _ => 0
  | k :: l, a => if k.1 = a then 0 else kix l a + 1
theorem kix_at : ∀ {ks : List Kd} {i : Nat} {k : Kd} {a : Str}, (ks.map (·.1)).Nodup → ks[i]? = some k → k.1 = a → kix ks a = i
  | [], i, k, a, _, h, _ => by simp at h
  | x :: l, 0, k, a, _, h, q => by
    simp at h
    subst h
    unfold kix
    rw [if_pos q]
  | x :: l, i + 1, k, a, nd, h, q => by
    rw [List.map_cons, List.nodup_cons] at nd
    have h' : l[i]? = some k := by simpa using h
    have hm : a ∈ l.map (·.1) := by
      rw [← q]
      exact List.mem_map_of_mem (f := fun k : Kd => k.1) (List.mem_of_getElem? h')
    unfold kix
    rw [if_neg (fun e => nd.1 (by rw [e]; exact hm)), kix_at nd.2 h' q]
theorem knum_ok (s : Spc) (hs : okS s) (a : Str) (h : a ∈ s.2.1.map (·.1)) : (∀ e S, callF F12 [.d (taskD s), .d (.str a)] e [] S = .ok (.d (.int ((kix s.2.1 a : Nat) : Int))) S) ∧ kix s.2.1 a < s.2.1.length := by
  obtain ⟨i, k, e1, e2, e3⟩ := kindnum_ok s a h
  have e := kix_at hs.2.1.2.2.1 e2 e3
  rw [e]
  exact ⟨e1, (List.getElem?_eq_some_iff.mp e2).1⟩
def own (k : Kd) (n : Nat) : Int := if k.2.2 ≤ (n : Int) then k.2.1 else 0
theorem own_ok (k : Kd) (n : Nat) : ∀ e S, callF F11 [.d (kD k), .d (.int (n : Int))] e [] S = .ok (.d (.int (own k n))) S := fun e S => by
  have i1 : ∀ S, ixW (.d (kD k)) (.d (.int 1)) S = .ok (.d (.int k.2.1)) S := @tup1 (.str k.1) (.int k.2.1) _
  have i2 : ∀ S, ixW (.d (kD k)) (.d (.int 2)) S = .ok (.d (.int k.2.2)) S := @tup2 (.str k.1) (.int k.2.1) (.int k.2.2) _
  refine callF_d rfl ?_
  unfold F11 b11
  refine run_rt rfl (S' := []) ?_
  unfold own
  by_cases q : k.2.2 ≤ (n : Int)
  · have d : decide (k.2.2 ≤ (n : Int)) = true := decide_eq_true q
    rw [if_pos q]
    clear q
    walk_at "ev"
  · have d : decide (k.2.2 ≤ (n : Int)) = false := decide_eq_false q
    rw [if_neg q]
    clear q
    walk_at "ev"
def tdD (w : Wy) : D := .tup [.str w.2.1, .int w.2.2]
theorem wfrom_ok (s : Spc) (hs : okS s) (a : Str) (h : a ∈ s.2.1.map (·.1)) : ∀ e S, callF F13 [.d (taskD s), .d (.str a)] e [] S = .ok (.d (.lst ((s.2.2.filter fun w => decide (w.1 = a)).map tdD))) S := fun e S => by
  have kn := (knum_ok s hs a h).1
  have io := ins_ok s "kind_number" (by decide)
  have fw := task_ways s
  have zw : s.2.2.length ≤ sizeLine := small (by have := hs.2.2.1; omega)
  have lc : ∀ S, loopC (evG (.nm 2)) (evTK t13 (.cmp .eq (.ix (.var 2) (.int 0)) (.var 1))) (evEK t13 (.tup (.cons (.ix (.var 2) (.int 1)) (.cons (.ix (.var 2) (.int 2)) .nil)))) ((s.2.2.map wD).map W.d) [some (.d (taskD s)), some (.d (.str a)), none] [] S = .ok ((s.2.2.filter fun w => decide (w.1 = a)).map tdD) S := fun S => by
    rw [map_md]
    refine loopC_sel (g := fun w : Wy => W.d (wD w)) (f := tdD) (p := fun w => decide (w.1 = a)) (fun w hw => ⟨[some (.d (taskD s)), some (.d (.str a)), some (.d (wD w))], by rw [eg1]; rfl, ?_, fun _ => ?_⟩) zw
    · have i0 : ∀ S, ixW (.d (wD w)) (.d (.int 0)) S = .ok (.d (.str w.1)) S := @tup0 (.str w.1) _
      clear hs h hw
      walk_at "ev"
    · have i1 : ∀ S, ixW (.d (wD w)) (.d (.int 1)) S = .ok (.d (.str w.2.1)) S := @tup1 (.str w.1) (.str w.2.1) _
      have i2 : ∀ S, ixW (.d (wD w)) (.d (.int 2)) S = .ok (.d (.int w.2.2)) S := @tup2 (.str w.1) (.str w.2.1) (.int w.2.2) _
      show _ = R.ok (W.d (.tup [.str w.2.1, .int w.2.2])) S
      clear hs h hw
      walk_at "ev"
  refine callF_d rfl ?_
  unfold F13 b13
  refine run_rt rfl (S' := []) ?_
  clear hs h
  walk_at "ev"
def intR (r : List Int) : D := .lst (r.map .int)
def vl (P : List (List Int)) (ks : List Kd) (n : Nat) (w : Wy) : Int := (P.getD (n - w.2.2.toNat) []).getD (kix ks w.2.1) 0
def stq (P : List (List Int)) (ks : List Kd) (n : Nat) (b : Int) (w : Wy) : Int := if w.2.2 ≤ (n : Int) then (if vl P ks n w > b then vl P ks n w else b) else b
def bst (P : List (List Int)) (ks : List Kd) (ws : List Wy) (n : Nat) (a : Str) : Int := (ws.filter fun w => decide (w.1 = a)).foldl (stq P ks n) 0
def okP (ks : List Kd) (n : Nat) (P : List (List Int)) : Prop := P.length = n ∧ ∀ r ∈ P, r.length = ks.length ∧ ∀ x ∈ r, 0 ≤ x ∧ x ≤ 1000 * (n : Int)
theorem vl_at {ks : List Kd} {n : Nat} {P : List (List Int)} (hP : okP ks n P) (w : Wy) (h1 : 1 ≤ w.2.2) (h2 : w.2.2 ≤ (n : Int)) (hk : kix ks w.2.1 < ks.length) : ∃ r, r ∈ P ∧ P[n - w.2.2.toNat]? = some r ∧ r[kix ks w.2.1]? = some (vl P ks n w) ∧ 0 ≤ vl P ks n w ∧ vl P ks n w ≤ 1000 * (n : Int) := by
  have hi : n - w.2.2.toNat < P.length := by rw [hP.1]; omega
  have g := List.getElem?_eq_getElem hi
  have hm := List.getElem_mem hi
  obtain ⟨l1, l2⟩ := hP.2 _ hm
  have hj : kix ks w.2.1 < (P[n - w.2.2.toNat]).length := by rw [l1]; exact hk
  have e : vl P ks n w = (P[n - w.2.2.toNat])[kix ks w.2.1] := by
    have gp : P.getD (n - w.2.2.toNat) [] = P[n - w.2.2.toNat] := by
      rw [List.getD_eq_getElem?_getD, g]
      rfl
    unfold vl
    rw [gp, List.getD_eq_getElem?_getD, List.getElem?_eq_getElem hj]
    rfl
  refine ⟨_, hm, g, by rw [e]; exact List.getElem?_eq_getElem hj, ?_⟩
  rw [e]
  exact l2 _ (List.getElem_mem hj)
theorem bcont_run (s : Spc) (hs : okS s) (a : Str) (h : a ∈ s.2.1.map (·.1)) (n : Nat) (hn : n ≤ 1000) (P : List (List Int)) (hP : okP s.2.1 n P) : F14 [.d (taskD s), .d (.str a), .d (.int (n : Int)), .m 0] [some (.lst (P.map intR))] = .ok (.d (.int (bst P s.2.1 s.2.2 n a))) [some (.lst (P.map intR))] ∧ 0 ≤ bst P s.2.1 s.2.2 n a ∧ bst P s.2.1 s.2.2 n a ≤ 1000 * (n : Int) := by
  have wf := wfrom_ok s hs a h
  have io := ins_ok s "ways_from" (by decide)
  have io2 := ins_ok s "kind_number" (by decide)
  have lp := loopF_fold (g := .tup (.cons (.nm 5) (.cons (.nm 6) .nil))) (t := t14) (b := b14_1) (ks := [5, 6]) (S := [some (.lst (P.map intR))]) (w := fun w : Wy => W.d (tdD w)) (fun b : Int => [some (.d (taskD s)), some (.d (.str a)), some (.d (.int (n : Int))), some (.m 0), some (.d (.int b)), none, none]) (stq P s.2.1 n) (fun b => 0 ≤ b ∧ b ≤ 1000 * (n : Int)) (s.2.2.filter fun w => decide (w.1 = a)) 0 ⟨by decide, by omega⟩ (fun w hw b hb => by
    have hw := (List.mem_filter.mp hw).1
    obtain ⟨w1, w2, w3, w4⟩ := hs.2.2.2 w hw
    obtain ⟨kn, kl⟩ := knum_ok s hs w.2.1 w2
    have tg : evG (.tup (.cons (.nm 5) (.cons (.nm 6) .nil))) (.d (tdD w)) [some (.d (taskD s)), some (.d (.str a)), some (.d (.int (n : Int))), some (.m 0), some (.d (.int b)), none, none] [some (.lst (P.map intR))] = some [some (.d (taskD s)), some (.d (.str a)), some (.d (.int (n : Int))), some (.m 0), some (.d (.int b)), some (.d (.str w.2.1)), some (.d (.int w.2.2))] := by
      unfold tdD
      clear hs h hP hb hw w1 w2 w3 w4 kn kl wf io io2
      walk_at "ev"
    refine ⟨_, [some (.d (taskD s)), some (.d (.str a)), some (.d (.int (n : Int))), some (.m 0), some (.d (.int (stq P s.2.1 n b w))), some (.d (.str w.2.1)), some (.d (.int w.2.2))], tg, ?_, rfl, ?_⟩
    · unfold stq b14_1
      by_cases q : w.2.2 ≤ (n : Int)
      · have d : decide (w.2.2 ≤ (n : Int)) = true := decide_eq_true q
        obtain ⟨r, r1, r2, r3, r4, r5⟩ := vl_at hP w w3 q kl
        have x1 : ∀ S, ixW (.m 0) (.d (.int ((n : Int) - w.2.2))) (some (.lst (P.map intR)) :: S) = .ok (.d (intR r)) (some (.lst (P.map intR)) :: S) := ixM (atI_map (f := intR) (atN (by omega) (by
          have : ((n : Int) - w.2.2).toNat = n - w.2.2.toNat := by omega
          rw [this]
          exact r2)))
        have x2 : ∀ S, ixW (.d (intR r)) (.d (.int ((kix s.2.1 w.2.1 : Nat) : Int))) S = .ok (.d (.int (vl P s.2.1 n w))) S := fun S => ixl (atI_map (atN (by omega) (by rw [Int.toNat_natCast]; exact r3)))
        rw [if_pos q]
        clear hs h hP hb hw w1 w2 w3 w4 kl q r1 r2 r3 r4 r5 wf
        walk_at "ev"
      · have d : decide (w.2.2 ≤ (n : Int)) = false := decide_eq_false q
        rw [if_neg q]
        clear hs h hP hb hw w1 w2 w3 w4 kl q wf
        walk_at "ev"
    · unfold stq
      split
      · rename_i q
        obtain ⟨r, r1, r2, r3, r4, r5⟩ := vl_at hP w w3 q kl
        split <;> omega
      · exact hb)
  refine ⟨?_, lp.2⟩
  have lp' : loopF (evG (.tup (.cons (.nm 5) (.cons (.nm 6) .nil)))) (evK t14 b14_1) [5, 6] 1 (((s.2.2.filter fun w => decide (w.1 = a)).map tdD).map W.d) [some (.d (taskD s)), some (.d (.str a)), some (.d (.int (n : Int))), some (.m 0), some (.d (.int 0)), none, none] [some (.lst (P.map intR))] = .nx [some (.d (taskD s)), some (.d (.str a)), some (.d (.int (n : Int))), some (.m 0), some (.d (.int (bst P s.2.1 s.2.2 n a))), none, none] [some (.lst (P.map intR))] := by
    rw [map_md]
    exact lp.1
  unfold F14 b14
  refine run_rtS rfl (S' := [some (.lst (P.map intR))]) ?_ (by simp)
  clear hs h hP lp hn
  walk_at "ev"
def cel (P : List (List Int)) (ks : List Kd) (ws : List Wy) (n : Nat) (k : Kd) : Int := own k n + bst P ks ws n k.1
def rws (ks : List Kd) (ws : List Wy) : Nat → List (List Int)
  | 0 => []
  | n + 1 => rws ks ws n ++ [ks.map (cel (rws ks ws n) ks ws n)]
theorem bst_range (ks : List Kd) (ws : List Wy) (hw : ∀ w ∈ ws, kix ks w.2.1 < ks.length ∧ 1 ≤ w.2.2) (n : Nat) (P : List (List Int)) (hP : okP ks n P) (a : Str) : 0 ≤ bst P ks ws n a ∧ bst P ks ws n a ≤ 1000 * (n : Int) := by
  have g : ∀ (l : List Wy) (b : Int), (∀ w ∈ l, kix ks w.2.1 < ks.length ∧ 1 ≤ w.2.2) → 0 ≤ b ∧ b ≤ 1000 * (n : Int) → 0 ≤ l.foldl (stq P ks n) b ∧ l.foldl (stq P ks n) b ≤ 1000 * (n : Int) := fun l => by
    induction l with
    | nil => intro b _ hb; exact hb
    | cons w l ih =>
      intro b hl hb
      rw [List.foldl_cons]
      refine ih _ (fun w hw => hl w (List.mem_cons_of_mem _ hw)) ?_
      obtain ⟨k1, k2⟩ := hl w List.mem_cons_self
      unfold stq
      split
      · rename_i q
        obtain ⟨r, r1, r2, r3, r4, r5⟩ := vl_at hP w k2 q k1
        split <;> omega
      · exact hb
  exact g _ 0 (fun w hw' => hw w (List.mem_filter.mp hw').1) ⟨by decide, by omega⟩
theorem rws_ok (ks : List Kd) (ws : List Wy) (hk : ∀ k ∈ ks, 1 ≤ k.2.1 ∧ k.2.1 ≤ 1000) (hw : ∀ w ∈ ws, kix ks w.2.1 < ks.length ∧ 1 ≤ w.2.2) : ∀ n : Nat, okP ks n (rws ks ws n)
  | 0 => ⟨rfl, fun r hr => by cases hr⟩
  | n + 1 => by
    have ih := rws_ok ks ws hk hw n
    refine ⟨by show (rws ks ws n ++ [_]).length = n + 1; rw [List.length_append, ih.1]; rfl, fun r hr => ?_⟩
    rcases List.mem_append.mp (show r ∈ rws ks ws n ++ [ks.map (cel (rws ks ws n) ks ws n)] from hr) with hr | hr
    · obtain ⟨h1, h2⟩ := ih.2 r hr
      exact ⟨h1, fun x hx => by have := h2 x hx; omega⟩
    · rw [List.mem_singleton] at hr
      subst hr
      refine ⟨by rw [List.length_map], fun x hx => ?_⟩
      obtain ⟨k, hkm, rfl⟩ := List.mem_map.mp hx
      obtain ⟨b1, b2⟩ := bst_range ks ws hw n _ ih k.1
      obtain ⟨c1, c2⟩ := hk k hkm
      unfold cel own
      split <;> omega
theorem ways_kix (s : Spc) (hs : okS s) : ∀ w ∈ s.2.2, kix s.2.1 w.2.1 < s.2.1.length ∧ 1 ≤ w.2.2 := fun w hw => by
  obtain ⟨w1, w2, w3, w4⟩ := hs.2.2.2 w hw
  exact ⟨(knum_ok s hs w.2.1 w2).2, w3⟩
theorem rws_okS (s : Spc) (hs : okS s) (n : Nat) : okP s.2.1 n (rws s.2.1 s.2.2 n) := rws_ok _ _ (fun k hk => (hs.2.1.2.2.2 k hk).2.1) (ways_kix s hs) n
theorem kinds_row (s : Spc) (hs : okS s) (n : Nat) (hn : n ≤ 1000) (p1 : Option W) (P : List (List Int)) (hP : okP s.2.1 n P) : ∀ (l : List Kd) (acc : List Int), (∀ k ∈ l, k ∈ s.2.1) → acc.length + l.length ≤ 1000 →
    loopF (evG (.nm 5)) (evK t15 b15_2) [5] 2 (l.map fun k => .d (kD k)) [some (.d (taskD s)), p1, some (.m 0), some (.d (.int (n : Int))), some (.m 1), none] [some (.lst (P.map intR)), some (.lst (acc.map .int))] = .nx [some (.d (taskD s)), p1, some (.m 0), some (.d (.int (n : Int))), some (.m 1), none] [some (.lst (P.map intR)), some (.lst ((acc ++ l.map (cel P s.2.1 s.2.2 n)).map .int))]
  | [], acc, _, _ => by simp [loopF]
  | k :: l, acc, h, hz => by
    rw [List.length_cons] at hz
    have hk := h k List.mem_cons_self
    have hm : k.1 ∈ s.2.1.map (·.1) := List.mem_map_of_mem (f := fun k : Kd => k.1) hk
    have bc := (bcont_run s hs k.1 hm n hn P hP).1
    have cl : callF F14 [.d (taskD s), .d (.str k.1), .d (.int (n : Int)), .m 0] [some (.d (taskD s)), p1, some (.m 0), some (.d (.int (n : Int))), some (.m 1), some (.d (kD k))] [(2, [])] [some (.lst (P.map intR)), some (.lst (acc.map .int))] = .ok (.d (.int (bst P s.2.1 s.2.2 n k.1))) [some (.lst (P.map intR)), some (.lst (acc.map .int))] := callF_pb rfl rfl bc
    have ow := own_ok k n
    have i0 : ∀ S, ixW (.d (kD k)) (.d (.int 0)) S = .ok (.d (.str k.1)) S := @tup0 (.str k.1) _
    have al : acc.length < sizeLine := Nat.lt_of_lt_of_le (show acc.length < 1000 by omega) (small (by decide))
    have body : evB t15 b15_2 [some (.d (taskD s)), p1, some (.m 0), some (.d (.int (n : Int))), some (.m 1), some (.d (kD k))] [some (.lst (P.map intR)), some (.lst (acc.map .int))] = .nx [some (.d (taskD s)), p1, some (.m 0), some (.d (.int (n : Int))), some (.m 1), some (.d (kD k))] [some (.lst (P.map intR)), some (.lst ((acc ++ [cel P s.2.1 s.2.2 n k]).map .int))] := by
      have e : (acc ++ [cel P s.2.1 s.2.2 n k]).map D.int = acc.map .int ++ [.int (own k n + bst P s.2.1 s.2.2 n k.1)] := by rw [List.map_append]; rfl
      rw [e]
      unfold b15_2
      clear h hz hk hm bc hP hs hn e
      walk_at "ev"
    rw [List.map_cons, loopF_stepK (e1 := [some (.d (taskD s)), p1, some (.m 0), some (.d (.int (n : Int))), some (.m 1), some (.d (kD k))]) (by rw [eg1]; rfl) body (by simp)]
    have ih := kinds_row s hs n hn p1 P hP l (acc ++ [cel P s.2.1 s.2.2 n k]) (fun k hk => h k (List.mem_cons_of_mem _ hk)) (by rw [List.length_append, List.length_singleton]; omega)
    rw [List.append_assoc] at ih
    exact ih
theorem size_rows (s : Spc) (hs : okS s) (x1 : D) : ∀ (m n : Nat), n + m ≤ 1000 →
    loopF (evG (.nm 3)) (evK t15 b15_1) [3, 4, 5] 1 ((List.range' n m).map fun k : Nat => W.d (.int (k : Int))) [some (.d (taskD s)), some (.d x1), some (.m 0), none, none, none] [some (.lst ((rws s.2.1 s.2.2 n).map intR))] = .nx [some (.d (taskD s)), some (.d x1), some (.m 0), none, none, none] [some (.lst ((rws s.2.1 s.2.2 (n + m)).map intR))]
  | 0, n, _ => by simp [loopF]
  | m + 1, n, hz => by
    have hP := rws_okS s hs n
    have hlen : (rws s.2.1 s.2.2 n).length = n := hP.1
    have kl := hs.2.1.2.1
    obtain ⟨P, eP⟩ : ∃ P, P = rws s.2.1 s.2.2 n := ⟨_, rfl⟩
    have eR : rws s.2.1 s.2.2 (n + 1) = P ++ [s.2.1.map (cel P s.2.1 s.2.2 n)] := by rw [eP]; rfl
    rw [← eP] at hP hlen
    have kr := kinds_row s hs n (by omega) (some (.d x1)) P hP s.2.1 [] (fun k hk => hk) (by simp; omega)
    have kr' : loopF (evG (.nm 5)) (evK t15 b15_2) [5] 2 ((s.2.1.map kD).map W.d) [some (.d (taskD s)), some (.d x1), some (.m 0), some (.d (.int (n : Int))), some (.m 1), none] [some (.lst (P.map intR)), some (.lst [])] = .nx [some (.d (taskD s)), some (.d x1), some (.m 0), some (.d (.int (n : Int))), some (.m 1), none] [some (.lst (P.map intR)), some (.lst ((s.2.1.map (cel P s.2.1 s.2.2 n)).map .int))] := by
      rw [map_md]
      exact kr
    have fk := task_kinds s
    have al : P.length < sizeLine := Nat.lt_of_lt_of_le (show P.length < 1001 by omega) (small (by decide))
    have z0 : 0 ≤ sizeLine := Nat.zero_le _
    have body : evB t15 b15_1 [some (.d (taskD s)), some (.d x1), some (.m 0), some (.d (.int (n : Int))), none, none] [some (.lst (P.map intR))] = .nx [some (.d (taskD s)), some (.d x1), some (.m 0), some (.d (.int (n : Int))), some (.d (intR (s.2.1.map (cel P s.2.1 s.2.2 n)))), none] [some (.lst ((P ++ [s.2.1.map (cel P s.2.1 s.2.2 n)]).map intR)), none] := by
      have e : (P ++ [s.2.1.map (cel P s.2.1 s.2.2 n)]).map intR = P.map intR ++ [.lst ((s.2.1.map (cel P s.2.1 s.2.2 n)).map .int)] := by rw [List.map_append]; rfl
      rw [e]
      unfold b15_1 intR
      unfold intR at kr'
      clear hs hz hP hlen kl eP eR kr e
      walk_at "ev"
    rw [List.range'_succ, List.map_cons, ← eP, loopF_stepT (e1 := [some (.d (taskD s)), some (.d x1), some (.m 0), some (.d (.int (n : Int))), none, none]) (by rw [eg1]; rfl) body (e3 := [some (.d (taskD s)), some (.d x1), some (.m 0), none, none, none]) rfl (S3 := [some (.lst ((P ++ [s.2.1.map (cel P s.2.1 s.2.2 n)]).map intR))]) rfl, ← eR]
    have ih := size_rows s hs x1 m (n + 1) (by omega)
    rw [show n + (m + 1) = n + 1 + m by omega]
    exact ih
theorem rows_ok (s : Spc) (hs : okS s) (L : Nat) (hL : L ≤ 900) : ∀ e S, callF F15 [.d (taskD s), .d (.int (L : Int))] e [] S = .ok (.d (.lst ((rws s.2.1 s.2.2 (L + 1)).map intR))) S := fun e S => by
  have lp := size_rows s hs (.int (L : Int)) (L + 1) 0 (by omega)
  rw [Nat.zero_add] at lp
  have rk : rngOk ((L : Int) + 1) = true := rsz (by omega) (by omega)
  have rg : rngL 0 ((L : Int) + 1).toNat = (List.range' 0 (L + 1)).map fun k : Nat => W.d (.int (k : Int)) := rng_nat _
  have lp' : loopF (evG (.nm 3)) (evK t15 b15_1) [3, 4, 5] 1 (rngL 0 ((L : Int) + 1).toNat) [some (.d (taskD s)), some (.d (.int (L : Int))), some (.m 0), none, none, none] [some (.lst [])] = .nx [some (.d (taskD s)), some (.d (.int (L : Int))), some (.m 0), none, none, none] [some (.lst ((rws s.2.1 s.2.2 (L + 1)).map intR))] := by
    rw [rg]
    exact lp
  have z0 : 0 ≤ sizeLine := Nat.zero_le _
  clear lp rg
  obtain ⟨R, hR⟩ : ∃ R, R = rws s.2.1 s.2.2 (L + 1) := ⟨_, rfl⟩
  rw [← hR] at lp' ⊢
  obtain ⟨i, hi⟩ : ∃ i : Int, i = (L : Int) + 1 := ⟨_, rfl⟩
  have a1 : ∀ S, bin true .add (.d (.int (L : Int))) (.d (.int 1)) S = .ok (.d (.int i)) S := fun S => by rw [hi]; rfl
  rw [← hi] at lp' rk
  clear hR hi
  refine callF_d rfl ?_
  unfold F15 b15
  refine run_rt rfl (S' := [none]) ?_
  clear hs hL
  rw [seqB (e2 := [some (.d (taskD s)), some (.d (.int (L : Int))), some (.m 0), none, none, none]) (S2 := [some (.lst [])]) (by walk_at "ev")]
  rw [seqB (e2 := [some (.d (taskD s)), some (.d (.int (L : Int))), some (.m 0), none, none, none]) (S2 := [some (.lst (R.map intR))]) (by
    refine Eq.trans ?_ lp'
    clear lp'
    walk_at "ev")]
  clear lp'
  walk_at "ev"
def dms (s : Spc) (L : Nat) : List Int := (rws s.2.1 s.2.2 (L + 1)).map maxL
theorem row_ne (s : Spc) (hs : okS s) (n : Nat) : ∀ r ∈ rws s.2.1 s.2.2 n, r ≠ [] := fun r hr e => by
  have := ((rws_okS s hs n).2 r hr).1
  rw [e] at this
  have := hs.2.1.1
  simp at *
  omega
theorem demands_lc (s : Spc) (L : Nat) (R0 : List (List Int)) (hR : ∀ r ∈ R0, r ≠ []) (zl : R0.length ≤ sizeLine) : ∀ S, loopC (evG (.nm 2)) (evTK t16 .yes) (evEK t16 (.bi true .max (.cons (.var 2) .nil))) ((R0.map intR).map W.d) [some (.d (taskD s)), some (.d (.int (L : Int))), none] [] S = .ok ((R0.map maxL).map .int) S := fun S => by
  rw [map_md, List.map_map]
  refine loopC_all0 (g := fun r : List Int => W.d (intR r)) (f := D.int ∘ maxL) (fun r hr => ⟨[some (.d (taskD s)), some (.d (.int (L : Int))), some (.d (intR r))], by rw [eg1]; rfl, rfl, ?_⟩) zl
  have mx := mx2 (hR r hr)
  show _ = R.ok (W.d (.int (maxL r))) S
  unfold intR
  clear hR hr
  walk_at "ev"
theorem demands_run (s : Spc) (i : Int) (R0 : List (List Int)) (ro : ∀ e S, callF F15 [.d (taskD s), .d (.int i)] e [] S = .ok (.d (.lst (R0.map intR))) S) (lc : ∀ S, loopC (evG (.nm 2)) (evTK t16 .yes) (evEK t16 (.bi true .max (.cons (.var 2) .nil))) ((R0.map intR).map W.d) [some (.d (taskD s)), some (.d (.int i)), none] [] S = .ok ((R0.map maxL).map .int) S) : F16 [.d (taskD s), .d (.int i)] [] = .ok (.d (.lst ((R0.map maxL).map .int))) [] := by
  unfold F16 b16
  refine run_rt rfl (S' := []) ?_
  walk_at "ev"
theorem demands_ok (s : Spc) (hs : okS s) (L : Nat) (hL : L ≤ 900) : ∀ e S, callF F16 [.d (taskD s), .d (.int (L : Int))] e [] S = .ok (.d (.lst ((dms s L).map .int))) S := fun e S => by
  have zl : (rws s.2.1 s.2.2 (L + 1)).length ≤ sizeLine := small (by rw [(rws_okS s hs (L + 1)).1]; omega)
  exact callF_d rfl (demands_run s (L : Int) _ (rows_ok s hs L hL) (demands_lc s L _ (row_ne s hs (L + 1)) zl))
/-! the law's own totals -/
theorem ixM1 {l : List D} {x : D} {i : Int} (h : atI l i = some x) : ∀ o S, ixW (.m 1) (.d (.int i)) (o :: some (.lst l) :: S) = .ok (.d x) (o :: some (.lst l) :: S) := fun o S => by
  show (match atI l i with
    | some x => ok1 x (o :: some (.lst l) :: S)
    | none => R.st) = _
  rw [h]
  rfl
theorem lindex_loop (p0 : Option W) (ks : List Kd) (a : Str) : ∀ (l : List Kd) (s : Nat), (∀ (i : Nat) (k : Kd), l[i]? = some k → ks[s + i]? = some k) → a ∈ l.map (·.1) →
    loopF (evG (.nm 2)) (evK t8 b8_1) [2] 0 ((List.range' s l.length).map fun k : Nat => W.d (.int (k : Int))) [some (.d (.lst (ks.map kD))), some (.d (.str a)), none] [] = .rt (.d (.int ((s + kix l a : Nat) : Int))) []
  | [], s, hk, h => by simp at h
  | k :: l, s, hk, h => by
    have tg : evG (.nm 2) (.d (.int (s : Int))) [some (.d (.lst (ks.map kD))), some (.d (.str a)), none] [] = some [some (.d (.lst (ks.map kD))), some (.d (.str a)), some (.d (.int (s : Int)))] := by rw [eg1]; rfl
    have x1 : ∀ S, ixW (.d (.lst (ks.map kD))) (.d (.int (s : Int))) S = .ok (.d (kD k)) S := fun S => ixl (atI_map (f := kD) (atN (by omega) (by rw [Int.toNat_natCast]; exact hk 0 k rfl)))
    have i0 : ∀ S, ixW (.d (kD k)) (.d (.int 0)) S = .ok (.d (.str k.1)) S := @tup0 (.str k.1) _
    rw [List.length_cons, List.range'_succ, List.map_cons]
    by_cases q : k.1 = a
    · have dq : decide (k.1 = a) = true := decide_eq_true q
      rw [loopF_retK (z := .d (.int (s : Int))) (S2 := []) tg (by
        unfold b8_1
        clear h q hk
        walk_at "ev")]
      unfold kix
      rw [if_pos q]
      rfl
    · have dq : decide (k.1 = a) = false := decide_eq_false q
      have ih := lindex_loop p0 ks a l (s + 1) (fun i k' hi => by
        have := hk (i + 1) k' (by simpa using hi)
        rw [show s + 1 + i = s + (i + 1) by omega]
        exact this) (by
        rw [List.map_cons] at h
        rcases List.mem_cons.mp h with e | h
        · exact absurd e.symm q
        · exact h)
      rw [loopF_stepK (e2 := [some (.d (.lst (ks.map kD))), some (.d (.str a)), some (.d (.int (s : Int)))]) (S2 := []) tg (by
        unfold b8_1
        clear h q hk ih
        walk_at "ev") (by simp)]
      unfold kix
      rw [if_neg q, show s + (kix l a + 1) = s + 1 + kix l a by omega]
      exact ih
theorem lindex_ok (ks : List Kd) (a : Str) (h : a ∈ ks.map (·.1)) (hl : ks.length ≤ 8) : ∀ e S, callF F8 [.d (.lst (ks.map kD)), .d (.str a)] e [] S = .ok (.d (.int ((kix ks a : Nat) : Int))) S := fun e S => by
  have lp := lindex_loop none ks a ks 0 (fun i k hi => by rw [Nat.zero_add]; exact hi) h
  rw [Nat.zero_add, ← rng_nat] at lp
  have ln : ∀ S, biW true .len [.d (.lst (ks.map kD))] S = .ok (.d (.int (ks.length : Int))) S := fun S => by rw [bu2, List.length_map]
  have rk : rngOk (ks.length : Int) = true := rsz (by omega) (by omega)
  have tn : ((ks.length : Int)).toNat = ks.length := rfl
  refine callF_d rfl ?_
  unfold F8 b8
  refine run_rt rfl (S' := []) ?_
  clear h hl
  walk_at "ev"
/-- the best continuation, way by way -/
theorem tot_ways (s : Spc) (hs : okS s) (k : Kd) (n : Nat) (P : List (List Int)) (hP : okP s.2.1 n P) (o q : Option Ob) (i : Int) (hi : i = (n : Int)) (p0 p1 p3 p8 : Option W) :
    loopF (evG (.nm 11)) (evK t9 b9_4) [11] 3 (s.2.2.map fun w => W.d (wD w)) [p0, p1, some (.m 0), p3, some (.d (spD s)), some (.d (.lst (s.2.1.map kD))), some (.m 1), some (.d (.int i)), p8, some (.d (kD k)), some (.d (.int 0)), none] [o, some (.lst (P.map intR)), q] = .nx [p0, p1, some (.m 0), p3, some (.d (spD s)), some (.d (.lst (s.2.1.map kD))), some (.m 1), some (.d (.int i)), p8, some (.d (kD k)), some (.d (.int (bst P s.2.1 s.2.2 n k.1))), none] [o, some (.lst (P.map intR)), q] := by
  have lp := (loopF_fold (g := (.nm 11)) (t := t9) (b := b9_4) (ks := [11]) (S := [o, some (.lst (P.map intR)), q]) (w := fun w : Wy => W.d (wD w)) (fun b : Int => [p0, p1, some (.m 0), p3, some (.d (spD s)), some (.d (.lst (s.2.1.map kD))), some (.m 1), some (.d (.int i)), p8, some (.d (kD k)), some (.d (.int b)), none]) (fun b w => if decide (w.1 = k.1) then stq P s.2.1 n b w else b) (fun _ => True) s.2.2 0 trivial (fun w hw b _ => by
    obtain ⟨w1, w2, w3, w4⟩ := hs.2.2.2 w hw
    have kl := (knum_ok s hs w.2.1 w2).2
    have li := lindex_ok s.2.1 w.2.1 w2 hs.2.1.2.1
    refine ⟨[p0, p1, some (.m 0), p3, some (.d (spD s)), some (.d (.lst (s.2.1.map kD))), some (.m 1), some (.d (.int i)), p8, some (.d (kD k)), some (.d (.int b)), some (.d (wD w))], [p0, p1, some (.m 0), p3, some (.d (spD s)), some (.d (.lst (s.2.1.map kD))), some (.m 1), some (.d (.int i)), p8, some (.d (kD k)), some (.d (.int (if decide (w.1 = k.1) then stq P s.2.1 n b w else b))), some (.d (wD w))], by rw [eg1]; rfl, ?_, rfl, trivial⟩
    have i0 : ∀ S, ixW (.d (wD w)) (.d (.int 0)) S = .ok (.d (.str w.1)) S := @tup0 (.str w.1) _
    have i1 : ∀ S, ixW (.d (wD w)) (.d (.int 1)) S = .ok (.d (.str w.2.1)) S := @tup1 (.str w.1) (.str w.2.1) _
    have i2 : ∀ S, ixW (.d (wD w)) (.d (.int 2)) S = .ok (.d (.int w.2.2)) S := @tup2 (.str w.1) (.str w.2.1) (.int w.2.2) _
    have j0 : ∀ S, ixW (.d (kD k)) (.d (.int 0)) S = .ok (.d (.str k.1)) S := @tup0 (.str k.1) _
    unfold b9_4 stq
    by_cases q1 : w.1 = k.1
    · have d1 : decide (w.1 = k.1) = true := decide_eq_true q1
      rw [if_pos d1]
      by_cases q2 : w.2.2 ≤ (n : Int)
      · have d2 : decide (w.2.2 ≤ i) = true := decide_eq_true (by omega)
        obtain ⟨r, r1, r2, r3, r4, r5⟩ := vl_at hP w w3 q2 kl
        have x1 : ∀ o S, ixW (.m 1) (.d (.int (i - w.2.2))) (o :: some (.lst (P.map intR)) :: S) = .ok (.d (intR r)) (o :: some (.lst (P.map intR)) :: S) := ixM1 (atI_map (f := intR) (atN (by omega) (by
          have : (i - w.2.2).toNat = n - w.2.2.toNat := by omega
          rw [this]
          exact r2)))
        have x2 : ∀ S, ixW (.d (intR r)) (.d (.int ((kix s.2.1 w.2.1 : Nat) : Int))) S = .ok (.d (.int (vl P s.2.1 n w))) S := fun S => ixl (atI_map (atN (by omega) (by rw [Int.toNat_natCast]; exact r3)))
        have mx : ∀ S, biW true .max [.d (.int b), .d (.int (vl P s.2.1 n w))] S = .ok (.d (.int (if vl P s.2.1 n w > b then vl P s.2.1 n w else b))) S := fun S => rfl
        rw [if_pos q2]
        clear hs hP hw w1 w2 w3 w4 kl q1 q2 r1 r2 r3 r4 r5 hi
        walk_at "ev"
      · have d2 : decide (w.2.2 ≤ i) = false := decide_eq_false (by omega)
        rw [if_neg q2]
        clear hs hP hw w1 w2 w3 w4 kl q1 q2 hi li
        walk_at "ev"
    · have d1 : decide (w.1 = k.1) = false := decide_eq_false q1
      rw [if_neg (by rw [d1]; decide)]
      clear hs hP hw w1 w2 w3 w4 kl q1 hi li
      walk_at "ev")).1
  rw [← List.foldl_filter] at lp
  exact lp
theorem tot_kinds (s : Spc) (hs : okS s) (n : Nat) (P : List (List Int)) (hP : okP s.2.1 n P) (o : Option Ob) (i : Int) (hi : i = (n : Int)) (p0 p1 p3 : Option W) : ∀ (l : List Kd) (acc : List Int), (∀ k ∈ l, k ∈ s.2.1) → acc.length + l.length ≤ 1000 →
    loopF (evG (.nm 9)) (evK t9 b9_3) [9, 10, 11] 3 (l.map fun k => W.d (kD k)) [p0, p1, some (.m 0), p3, some (.d (spD s)), some (.d (.lst (s.2.1.map kD))), some (.m 1), some (.d (.int i)), some (.m 2), none, none, none] [o, some (.lst (P.map intR)), some (.lst (acc.map .int))] = .nx [p0, p1, some (.m 0), p3, some (.d (spD s)), some (.d (.lst (s.2.1.map kD))), some (.m 1), some (.d (.int i)), some (.m 2), none, none, none] [o, some (.lst (P.map intR)), some (.lst ((acc ++ l.map (cel P s.2.1 s.2.2 n)).map .int))]
  | [], acc, _, _ => by simp [loopF]
  | k :: l, acc, h, hz => by
    rw [List.length_cons] at hz
    have tw := tot_ways s hs k n P hP o (some (.lst (acc.map .int))) i hi p0 p1 p3 (some (.m 2))
    have tw' : loopF (evG (.nm 11)) (evK t9 b9_4) [11] 3 ((s.2.2.map wD).map W.d) [p0, p1, some (.m 0), p3, some (.d (spD s)), some (.d (.lst (s.2.1.map kD))), some (.m 1), some (.d (.int i)), some (.m 2), some (.d (kD k)), some (.d (.int 0)), none] [o, some (.lst (P.map intR)), some (.lst (acc.map .int))] = .nx [p0, p1, some (.m 0), p3, some (.d (spD s)), some (.d (.lst (s.2.1.map kD))), some (.m 1), some (.d (.int i)), some (.m 2), some (.d (kD k)), some (.d (.int (bst P s.2.1 s.2.2 n k.1))), none] [o, some (.lst (P.map intR)), some (.lst (acc.map .int))] := by
      rw [map_md]
      exact tw
    have j1 : ∀ S, ixW (.d (kD k)) (.d (.int 1)) S = .ok (.d (.int k.2.1)) S := @tup1 (.str k.1) (.int k.2.1) _
    have j2 : ∀ S, ixW (.d (kD k)) (.d (.int 2)) S = .ok (.d (.int k.2.2)) S := @tup2 (.str k.1) (.int k.2.1) (.int k.2.2) _
    have i2 : ∀ S, ixW (.d (spD s)) (.d (.int 2)) S = .ok (.d (.lst (s.2.2.map wD))) S := @tup2 (.str s.1) (.lst (s.2.1.map kD)) (.lst (s.2.2.map wD)) _
    have al : acc.length < sizeLine := Nat.lt_of_lt_of_le (show acc.length < 1000 by omega) (small (by decide))
    have b1 : b2i true = 1 := rfl
    have b0 : b2i false = 0 := rfl
    have m1 : ∀ x : Int, mulOk x 1 = true := fun x => by simp [mulOk]
    have m0 : ∀ x : Int, mulOk x 0 = true := fun x => by simp [mulOk]
    have e : ∀ x : Int, (acc ++ [x]).map D.int = acc.map .int ++ [.int x] := fun x => by rw [List.map_append]; rfl
    have body : evB t9 b9_3 [p0, p1, some (.m 0), p3, some (.d (spD s)), some (.d (.lst (s.2.1.map kD))), some (.m 1), some (.d (.int i)), some (.m 2), some (.d (kD k)), none, none] [o, some (.lst (P.map intR)), some (.lst (acc.map .int))] = .nx [p0, p1, some (.m 0), p3, some (.d (spD s)), some (.d (.lst (s.2.1.map kD))), some (.m 1), some (.d (.int i)), some (.m 2), some (.d (kD k)), some (.d (.int (bst P s.2.1 s.2.2 n k.1))), none] [o, some (.lst (P.map intR)), some (.lst ((acc ++ [cel P s.2.1 s.2.2 n k]).map .int))] := by
      unfold cel own
      by_cases q : k.2.2 ≤ (n : Int)
      · have d : decide (k.2.2 ≤ i) = true := decide_eq_true (by omega)
        rw [if_pos q, show k.2.1 + bst P s.2.1 s.2.2 n k.1 = bst P s.2.1 s.2.2 n k.1 + k.2.1 * 1 by omega, e]
        unfold b9_3
        clear hs hP h hz hi q tw e
        walk_at "ev"
      · have d : decide (k.2.2 ≤ i) = false := decide_eq_false (by omega)
        rw [if_neg q, show 0 + bst P s.2.1 s.2.2 n k.1 = bst P s.2.1 s.2.2 n k.1 + k.2.1 * 0 by omega, e]
        unfold b9_3
        clear hs hP h hz hi q tw e
        walk_at "ev"
    rw [List.map_cons, loopF_stepK (e1 := [p0, p1, some (.m 0), p3, some (.d (spD s)), some (.d (.lst (s.2.1.map kD))), some (.m 1), some (.d (.int i)), some (.m 2), some (.d (kD k)), none, none]) (by rw [eg1]; rfl) body (by simp)]
    have ih := tot_kinds s hs n P hP o i hi p0 p1 p3 l (acc ++ [cel P s.2.1 s.2.2 n k]) (fun k hk => h k (List.mem_cons_of_mem _ hk)) (by rw [List.length_append, List.length_singleton]; omega)
    rw [List.append_assoc] at ih
    exact ih
def tT (s : Spc) (L n : Nat) : List Int := (rws s.2.1 s.2.2 n).map maxL ++ List.replicate (L + 1 - n) 0
theorem tT_step (s : Spc) (hs : okS s) (L n : Nat) (h : n ≤ L) : (tT s L n)[n]? = some 0 ∧ (tT s L n).set n (maxL (s.2.1.map (cel (rws s.2.1 s.2.2 n) s.2.1 s.2.2 n))) = tT s L (n + 1) := by
  have hl : ((rws s.2.1 s.2.2 n).map maxL).length = n := by rw [List.length_map]; exact (rws_okS s hs n).1
  have e : L + 1 - n = (L + 1 - (n + 1)) + 1 := by omega
  unfold tT
  rw [e, List.replicate_succ]
  refine ⟨?_, ?_⟩
  · rw [List.getElem?_append_right (by omega), hl, Nat.sub_self]
    rfl
  · rw [List.set_append_right _ _ (by omega), hl, Nat.sub_self, List.set_cons_zero]
    show _ = (rws s.2.1 s.2.2 n ++ [_]).map maxL ++ _
    rw [List.map_append, List.append_assoc]
    rfl
theorem tot_sizes (s : Spc) (hs : okS s) (L : Nat) (hL : L ≤ 900) (x0 x1 : D) : ∀ (m n : Nat), n + m = L + 1 →
    loopF (evG (.nm 7)) (evK t9 b9_2) [7, 8, 9, 10, 11] 2 ((List.range' n m).map fun k : Nat => W.d (.int (k : Int))) [some (.d (x0)), some (.d (x1)), some (.m 0), none, some (.d (spD s)), some (.d (.lst (s.2.1.map kD))), some (.m 1), none, none, none, none, none] [some (.lst ((tT s L n).map .int)), some (.lst ((rws s.2.1 s.2.2 n).map intR))] = .nx [some (.d (x0)), some (.d (x1)), some (.m 0), none, some (.d (spD s)), some (.d (.lst (s.2.1.map kD))), some (.m 1), none, none, none, none, none] [some (.lst ((tT s L (n + m)).map .int)), some (.lst ((rws s.2.1 s.2.2 (n + m)).map intR))]
  | 0, n, _ => by simp [loopF]
  | m + 1, n, hz => by
    have hP := rws_okS s hs n
    have hlen : (rws s.2.1 s.2.2 n).length = n := hP.1
    have kl := hs.2.1.2.1
    obtain ⟨t1, t2⟩ := tT_step s hs L n (by omega)
    obtain ⟨P, eP⟩ : ∃ P, P = rws s.2.1 s.2.2 n := ⟨_, rfl⟩
    have eR : rws s.2.1 s.2.2 (n + 1) = P ++ [s.2.1.map (cel P s.2.1 s.2.2 n)] := by rw [eP]; rfl
    rw [← eP] at hP hlen t2
    obtain ⟨T, hT⟩ : ∃ T, T = (tT s L n).map D.int := ⟨_, rfl⟩
    obtain ⟨T', hT'⟩ : ∃ T', T' = (tT s L (n + 1)).map D.int := ⟨_, rfl⟩
    obtain ⟨i, hi⟩ : ∃ i : Int, i = (n : Int) := ⟨_, rfl⟩
    obtain ⟨r, hr⟩ : ∃ r, r = s.2.1.map (cel P s.2.1 s.2.2 n) := ⟨_, rfl⟩
    have kr := tot_kinds s hs n P hP (some (.lst T)) i hi (some (.d x0)) (some (.d x1)) none s.2.1 [] (fun k hk => hk) (by simp; omega)
    have kr' : loopF (evG (.nm 9)) (evK t9 b9_3) [9, 10, 11] 3 ((s.2.1.map kD).map W.d) [some (.d (x0)), some (.d (x1)), some (.m 0), none, some (.d (spD s)), some (.d (.lst (s.2.1.map kD))), some (.m 1), some (.d (.int i)), some (.m 2), none, none, none] [some (.lst T), some (.lst (P.map intR)), some (.lst [])] = .nx [some (.d (x0)), some (.d (x1)), some (.m 0), none, some (.d (spD s)), some (.d (.lst (s.2.1.map kD))), some (.m 1), some (.d (.int i)), some (.m 2), none, none, none] [some (.lst T), some (.lst (P.map intR)), some (.lst (r.map .int))] := by
      rw [map_md, hr]
      exact kr
    have rne : r ≠ [] := fun e => by
      have h1 := congrArg List.length (hr.symm.trans e)
      rw [List.length_map, List.length_nil] at h1
      have := hs.2.1.1
      omega
    have mx := mx2 rne
    have al : (P.map intR).length < sizeLine := by
      rw [List.length_map]
      exact Nat.lt_of_lt_of_le (show P.length < 1001 by omega) (small (by decide))
    have z0 : 0 ≤ sizeLine := Nat.zero_le _
    have ig : ∀ S, ixW (.m 0) (.d (.int i)) (some (.lst T) :: S) = .ok (.d (.int 0)) (some (.lst T) :: S) := ixM (by
      rw [hT]
      exact atI_map (f := D.int) (atN (by omega) (by rw [hi, Int.toNat_natCast]; exact t1)))
    have sx : ∀ e S, kX3 e (.d (.int (maxL r))) (.m 0) (.d (.int i)) (some (.lst T) :: S) = .nx e (some (.lst T') :: S) := fun e S => by
      rw [q44d (by omega) (by
        rw [hT, List.length_map, hi, Int.toNat_natCast]
        exact (List.getElem?_eq_some_iff.mp t1).1), hT, hT', hi, Int.toNat_natCast, ← t2, hr, List.map_set]
    have zm : (0 : Int) + maxL r = maxL r := by omega
    have fk : ∀ S, ixW (.d (spD s)) (.d (.int 1)) S = .ok (.d (.lst (s.2.1.map kD))) S := @tup1 (.str s.1) (.lst (s.2.1.map kD)) _
    have body : evB t9 b9_2 [some (.d (x0)), some (.d (x1)), some (.m 0), none, some (.d (spD s)), some (.d (.lst (s.2.1.map kD))), some (.m 1), some (.d (.int i)), none, none, none, none] [some (.lst T), some (.lst (P.map intR))] = .nx [some (.d (x0)), some (.d (x1)), some (.m 0), none, some (.d (spD s)), some (.d (.lst (s.2.1.map kD))), some (.m 1), some (.d (.int i)), some (.d (intR r)), none, none, none] [some (.lst T'), some (.lst ((P ++ [r]).map intR)), none] := by
      have e : (P ++ [r]).map intR = P.map intR ++ [.lst (r.map .int)] := by rw [List.map_append]; rfl
      rw [e]
      unfold b9_2
      have ei : intR r = .lst (r.map .int) := rfl
      rw [ei]
      obtain ⟨PP, hPP⟩ : ∃ PP, PP = P.map intR := ⟨_, rfl⟩
      rw [← hPP] at kr' al ⊢
      clear hs hz hP hlen kl eP eR kr e t1 t2 hT hT' hi hr rne ei hPP
      walk_at "ev"
    rw [List.range'_succ, List.map_cons, ← eP, ← hT, ← hi, loopF_stepT (e1 := [some (.d (x0)), some (.d (x1)), some (.m 0), none, some (.d (spD s)), some (.d (.lst (s.2.1.map kD))), some (.m 1), some (.d (.int i)), none, none, none, none]) (by rw [eg1]; rfl) body (e3 := [some (.d (x0)), some (.d (x1)), some (.m 0), none, some (.d (spD s)), some (.d (.lst (s.2.1.map kD))), some (.m 1), none, none, none, none, none]) rfl (S3 := [some (.lst T'), some (.lst ((P ++ [r]).map intR))]) rfl, hr, ← eR, hT']
    have ih := tot_sizes s hs L hL x0 x1 m (n + 1) (by omega)
    rw [show n + (m + 1) = n + 1 + m by omega]
    exact ih
theorem zeros_ok (m : Nat) (e : Env') (hm : m ≤ 1000) (p0 p1 : Option W) : ∀ S, loopC (evG (.nm 3)) (evTK t9 .yes) (evEK t9 (.int 0)) ((List.range' 0 m).map fun k : Nat => W.d (.int (k : Int))) [p0, p1, none, none, none, none, none, none, none, none, none, none] [] S = .ok ((List.replicate m 0).map .int) S := fun S => by
  have e0 : (List.replicate m 0).map D.int = (List.range' 0 m).map fun _ : Nat => D.int 0 := by simp [List.map_const']
  rw [e0]
  refine loopC_all0 (g := fun k : Nat => W.d (.int (k : Int))) (f := fun _ => D.int 0) (fun k hk => ⟨[p0, p1, none, some (.d (.int (k : Int))), none, none, none, none, none, none, none, none], by rw [eg1]; rfl, rfl, rfl⟩) (by rw [List.length_range']; exact small (by omega))
theorem totals_run (s : Spc) (i : Int) (k : Nat) (hk : (i + 1).toNat = k) (rk : rngOk (i + 1) = true) (T0 T1 R1 : List D)
    (lc : ∀ S, loopC (evG (.nm 3)) (evTK t9 .yes) (evEK t9 (.int 0)) (rngL 0 k) [some (.d (.lst [spD s])), some (.d (.int i)), none, none, none, none, none, none, none, none, none, none] [] S = .ok T0 S)
    (lp : loopF (evG (.nm 7)) (evK t9 b9_2) [7, 8, 9, 10, 11] 2 (rngL 0 k) [some (.d (.lst [spD s])), some (.d (.int i)), some (.m 0), none, some (.d (spD s)), some (.d (.lst (s.2.1.map kD))), some (.m 1), none, none, none, none, none] [some (.lst T0), some (.lst [])] = .nx [some (.d (.lst [spD s])), some (.d (.int i)), some (.m 0), none, some (.d (spD s)), some (.d (.lst (s.2.1.map kD))), some (.m 1), none, none, none, none, none] [some (.lst T1), some (.lst R1)]) : F9 [.d (.lst [spD s]), .d (.int i)] [] = .ok (.d (.lst T1)) [] := by
  have fk : ∀ S, ixW (.d (spD s)) (.d (.int 1)) S = .ok (.d (.lst (s.2.1.map kD))) S := @tup1 (.str s.1) (.lst (s.2.1.map kD)) _
  have z0 : 0 ≤ sizeLine := Nat.zero_le _
  have body : evB t9 b9_1 [some (.d (.lst [spD s])), some (.d (.int i)), some (.m 0), none, some (.d (spD s)), none, none, none, none, none, none, none] [some (.lst T0)] = .nx [some (.d (.lst [spD s])), some (.d (.int i)), some (.m 0), none, some (.d (spD s)), some (.d (.lst (s.2.1.map kD))), some (.d (.lst R1)), none, none, none, none, none] [some (.lst T1), none] := by
    unfold b9_1
    clear lc
    walk_at "ev"
  have lp1 : loopF (evG (.nm 4)) (evK t9 b9_1) [4, 5, 6, 7, 8, 9, 10, 11] 1 [W.d (spD s)] [some (.d (.lst [spD s])), some (.d (.int i)), some (.m 0), none, none, none, none, none, none, none, none, none] [some (.lst T0)] = .nx [some (.d (.lst [spD s])), some (.d (.int i)), some (.m 0), none, none, none, none, none, none, none, none, none] [some (.lst T1)] := by
    rw [loopF_stepT (e1 := [some (.d (.lst [spD s])), some (.d (.int i)), some (.m 0), none, some (.d (spD s)), none, none, none, none, none, none, none]) (by rw [eg1]; rfl) body (e3 := [some (.d (.lst [spD s])), some (.d (.int i)), some (.m 0), none, none, none, none, none, none, none, none, none]) rfl (S3 := [some (.lst T1)]) rfl]
    rfl
  unfold F9 b9
  refine run_rt rfl (S' := [none]) ?_
  clear lp body
  walk_at "ev"
theorem totals_ok (s : Spc) (hs : okS s) (L : Nat) (hL : L ≤ 900) : ∀ e S, callF F9 [.d (.lst [spD s]), .d (.int (L : Int))] e [] S = .ok (.d (.lst ((dms s L).map .int))) S := fun e S => by
  have lp := tot_sizes s hs L hL (.lst [spD s]) (.int (L : Int)) (L + 1) 0 (by omega)
  have lc := zeros_ok (L + 1) [] (by omega) (some (.d (.lst [spD s]))) (some (.d (.int (L : Int))))
  rw [Nat.zero_add] at lp
  have e1 : tT s L (L + 1) = dms s L := by
    unfold tT dms
    rw [Nat.sub_self]
    simp
  have e0 : tT s L 0 = List.replicate (L + 1) 0 := rfl
  rw [← rng_nat] at lp lc
  rw [e1, e0] at lp
  exact callF_d rfl (totals_run s (L : Int) (L + 1) (by omega) (rsz (by omega) (by omega)) _ _ _ lc lp)
theorem U_of (z : String) : PyData.strOk (Str.ofString z) = true := by
  rw [Str.ofString_eq_toList]
  unfold PyData.strOk
  rw [← Array.all_toList, List.all_eq_true]
  intro c hc
  have hc : c ∈ z.toList.map Char.toNat := hc
  obtain ⟨d, _, rfl⟩ := List.mem_map.mp hc
  refine decide_eq_true ?_
  have hv := d.valid
  show d.val.toNat < _
  unfold UInt32.isValidChar Nat.isValidChar at hv
  omega
theorem toStr_both (i : Int) (h0 : 0 ≤ i) (h1 : i ≤ 10000) : (toString i : Str).length ≤ 5 ∧ PyData.strOk (toString i : Str) = true := by
  refine ⟨?_, U_of _⟩
  obtain ⟨m, rfl⟩ := Int.eq_ofNat_of_zero_le h0
  rw [Str.ofString_eq_toList]
  show ((toString ((m : Nat) : Int)).toList.map Char.toNat).length ≤ 5
  rw [List.length_map]
  have e : toString ((m : Nat) : Int) = Nat.repr m := rfl
  rw [e, Nat.toList_repr]
  exact (Nat.length_toDigits_le_iff (by decide) (by decide)).mpr (by omega)
theorem toStr_len (i : Int) (h0 : 0 ≤ i) (h1 : i ≤ 10000) : (toString i : Str).length ≤ 5 := (toStr_both i h0 h1).1
theorem toStr_okU (i : Int) (h0 : 0 ≤ i) (h1 : i ≤ 10000) : PyData.strOk (toString i : Str) = true := (toStr_both i h0 h1).2
theorem U_app {a b : Str} (h : PyData.strOk a = true) (h' : PyData.strOk b = true) : PyData.strOk (a ++ b) = true := by
  unfold PyData.strOk at *
  rw [← Array.all_toList] at *
  rw [app_cps, List.all_append, h, h']
  rfl
theorem toStr_wide (i : Int) (h0 : 0 ≤ i) (h1 : i < 1000000000000) : (toString i : Str).length ≤ 12 ∧ PyData.strOk (toString i : Str) = true := by
  refine ⟨?_, U_of _⟩
  obtain ⟨m, rfl⟩ := Int.eq_ofNat_of_zero_le h0
  rw [Str.ofString_eq_toList]
  show ((toString ((m : Nat) : Int)).toList.map Char.toNat).length ≤ 12
  rw [List.length_map]
  have e : toString ((m : Nat) : Int) = Nat.repr m := rfl
  rw [e, Nat.toList_repr]
  exact (Nat.length_toDigits_le_iff (by decide) (by decide)).mpr (by omega)
theorem U_mem {z : Str} : PyData.strOk z = true ↔ ∀ c ∈ z.cps.toList, c < 0x110000 := by
  unfold PyData.strOk
  rw [← Array.all_toList, List.all_eq_true]
  exact ⟨fun h c hc => of_decide_eq_true (h c hc), fun h c hc => decide_eq_true (h c hc)⟩
theorem U_rep (n : Int) : PyData.strOk (spN 32 n) = true := U_mem.mpr fun c hc => by
  rw [spN_cps] at hc
  rw [(List.mem_replicate.mp hc).2]
  decide
theorem U_rstrip {z : Str} (h : PyData.strOk z = true) : PyData.strOk (Txt.rstrip z) = true := by
  unfold Txt.rstrip Txt.stripBy
  split
  · exact h
  · refine U_mem.mpr fun c hc => U_mem.mp h c ?_
    have hc : c ∈ (z.cps.extract (stripLo Unicode.isSpace false z) (stripHi Unicode.isSpace true z (stripLo Unicode.isSpace false z))).toList := hc
    rw [Array.toList_extract] at hc
    exact List.mem_of_mem_drop (List.mem_of_mem_take hc)
def okF (f : Int) : Prop := f = 1 ∨ f = 17 ∨ f = 240
def lgK (f : Int) (q : Kd) : Kd := (q.1, q.2.1 * f - f / 3, q.2.2)
def scl (f : Int) (s : Spc) : Spc := (s.1, s.2.1.map (lgK f), s.2.2)
theorem scl_ok (f : Int) (hf : okF f) (s : Spc) (h : goodS s) : okS (scl f s) ∧ (scl f s).2.1.length ≤ 2 := by
  obtain ⟨a0, ⟨a1, a2, a3, a4⟩, a5, a6⟩ := h
  have e : (s.2.1.map (lgK f)).map (·.1) = s.2.1.map (·.1) := by rw [List.map_map]; rfl
  refine ⟨⟨a0, ⟨?_, ?_, ?_, fun q hq => ?_⟩, ?_, fun w hw => ?_⟩, ?_⟩
  · show 1 ≤ (s.2.1.map (lgK f)).length; rw [List.length_map]; omega
  · show (s.2.1.map (lgK f)).length ≤ 8; rw [List.length_map]; omega
  · show ((s.2.1.map (lgK f)).map (·.1)).Nodup; rw [e]; exact a3
  · obtain ⟨q0, h0, rfl⟩ := List.mem_map.mp (show q ∈ s.2.1.map (lgK f) from hq)
    obtain ⟨b1, ⟨b2, b3⟩, b4, b5⟩ := a4 q0 h0
    refine ⟨b1, ?_, b4, show q0.2.2 ≤ 1000 by omega⟩
    show 1 ≤ q0.2.1 * f - f / 3 ∧ q0.2.1 * f - f / 3 ≤ 1000
    rcases hf with rfl | rfl | rfl <;> omega
  · show s.2.2.length ≤ 16; omega
  · obtain ⟨b1, b2, b3, b4⟩ := a6 w hw
    show w.1 ∈ (s.2.1.map (lgK f)).map (·.1) ∧ w.2.1 ∈ (s.2.1.map (lgK f)).map (·.1) ∧ _
    rw [e]
    exact ⟨b1, b2, b3, by omega⟩
  · show (s.2.1.map (lgK f)).length ≤ 2; rw [List.length_map]; exact a2
theorem scaled_ok (f : Int) (hf : okF f) (ss : List Spc) (h : ∀ s ∈ ss, goodS s) (hz : ss.length ≤ 2) : ∀ e S, callF F2 [.d (.lst (ss.map spD)), .d (.int f)] e [] S = .ok (.d (.lst ((ss.map (scl f)).map spD))) S := fun e S => by
  have lp : loopF (evG (.nm 3)) (evK t2 b2_1) [3, 4] 1 (ss.map fun s => W.d (spD s)) [some (.d (.lst (ss.map spD))), some (.d (.int f)), some (.m 0), none, none, none] [some (.lst [])] = .nx [some (.d (.lst (ss.map spD))), some (.d (.int f)), some (.m 0), none, none, none] [some (.lst ((ss.map (scl f)).map spD))] := by
    refine loopF_map spD (scl f) (B := 1000) ss [] (fun s hs acc hacc => ?_) (by simp; omega)
    have gs := h s hs
    refine ⟨[some (.d (.lst (ss.map spD))), some (.d (.int f)), some (.m 0), some (.d (spD s)), none, none], [some (.d (.lst (ss.map spD))), some (.d (.int f)), some (.m 0), some (.d (spD s)), some (.d (.lst ((s.2.1.map (lgK f)).map kD))), none], by rw [eg1]; rfl, ?_, rfl⟩
    have i0 : ∀ S, ixW (.d (spD s)) (.d (.int 0)) S = .ok (.d (.str s.1)) S := @tup0 (.str s.1) _
    have i1 : ∀ S, ixW (.d (spD s)) (.d (.int 1)) S = .ok (.d (.lst (s.2.1.map kD))) S := @tup1 (.str s.1) (.lst (s.2.1.map kD)) _
    have i2 : ∀ S, ixW (.d (spD s)) (.d (.int 2)) S = .ok (.d (.lst (s.2.2.map wD))) S := @tup2 (.str s.1) (.lst (s.2.1.map kD)) (.lst (s.2.2.map wD)) _
    have al : acc.length < sizeLine := Nat.lt_of_lt_of_le hacc (small (by decide))
    have zk : s.2.1.length ≤ sizeLine := small (by have := gs.2.1.2.1; omega)
    have lc : ∀ S, loopC (evG (.nm 5)) (evTK t2 .yes) (evEK t2 (.tup (.cons (.ix (.var 5) (.int 0)) (.cons (.op true .sub (.op true .mul (.ix (.var 5) (.int 1)) (.var 1)) (.op true .fdiv (.var 1) (.int 3))) (.cons (.ix (.var 5) (.int 2)) .nil))))) ((s.2.1.map kD).map W.d) [some (.d (.lst (ss.map spD))), some (.d (.int f)), some (.m 0), some (.d (spD s)), none, none] [] S = .ok ((s.2.1.map (lgK f)).map kD) S := fun S => by
      rw [map_md, List.map_map]
      refine loopC_all0 (g := fun q : Kd => W.d (kD q)) (f := kD ∘ lgK f) (fun q hq => ⟨[some (.d (.lst (ss.map spD))), some (.d (.int f)), some (.m 0), some (.d (spD s)), none, some (.d (kD q))], by rw [eg1]; rfl, rfl, ?_⟩) zk
      obtain ⟨b1, ⟨b2, b3⟩, b4, b5⟩ := gs.2.1.2.2.2 q hq
      have j0 : ∀ S, ixW (.d (kD q)) (.d (.int 0)) S = .ok (.d (.str q.1)) S := @tup0 (.str q.1) _
      have j1 : ∀ S, ixW (.d (kD q)) (.d (.int 1)) S = .ok (.d (.int q.2.1)) S := @tup1 (.str q.1) (.int q.2.1) _
      have j2 : ∀ S, ixW (.d (kD q)) (.d (.int 2)) S = .ok (.d (.int q.2.2)) S := @tup2 (.str q.1) (.int q.2.1) (.int q.2.2) _
      have hm : mulOk q.2.1 f = true := by
        rcases hf with rfl | rfl | rfl <;> simp [mulOk]
      show _ = R.ok (W.d (.tup [.str q.1, .int (q.2.1 * f - f / 3), .int q.2.2])) S
      clear h hs hz gs hq b1 b2 b3 b4 b5 hacc hf
      walk_at "ev"
    have e : (acc ++ [scl f s]).map spD = acc.map spD ++ [.tup [.str s.1, .lst ((s.2.1.map (lgK f)).map kD), .lst (s.2.2.map wD)]] := by
      rw [List.map_append]
      rfl
    rw [e]
    unfold b2_1
    clear h hs hz gs hacc hf e
    walk_at "ev"
  have lp' : loopF (evG (.nm 3)) (evK t2 b2_1) [3, 4] 1 ((ss.map spD).map W.d) [some (.d (.lst (ss.map spD))), some (.d (.int f)), some (.m 0), none, none, none] [some (.lst [])] = .nx [some (.d (.lst (ss.map spD))), some (.d (.int f)), some (.m 0), none, none, none] [some (.lst ((ss.map (scl f)).map spD))] := by
    rw [map_md]
    exact lp
  have z0 : 0 ≤ sizeLine := Nat.zero_le _
  refine callF_d rfl ?_
  unfold F2 b2
  refine run_rt rfl (S' := [none]) ?_
  clear h hz hf lp
  walk_at "ev"
theorem scls_ok (f : Int) (hf : okF f) (ss : List Spc) (h : ∀ s ∈ ss, goodS s) (hz : ss.length ≤ 2) (nd : (ss.map (·.1)).Nodup) : okSS (ss.map (scl f)) ∧ (∀ s ∈ ss.map (scl f), s.2.1.length ≤ 2) ∧ (ss.map (scl f)).length ≤ 2 := by
  have ms : ∀ s ∈ ss.map (scl f), okS s ∧ s.2.1.length ≤ 2 := fun s hs => by
    obtain ⟨q, hq, rfl⟩ := List.mem_map.mp hs
    exact scl_ok f hf q (h q hq)
  refine ⟨⟨by rw [List.length_map]; omega, fun s hs => (ms s hs).1, ?_⟩, fun s hs => (ms s hs).2, by rw [List.length_map]; exact hz⟩
  rw [List.map_map]
  exact nd
def rowOk (n : Nat) (r : List Str) : Prop := r.length = n ∧ ∀ z ∈ r, z.length ≤ 1000
def mxc (rows : List (List Str)) (j : Nat) : Int := maxL (rows.map fun r => ((r.getD j ⟨#[]⟩).length : Int))
def wds (rows : List (List Str)) (n : Nat) : List Int := (List.range n).map (mxc rows)
theorem row_ix {n : Nat} {r : List Str} (h : rowOk n r) (j : Nat) (hj : j < n) : ∀ S, ixW (.d (strsL r)) (.d (.int (j : Int))) S = .ok (.d (.str (r.getD j ⟨#[]⟩))) S := fun S => by
  have hl : j < r.length := by rw [h.1]; exact hj
  refine wl2 (atN (by omega) ?_)
  rw [Int.toNat_natCast, List.getD_eq_getElem?_getD, List.getElem?_eq_getElem hl]
  rfl
theorem row_len {n : Nat} {r : List Str} (h : rowOk n r) (j : Nat) : (r.getD j ⟨#[]⟩).length ≤ 1000 := by
  rw [List.getD_eq_getElem?_getD]
  cases q : r[j]? with
  | none => simp [Str.length]
  | some z => exact h.2 z (List.mem_of_getElem? q)
theorem mxc_ok {rows : List (List Str)} {n : Nat} (hr : ∀ r ∈ rows, rowOk n r) (hne : rows ≠ []) (j : Nat) : 0 ≤ mxc rows j ∧ mxc rows j ≤ 1000 ∧ ∀ r ∈ rows, ((r.getD j ⟨#[]⟩).length : Int) ≤ mxc rows j := by
  obtain ⟨m1, m2⟩ := maxL_spec (l := rows.map fun r => ((r.getD j ⟨#[]⟩).length : Int)) (by simpa using hne)
  obtain ⟨r, h1, h2⟩ := List.mem_map.mp m1
  refine ⟨?_, ?_, fun r hr => m2 _ (List.mem_map_of_mem (f := fun r : List Str => ((r.getD j ⟨#[]⟩).length : Int)) hr)⟩
  · show 0 ≤ maxL _
    rw [← h2]
    omega
  · have := row_len (hr r h1) j
    show maxL _ ≤ 1000
    rw [← h2]
    omega
theorem mx1 {m : List Int} {S : Sto} (h : m ≠ []) : biW true .max [.d (.lst (m.map .int))] S = .ok (.d (.int (maxL m))) S := by
  cases m with
  | nil => exact absurd rfl h
  | cons a l =>
    show (match allInt ((a :: l).map .int) with
      | some (a :: l) => ok1 (.int (maxL (a :: l))) S
      | _ => R.st) = _
    have e : ∀ l : List Int, allInt (l.map .int) = some l := fun l => by
      have := allInt_map (fun i : Int => i) l
      simpa using this
    rw [e]
    rfl
theorem wid_ok {rows : List (List Str)} {n : Nat} (hn : 1 ≤ n) (hn2 : n ≤ 100) (hr : ∀ r ∈ rows, rowOk n r) (hne : rows ≠ []) (hz : rows.length ≤ 1000) : ∀ e S, callF F20 [.d (.lst (rows.map strsL))] e [] S = .ok (.d (.lst ((wds rows n).map .int))) S := fun e S => by
  obtain ⟨r0, rs, hrs⟩ : ∃ r0 rs, rows = r0 :: rs := by
    cases rows with
    | nil => exact absurd rfl hne
    | cons a l => exact ⟨a, l, rfl⟩
  have i0 : ∀ S, ixW (.d (.lst (rows.map strsL))) (.d (.int 0)) S = .ok (.d (strsL r0)) S := fun S => by
    rw [hrs]
    exact ixl (by rw [List.map_cons]; exact atI0)
  have l0 : r0.length = n := (hr r0 (by rw [hrs]; exact List.mem_cons_self)).1
  have zr : rows.length ≤ sizeLine := small (by omega)
  have zn : n ≤ sizeLine := small (by omega)
  have rk : rngOk (n : Int) = true := rsz (by omega) (by omega)
  have tn : ((n : Int)).toNat = n := rfl
  have mxe : ∀ j S, biW true .max [.d (.lst (rows.map fun r => .int ((r.getD j ⟨#[]⟩).length : Int)))] S = .ok (.d (.int (mxc rows j))) S := fun j S => by
    have := @mx1 (rows.map fun r => ((r.getD j ⟨#[]⟩).length : Int)) S (by simpa using hne)
    rw [List.map_map] at this
    exact this
  have inner : ∀ (j : Nat), j < n → ∀ S, loopC (evG (.nm 1)) (evTK t20 .yes) (evEK t20 (.bi true .len (.cons (.ix (.var 1) (.var 2)) .nil))) ((rows.map strsL).map W.d) [some (.d (.lst (rows.map strsL))), none, some (.d (.int (j : Int)))] [] S = .ok (rows.map fun r => .int ((r.getD j ⟨#[]⟩).length : Int)) S := fun j hj S => by
    rw [map_md]
    refine loopC_all0 (g := fun r : List Str => W.d (strsL r)) (f := fun r => .int ((r.getD j ⟨#[]⟩).length : Int)) (fun r hrm => ⟨[some (.d (.lst (rows.map strsL))), some (.d (strsL r)), some (.d (.int (j : Int)))], by rw [eg1]; rfl, rfl, ?_⟩) zr
    have ix := row_ix (hr r hrm) j hj
    have zl : (r.getD j ⟨#[]⟩).length ≤ sizeLine := small (by have := row_len (hr r hrm) j; omega)
    clear hr hne hrs mxe hrm l0 i0
    walk_at "ev"
  refine callF_d rfl ?_
  unfold F20 b20
  refine run_rt rfl (S' := []) ?_
  have outer : ∀ S, loopC (evG (.nm 2)) (evTK t20 .yes) (evEK t20 (.bi true .max (.cons (.lc true [("row", 1)] (.nm 1) (.seq (.var 0)) .yes (.bi true .len (.cons (.ix (.var 1) (.var 2)) .nil))) .nil))) (rngL 0 n) [some (.d (.lst (rows.map strsL))), none, none] [] S = .ok ((wds rows n).map .int) S := fun S => by
    rw [rng_nat]
    unfold wds
    rw [List.range_eq_range', List.map_map]
    refine loopC_all0 (g := fun j : Nat => W.d (.int (j : Int))) (f := fun j => .int (mxc rows j)) (fun j hj => ⟨[some (.d (.lst (rows.map strsL))), none, some (.d (.int (j : Int)))], by rw [eg1]; rfl, rfl, ?_⟩) (by rw [List.length_range']; exact zn)
    have hj : j < n := by
      rw [List.mem_range'_1] at hj
      omega
    have inn := inner j hj
    have mj := mxe j
    clear hr hne hrs l0 i0 inner mxe hj
    walk_at "ev"
  have ln : ∀ S, biW true .len [.d (strsL r0)] S = .ok (.d (.int (n : Int))) S := fun S => by rw [wl1, l0]
  clear hr hne hrs l0 inner mxe
  walk_at "ev"
/-! one line -/
def pad (z : Str) (w : Int) : Str := spN 32 (w - z.length)
def lineP (r : List Str) (w : Nat → Int) : Str := Txt.rstrip (Txt.join "  " (Txt.ljust (r.getD 0 ⟨#[]⟩) (w 0) :: (List.range' 1 (r.length - 1)).map fun j => Txt.rjust (r.getD j ⟨#[]⟩) (w j)))
def lineL (r : List Str) (w : Nat → Int) : Str := (List.range' 1 (r.length - 1)).foldl (fun l j => l ++ "  " ++ pad (r.getD j ⟨#[]⟩) (w j) ++ r.getD j ⟨#[]⟩) (r.getD 0 ⟨#[]⟩ ++ pad (r.getD 0 ⟨#[]⟩) (w 0))
theorem ljust_eq (z : Str) (w : Int) : (Txt.ljust z w).cps.toList = z.cps.toList ++ (pad z w).cps.toList := by
  unfold Txt.ljust pad
  split
  · rename_i h
    have : (w - z.length).toNat = 0 := by omega
    rw [spN_cps, this]
    simp
  · rename_i h
    have e : w.toNat - z.length = (w - z.length).toNat := by omega
    rw [e]
    simp [Builtin.Str.padded, spN]
theorem rjust_eq (z : Str) (w : Int) : (Txt.rjust z w).cps.toList = (pad z w).cps.toList ++ z.cps.toList := by
  unfold Txt.rjust pad
  split
  · rename_i h
    have : (w - z.length).toNat = 0 := by omega
    rw [spN_cps, this]
    simp
  · rename_i h
    have e : w.toNat - z.length = (w - z.length).toNat := by omega
    rw [e]
    simp [Builtin.Str.padded, spN]
theorem join_cons (sep x : Str) (l : List Str) : (Str.join sep (x :: l)).cps.toList = x.cps.toList ++ (l.map fun y => sep.cps.toList ++ y.cps.toList).flatten := by
  induction l generalizing x with
  | nil => simp [Str.join]
  | cons y l ih =>
    show (x ++ sep ++ Str.join sep (y :: l)).cps.toList = _
    rw [app_cps, app_cps, ih y, List.map_cons, List.flatten_cons]
    simp
theorem fold_cps (f : Nat → Str) : ∀ (l : List Nat) (z : Str), (l.foldl (fun (s : Str) j => s ++ f j) z).cps.toList = z.cps.toList ++ (l.map fun j => (f j).cps.toList).flatten
  | [], z => by simp
  | j :: l, z => by
    rw [List.foldl_cons, fold_cps f l, app_cps, List.map_cons, List.flatten_cons, List.append_assoc]
theorem line_eq (r : List Str) (w : Nat → Int) : lineP r w = Txt.rstrip (lineL r w) := by
  unfold lineP
  congr 1
  apply str_inj
  show (Builtin.Str.glued _ _).cps.toList = _
  rw [StrLaws.glued_eq_join, join_cons, ljust_eq]
  unfold lineL
  have e : (fun (l : Str) j => l ++ "  " ++ pad (r.getD j ⟨#[]⟩) (w j) ++ r.getD j ⟨#[]⟩) = fun (l : Str) j => l ++ (("  " : Str) ++ pad (r.getD j ⟨#[]⟩) (w j) ++ r.getD j ⟨#[]⟩) := by
    funext l j
    apply str_inj
    simp only [app_cps, List.append_assoc]
  rw [e, fold_cps, app_cps, List.map_map]
  congr 2
  refine List.map_congr_left fun j _ => ?_
  show ("  " : Str).cps.toList ++ (Txt.rjust _ _).cps.toList = _
  rw [rjust_eq, app_cps, app_cps, List.append_assoc]
theorem pad_ok (i : Int) (h0 : 0 ≤ i) (h1 : i ≤ 1000) : PadOk i = true := by
  have h : ∀ k ∈ List.range 1001, PadOk ((k : Nat) : Int) = true := by decide +kernel
  obtain ⟨m, rfl⟩ := Int.eq_ofNat_of_zero_le h0
  exact h m (List.mem_range.mpr (by omega))
theorem ljust_len (z : Str) (w : Int) (h1 : w ≤ 1000) (h2 : z.length ≤ 1000) : (Txt.ljust z w).length ≤ 2000 := by
  rw [len_cps, ljust_eq, List.length_append, ← len_cps, ← len_cps]
  unfold pad
  rw [spN_len]
  omega
theorem rjust_len (z : Str) (w : Int) (h1 : w ≤ 1000) (h2 : z.length ≤ 1000) : (Txt.rjust z w).length ≤ 2000 := by
  rw [len_cps, rjust_eq, List.length_append, ← len_cps, ← len_cps]
  unfold pad
  rw [spN_len]
  omega
theorem wd_ix {rows : List (List Str)} {n : Nat} (j : Nat) (hj : j < n) : ∀ S, ixW (.d (.lst ((wds rows n).map .int))) (.d (.int (j : Int))) S = .ok (.d (.int (mxc rows j))) S := fun S => by
  refine ixl (atI_map (atN (by omega) ?_))
  unfold wds
  rw [Int.toNat_natCast, List.getElem?_map, List.getElem?_range hj]
  rfl
theorem joinLen_ok {a : Str} {M : Nat} : ∀ l : List Str, (∀ z ∈ l, z.length ≤ M) → joinLen a l ≤ l.length * (M + a.length)
  | [], _ => by simp [joinLen]
  | z :: l, h => by
    have h1 := h z List.mem_cons_self
    have h2 := joinLen_ok (a := a) l fun z hz => h z (List.mem_cons_of_mem _ hz)
    have e : joinLen a (z :: l) = z.length + a.length + joinLen a l := by
      unfold joinLen
      rw [List.map_cons, List.sum_cons, List.length_cons, Nat.succ_mul]
      omega
    rw [e, List.length_cons, Nat.succ_mul]
    omega
theorem join_len (a : Str) (ys : List Str) : (Txt.join a ys).length ≤ joinLen a ys := by
  cases ys with
  | nil => exact Nat.zero_le _
  | cons x l =>
    have e : (Txt.join a (x :: l)).cps.toList = x.cps.toList ++ (l.map fun y => a.cps.toList ++ y.cps.toList).flatten := by
      show (Builtin.Str.glued _ _).cps.toList = _
      rw [StrLaws.glued_eq_join, join_cons]
    rw [len_cps, e, List.length_append]
    have h : ∀ l : List Str, (l.map fun y => a.cps.toList ++ y.cps.toList).flatten.length = joinLen a l := fun l => by
      induction l with
      | nil => simp [joinLen]
      | cons z l ih =>
        rw [List.map_cons, List.flatten_cons, List.length_append, ih, List.length_append, ← len_cps, ← len_cps]
        unfold joinLen
        rw [List.map_cons, List.sum_cons, List.length_cons, Nat.succ_mul]
        omega
    rw [h, ← len_cps]
    unfold joinLen
    rw [List.map_cons, List.sum_cons, List.length_cons, Nat.succ_mul]
    omega
theorem mlj {z : Str} {i : Int} (h : PadOk i = true) : ∀ S, meW true .ljust (.d (.str z)) [.d (.int i)] S = .ok (.d (.str (Txt.ljust z i))) S := fun S => if_pos h
theorem mrj {z : Str} {i : Int} (h : PadOk i = true) : ∀ S, meW true .rjust (.d (.str z)) [.d (.int i)] S = .ok (.d (.str (Txt.rjust z i))) S := fun S => if_pos h
theorem mrs {z : Str} (h : z.length ≤ sizeLine) : ∀ S, meW true .rstrip (.d (.str z)) [] S = .ok (.d (.str (Txt.rstrip z))) S := fun S => if_pos h
theorem cells_loop (p0 p1 : W) {r : List Str} {w : Nat → Int} (o : Option Ob) : ∀ (m s : Nat) (acc : List Str), (∀ j, s ≤ j → j < s + m → (∀ S, ixW (.d (strsL r)) (.d (.int (j : Int))) S = .ok (.d (.str (r.getD j ⟨#[]⟩))) S) ∧ (∀ S, ixW p1 (.d (.int (j : Int))) S = .ok (.d (.int (w j))) S) ∧ PadOk (w j) = true) → acc.length + m ≤ 1000 →
    loopF (evG (.nm 5)) (evK t21 b21_2) [5] 2 ((List.range' s m).map fun k : Nat => W.d (.int (k : Int))) [some p0, some p1, some (.m 0), some (.d (strsL r)), some (.m 1), none] [o, some (.lst (acc.map .str))] = .nx [some p0, some p1, some (.m 0), some (.d (strsL r)), some (.m 1), none] [o, some (.lst ((acc ++ (List.range' s m).map fun j => Txt.rjust (r.getD j ⟨#[]⟩) (w j)).map .str))]
  | 0, s, acc, h, hz => by simp [loopF]
  | m + 1, s, acc, h, hz => by
    obtain ⟨h1, h2, h3⟩ := h s (Nat.le_refl _) (by omega)
    have al : acc.length < sizeLine := Nat.lt_of_lt_of_le (show acc.length < 1000 by omega) (small (by decide))
    have body : evB t21 b21_2 [some p0, some p1, some (.m 0), some (.d (strsL r)), some (.m 1), some (.d (.int (s : Int)))] [o, some (.lst (acc.map .str))] = .nx [some p0, some p1, some (.m 0), some (.d (strsL r)), some (.m 1), some (.d (.int (s : Int)))] [o, some (.lst ((acc ++ [Txt.rjust (r.getD s ⟨#[]⟩) (w s)]).map .str))] := by
      have e : (acc ++ [Txt.rjust (r.getD s ⟨#[]⟩) (w s)]).map D.str = acc.map .str ++ [.str (Txt.rjust (r.getD s ⟨#[]⟩) (w s))] := by rw [List.map_append]; rfl
      rw [e]
      have mr := mrj (z := r.getD s ⟨#[]⟩) h3
      unfold b21_2
      clear h hz e
      walk_at "ev"
    rw [List.range'_succ, List.map_cons, loopF_stepK (e1 := [some p0, some p1, some (.m 0), some (.d (strsL r)), some (.m 1), some (.d (.int (s : Int)))]) (by rw [eg1]; rfl) body (by simp)]
    have ih := cells_loop p0 p1 (r := r) (w := w) o m (s + 1) (acc ++ [Txt.rjust (r.getD s ⟨#[]⟩) (w s)]) (fun j h1 h2 => h j (by omega) (by omega)) (by rw [List.length_append, List.length_singleton]; omega)
    rw [List.append_assoc] at ih
    exact ih
section
variable {rows : List (List Str)} {n : Nat}
theorem tl_row (hn : 1 ≤ n) (hn2 : n ≤ 100) (hr : ∀ r ∈ rows, rowOk n r) (hne : rows ≠ []) (r : List Str) (hm : r ∈ rows) (acc : List Str) (hz : acc.length < 1000) :
    ∃ e2, evB t21 b21_1 [some (.d (.lst (rows.map strsL))), some (.d (.lst ((wds rows n).map .int))), some (.m 0), some (.d (strsL r)), none, none] [some (.lst (acc.map .str))] = .nx e2 [some (.lst ((acc ++ [lineP r (mxc rows)]).map .str)), none] ∧ kill e2 [3, 4, 5] = [some (.d (.lst (rows.map strsL))), some (.d (.lst ((wds rows n).map .int))), some (.m 0), none, none, none] := by
  obtain ⟨c0, hc0⟩ : ∃ c0, c0 = Txt.ljust (r.getD 0 ⟨#[]⟩) (mxc rows 0) := ⟨_, rfl⟩
  obtain ⟨cs, hcs⟩ : ∃ cs, cs = c0 :: (List.range' 1 (r.length - 1)).map fun j => Txt.rjust (r.getD j ⟨#[]⟩) (mxc rows j) := ⟨_, rfl⟩
  have hl : r.length = n := (hr r hm).1
  have hrm := hr r hm
  have mx := mxc_ok hr hne
  refine ⟨[some (.d (.lst (rows.map strsL))), some (.d (.lst ((wds rows n).map .int))), some (.m 0), some (.d (strsL r)), some (.d (.lst (cs.map .str))), none], ?_, rfl⟩
  have lp := cells_loop (.d (.lst (rows.map strsL))) (.d (.lst ((wds rows n).map .int))) (r := r) (w := mxc rows) (some (.lst (acc.map .str))) (r.length - 1) 1 [c0] (fun j h1 h2 => ⟨row_ix hrm j (by omega), wd_ix j (by omega), pad_ok _ (mx j).1 (mx j).2.1⟩) (by simp; omega)
  have i0 : ∀ S, ixW (.d (strsL r)) (.d (.int 0)) S = .ok (.d (.str (r.getD 0 ⟨#[]⟩))) S := row_ix hrm 0 (by omega)
  have w0 : ∀ S, ixW (.d (.lst ((wds rows n).map .int))) (.d (.int 0)) S = .ok (.d (.int (mxc rows 0))) S := wd_ix (rows := rows) (n := n) 0 (by omega)
  have pd := pad_ok _ (mx 0).1 (mx 0).2.1
  have ln : ∀ S, biW true .len [.d (strsL r)] S = .ok (.d (.int (r.length : Int))) S := fun S => wl1
  have rk : rngOk (r.length : Int) = true := rsz (by omega) (by omega)
  have rk1 : rngOk 1 = true := rfl
  have rg : rngL 1 ((r.length : Int) - 1).toNat = (List.range' 1 (r.length - 1)).map fun k : Nat => W.d (.int (k : Int)) := by
    have := rng_from 1 (r.length - 1)
    rw [← this]
    congr 1
    omega
  have cl : ∀ z ∈ cs, z.length ≤ 2000 := fun z hz => by
    rw [hcs] at hz
    rcases List.mem_cons.mp hz with rfl | hz
    · rw [hc0]
      exact ljust_len _ _ (mx 0).2.1 (row_len hrm 0)
    · obtain ⟨j, h1, rfl⟩ := List.mem_map.mp hz
      exact rjust_len _ _ (mx j).2.1 (row_len hrm j)
  have cn : cs.length ≤ 100 := by
    rw [hcs, List.length_cons, List.length_map, List.length_range']
    omega
  have jl : joinLen ("  " : Str) cs ≤ 200200 := by
    have h1 := joinLen_ok (a := ("  " : Str)) cs cl
    have h2 : cs.length * (2000 + ("  " : Str).length) ≤ 100 * 2002 := Nat.mul_le_mul cn (Nat.le_refl 2002)
    omega
  have mjj : ∀ S, meW true .join (.d (.str "  ")) [.d (.lst (cs.map .str))] S = .ok (.d (.str (Txt.join "  " cs))) S := fun S => mj (by
    have := allStr_map (fun s : Str => s) cs
    simpa using this) (by omega)
  have jlen : (Txt.join "  " cs).length ≤ sizeLine := small (Nat.le_trans (join_len _ _) (by omega))
  have ml := mlj (z := r.getD 0 ⟨#[]⟩) pd
  rw [← hc0] at ml
  have mr := mrs jlen
  have lp' : loopF (evG (.nm 5)) (evK t21 b21_2) [5] 2 (rngL 1 ((r.length : Int) - 1).toNat) [some (.d (.lst (rows.map strsL))), some (.d (.lst ((wds rows n).map .int))), some (.m 0), some (.d (strsL r)), some (.m 1), none] [some (.lst (acc.map .str)), some (.lst [.str c0])] = .nx [some (.d (.lst (rows.map strsL))), some (.d (.lst ((wds rows n).map .int))), some (.m 0), some (.d (strsL r)), some (.m 1), none] [some (.lst (acc.map .str)), some (.lst (cs.map .str))] := by
    rw [rg, hcs]
    exact lp
  have e : (acc ++ [lineP r (mxc rows)]).map D.str = acc.map .str ++ [.str (Txt.rstrip (Txt.join "  " cs))] := by
    rw [List.map_append, hcs, hc0]
    rfl
  have al : acc.length < sizeLine := Nat.lt_of_lt_of_le hz (small (by decide))
  rw [e]
  unfold b21_1
  clear hr hne hm hz lp hcs hc0 hl hrm mx rg cl cn jl e hn hn2
  walk_at "ev"

end
section
variable {rows : List (List Str)} {n : Nat}
theorem tl_loop (hn : 1 ≤ n) (hn2 : n ≤ 100) (hr : ∀ r ∈ rows, rowOk n r) (hne : rows ≠ []) : ∀ (l : List (List Str)) (acc : List Str), (∀ r ∈ l, r ∈ rows) → acc.length + l.length ≤ 1000 →
    loopF (evG (.nm 3)) (evK t21 b21_1) [3, 4, 5] 1 (l.map fun r => .d (strsL r)) [some (.d (.lst (rows.map strsL))), some (.d (.lst ((wds rows n).map .int))), some (.m 0), none, none, none] [some (.lst (acc.map .str))] = .nx [some (.d (.lst (rows.map strsL))), some (.d (.lst ((wds rows n).map .int))), some (.m 0), none, none, none] [some (.lst ((acc ++ l.map fun r => lineP r (mxc rows)).map .str))]
  | [], acc, _, _ => by simp [loopF]
  | r :: l, acc, h, hz => by
    rw [List.length_cons] at hz
    obtain ⟨e2, h1, h2⟩ := tl_row hn hn2 hr hne r (h r List.mem_cons_self) acc (by omega)
    rw [List.map_cons, loopF_stepT (e1 := [some (.d (.lst (rows.map strsL))), some (.d (.lst ((wds rows n).map .int))), some (.m 0), some (.d (strsL r)), none, none]) (by rw [eg1]; rfl) h1 h2 (S3 := [some (.lst ((acc ++ [lineP r (mxc rows)]).map .str))]) rfl]
    have ih := tl_loop hn hn2 hr hne l (acc ++ [lineP r (mxc rows)]) (fun r hr => h r (List.mem_cons_of_mem _ hr)) (by rw [List.length_append, List.length_singleton]; omega)
    rw [List.append_assoc] at ih
    exact ih
theorem lines_ok (hn : 1 ≤ n) (hn2 : n ≤ 100) (hr : ∀ r ∈ rows, rowOk n r) (hne : rows ≠ []) (hz : rows.length ≤ 1000) : ∀ e S, callF F21 [.d (.lst (rows.map strsL))] e [] S = .ok (.d (strsL (rows.map fun r => lineP r (mxc rows)))) S := fun e S => by
  have wd := wid_ok hn hn2 hr hne hz
  have lp := tl_loop hn hn2 hr hne rows [] (fun _ h => h) (by simpa using hz)
  have lp' : loopF (evG (.nm 3)) (evK t21 b21_1) [3, 4, 5] 1 ((rows.map strsL).map W.d) [some (.d (.lst (rows.map strsL))), some (.d (.lst ((wds rows n).map .int))), some (.m 0), none, none, none] [some (.lst [])] = .nx [some (.d (.lst (rows.map strsL))), some (.d (.lst ((wds rows n).map .int))), some (.m 0), none, none, none] [some (.lst ((rows.map fun r => lineP r (mxc rows)).map .str))] := by
    rw [map_md]
    exact lp
  have z0 : 0 ≤ sizeLine := Nat.zero_le _
  refine callF_d rfl ?_
  unfold F21 b21
  refine run_rt rfl (S' := [none]) ?_
  clear hr hne hz lp hn hn2
  unfold strsL at *
  walk_at "ev"
end
theorem sp_mul {i : Int} (h : -1000 ≤ i) (h' : i ≤ 1000) : ∀ S, bin true .mul (.d (.str " ")) (.d (.int i)) S = .ok (.d (.str (spN 32 i))) S := fun S => rptN h' h
theorem pad_len (z : Str) (w : Int) (h : w ≤ 1000) : (pad z w).length ≤ 1000 := by
  unfold pad
  rw [spN_len]
  omega
theorem ll_inner (p0 p1 : W) (p4 : Option W) {r : List Str} {w : Nat → Int} (o : Option Ob) : ∀ (m s : Nat) (z : Str), (∀ j, s ≤ j → j < s + m → (∀ S, ixW (.d (strsL r)) (.d (.int (j : Int))) S = .ok (.d (.str (r.getD j ⟨#[]⟩))) S) ∧ (∀ S, ixW p1 (.d (.int (j : Int))) S = .ok (.d (.int (w j))) S) ∧ (0 ≤ w j ∧ w j ≤ 1000) ∧ (r.getD j ⟨#[]⟩).length ≤ 1000) → z.length + 2002 * m ≤ 1000000 →
    loopF (evG (.nm 3)) (evK t30 b30_2) [3] 1 ((List.range' s m).map fun k : Nat => W.d (.int (k : Int))) [some p0, some p1, some (.d (strsL r)), none, p4, some (.d (.str z))] [o] = .nx [some p0, some p1, some (.d (strsL r)), none, p4, some (.d (.str ((List.range' s m).foldl (fun (l : Str) j => l ++ "  " ++ pad (r.getD j ⟨#[]⟩) (w j) ++ r.getD j ⟨#[]⟩) z)))] [o]
  | 0, s, z, h, hz => by simp [loopF]
  | m + 1, s, z, h, hz => by
    obtain ⟨h1, h2, ⟨h3, h3'⟩, h4⟩ := h s (Nat.le_refl _) (by omega)
    have pl := pad_len (r.getD s ⟨#[]⟩) (w s) h3'
    obtain ⟨y, hy⟩ : ∃ y, y = r.getD s ⟨#[]⟩ := ⟨_, rfl⟩
    rw [← hy] at h1 h4 pl
    obtain ⟨x, hx⟩ : ∃ x, x = pad y (w s) := ⟨_, rfl⟩
    have sp : ∀ S, bin true .mul (.d (.str " ")) (.d (.int (w s - (y.length : Int)))) S = .ok (.d (.str x)) S := by
      rw [hx]
      exact sp_mul (by omega) (by omega)
    rw [← hx] at pl
    have l2 : ("  " : Str).length = 2 := rfl
    have z1 : z.length + ("  " : Str).length ≤ sizeLine := small (by omega)
    have z2 : (z ++ ("  " : Str)).length + x.length ≤ sizeLine := small (by rw [app_len]; omega)
    have z3 : (z ++ ("  " : Str) ++ x).length + y.length ≤ sizeLine := small (by rw [app_len, app_len]; omega)
    have a1 : ∀ S, bin true .add (.d (.str z)) (.d (.str "  ")) S = .ok (.d (.str (z ++ ("  " : Str)))) S := fun S => bi7 z1
    have a2 : ∀ S, bin true .add (.d (.str (z ++ ("  " : Str)))) (.d (.str x)) S = .ok (.d (.str (z ++ ("  " : Str) ++ x))) S := fun S => bi7 z2
    have a3 : ∀ S, bin true .add (.d (.str (z ++ ("  " : Str) ++ x))) (.d (.str y)) S = .ok (.d (.str (z ++ ("  " : Str) ++ x ++ y))) S := fun S => bi7 z3
    have yl : y.length ≤ sizeLine := small (by omega)
    have body : evB t30 b30_2 [some p0, some p1, some (.d (strsL r)), some (.d (.int (s : Int))), p4, some (.d (.str z))] [o] = .nx [some p0, some p1, some (.d (strsL r)), some (.d (.int (s : Int))), p4, some (.d (.str (z ++ "  " ++ x ++ y)))] [o] := by
      unfold b30_2
      clear h hz h3 h3' h4 hy hx pl z1 z2 z3 l2
      walk_at "ev"
    rw [List.range'_succ, List.map_cons, loopF_stepK (e1 := [some p0, some p1, some (.d (strsL r)), some (.d (.int (s : Int))), p4, some (.d (.str z))]) (by rw [eg1]; rfl) body (by simp)]
    have ih := ll_inner p0 p1 p4 (r := r) (w := w) o m (s + 1) (z ++ "  " ++ x ++ y) (fun j h1 h2 => h j (by omega) (by omega)) (by rw [app_len, app_len, app_len]; omega)
    rw [List.foldl_cons, ← hy, ← hx]
    exact ih
section
variable {rows : List (List Str)} {n : Nat}
theorem fold_len (f : Nat → Str) (B : Nat) (h : ∀ j, (f j).length ≤ B) : ∀ (l : List Nat) (z : Str), (l.foldl (fun (s : Str) j => s ++ f j) z).length ≤ z.length + B * l.length
  | [], z => by simp
  | j :: l, z => by
    have h1 := fold_len f B h l (z ++ f j)
    have h2 := h j
    rw [app_len] at h1
    rw [List.foldl_cons, List.length_cons, Nat.mul_succ]
    omega
theorem lineL_len (hr : ∀ r ∈ rows, rowOk n r) (hne : rows ≠ []) (r : List Str) (hm : r ∈ rows) (hn2 : n ≤ 100) : (lineL r (mxc rows)).length ≤ 300000 := by
  have mx := mxc_ok hr hne
  unfold lineL
  have e : (fun (l : Str) j => l ++ "  " ++ pad (r.getD j ⟨#[]⟩) (mxc rows j) ++ r.getD j ⟨#[]⟩) = fun (l : Str) j => l ++ (("  " : Str) ++ pad (r.getD j ⟨#[]⟩) (mxc rows j) ++ r.getD j ⟨#[]⟩) := by
    funext l j
    apply str_inj
    simp only [app_cps, List.append_assoc]
  rw [e]
  have h1 := fold_len (fun j => ("  " : Str) ++ pad (r.getD j ⟨#[]⟩) (mxc rows j) ++ r.getD j ⟨#[]⟩) 2002 (fun j => by
    have h1 := pad_len (r.getD j ⟨#[]⟩) (mxc rows j) (mx j).2.1
    have h2 := row_len (hr r hm) j
    have h3 : ("  " : Str).length = 2 := rfl
    rw [app_len, app_len]
    omega) (List.range' 1 (r.length - 1)) (r.getD 0 ⟨#[]⟩ ++ pad (r.getD 0 ⟨#[]⟩) (mxc rows 0))
  have h2 := pad_len (r.getD 0 ⟨#[]⟩) (mxc rows 0) (mx 0).2.1
  have h3 := row_len (hr r hm) 0
  rw [app_len, List.length_range', (hr r hm).1] at h1
  rw [(hr r hm).1]
  omega
theorem ll_row (hn : 1 ≤ n) (hn2 : n ≤ 100) (hr : ∀ r ∈ rows, rowOk n r) (hne : rows ≠ []) (r : List Str) (hm : r ∈ rows) (acc : List Str) (hz : acc.length < 1000) :
    ∃ e2, evB t30 b30_1 [some (.d (.lst (rows.map strsL))), some (.d (.lst ((wds rows n).map .int))), some (.d (strsL r)), none, some (.m 0), none] [some (.lst (acc.map .str))] = .nx e2 [some (.lst ((acc ++ [lineP r (mxc rows)]).map .str))] ∧ kill e2 [2, 3, 5] = [some (.d (.lst (rows.map strsL))), some (.d (.lst ((wds rows n).map .int))), none, none, some (.m 0), none] := by
  have hl : r.length = n := (hr r hm).1
  have hrm := hr r hm
  have mx := mxc_ok hr hne
  refine ⟨[some (.d (.lst (rows.map strsL))), some (.d (.lst ((wds rows n).map .int))), some (.d (strsL r)), none, some (.m 0), some (.d (.str (lineL r (mxc rows))))], ?_, rfl⟩
  obtain ⟨z, hz0⟩ : ∃ z, z = lineL r (mxc rows) := ⟨_, rfl⟩
  obtain ⟨y, hy⟩ : ∃ y, y = r.getD 0 ⟨#[]⟩ := ⟨_, rfl⟩
  obtain ⟨x, hx⟩ : ∃ x, x = pad y (mxc rows 0) := ⟨_, rfl⟩
  have y1 : y.length ≤ 1000 := by rw [hy]; exact row_len hrm 0
  have x1 : x.length ≤ 1000 := by rw [hx]; exact pad_len _ _ (mx 0).2.1
  have lp := ll_inner (.d (.lst (rows.map strsL))) (.d (.lst ((wds rows n).map .int))) (some (.m 0)) (r := r) (w := mxc rows) (some (.lst (acc.map .str))) (r.length - 1) 1 (y ++ x) (fun j h1 h2 => ⟨row_ix hrm j (by omega), wd_ix j (by omega), ⟨(mx j).1, (mx j).2.1⟩, row_len hrm j⟩) (by rw [app_len]; omega)
  have i0 : ∀ S, ixW (.d (strsL r)) (.d (.int 0)) S = .ok (.d (.str y)) S := by rw [hy]; exact row_ix hrm 0 (by omega)
  have w0 : ∀ S, ixW (.d (.lst ((wds rows n).map .int))) (.d (.int 0)) S = .ok (.d (.int (mxc rows 0))) S := wd_ix (rows := rows) (n := n) 0 (by omega)
  have ln : ∀ S, biW true .len [.d (strsL r)] S = .ok (.d (.int (r.length : Int))) S := fun S => wl1
  have rk : rngOk (r.length : Int) = true := rsz (by omega) (by omega)
  have rk1 : rngOk 1 = true := rfl
  have rg : rngL 1 ((r.length : Int) - 1).toNat = (List.range' 1 (r.length - 1)).map fun k : Nat => W.d (.int (k : Int)) := by
    have := rng_from 1 (r.length - 1)
    rw [← this]
    congr 1
    omega
  have sp : ∀ S, bin true .mul (.d (.str " ")) (.d (.int (mxc rows 0 - (y.length : Int)))) S = .ok (.d (.str x)) S := by
    rw [hx]
    exact sp_mul (by have := (mx 0).1; omega) (by have := (mx 0).2.1; omega)
  have a1 : ∀ S, bin true .add (.d (.str y)) (.d (.str x)) S = .ok (.d (.str (y ++ x))) S := fun S => bi7 (small (by omega))
  have jlen : z.length ≤ sizeLine := small (by have := lineL_len hr hne r hm hn2; rw [hz0]; omega)
  have mr := mrs jlen
  have lp' : loopF (evG (.nm 3)) (evK t30 b30_2) [3] 1 (rngL 1 ((r.length : Int) - 1).toNat) [some (.d (.lst (rows.map strsL))), some (.d (.lst ((wds rows n).map .int))), some (.d (strsL r)), none, some (.m 0), some (.d (.str (y ++ x)))] [some (.lst (acc.map .str))] = .nx [some (.d (.lst (rows.map strsL))), some (.d (.lst ((wds rows n).map .int))), some (.d (strsL r)), none, some (.m 0), some (.d (.str z))] [some (.lst (acc.map .str))] := by
    rw [rg, lp, hz0]
    unfold lineL
    rw [← hy, ← hx]
  have e : (acc ++ [lineP r (mxc rows)]).map D.str = acc.map .str ++ [.str (Txt.rstrip z)] := by
    rw [List.map_append, line_eq, hz0]
    rfl
  have al : acc.length < sizeLine := Nat.lt_of_lt_of_le hz (small (by decide))
  have yl : y.length ≤ sizeLine := small (by omega)
  rw [e, ← hz0]
  unfold b30_1
  clear hr hne hm hz lp hl hrm mx rg e hn hn2 hz0 hy hx y1 x1 jlen
  walk_at "ev"
theorem ll_loop (hn : 1 ≤ n) (hn2 : n ≤ 100) (hr : ∀ r ∈ rows, rowOk n r) (hne : rows ≠ []) : ∀ (l : List (List Str)) (acc : List Str), (∀ r ∈ l, r ∈ rows) → acc.length + l.length ≤ 1000 →
    loopF (evG (.nm 2)) (evK t30 b30_1) [2, 3, 5] 1 (l.map fun r => .d (strsL r)) [some (.d (.lst (rows.map strsL))), some (.d (.lst ((wds rows n).map .int))), none, none, some (.m 0), none] [some (.lst (acc.map .str))] = .nx [some (.d (.lst (rows.map strsL))), some (.d (.lst ((wds rows n).map .int))), none, none, some (.m 0), none] [some (.lst ((acc ++ l.map fun r => lineP r (mxc rows)).map .str))]
  | [], acc, _, _ => by simp [loopF]
  | r :: l, acc, h, hz => by
    rw [List.length_cons] at hz
    obtain ⟨e2, h1, h2⟩ := ll_row hn hn2 hr hne r (h r List.mem_cons_self) acc (by omega)
    rw [List.map_cons, loopF_stepT (e1 := [some (.d (.lst (rows.map strsL))), some (.d (.lst ((wds rows n).map .int))), some (.d (strsL r)), none, some (.m 0), none]) (by rw [eg1]; rfl) h1 h2 (S3 := [some (.lst ((acc ++ [lineP r (mxc rows)]).map .str))]) rfl]
    have ih := ll_loop hn hn2 hr hne l (acc ++ [lineP r (mxc rows)]) (fun r hr => h r (List.mem_cons_of_mem _ hr)) (by rw [List.length_append, List.length_singleton]; omega)
    rw [List.append_assoc] at ih
    exact ih
theorem lwid_ok (hn : 1 ≤ n) (hn2 : n ≤ 100) (hr : ∀ r ∈ rows, rowOk n r) (hne : rows ≠ []) (hz : rows.length ≤ 1000) : ∀ S, loopC (evG (.nm 3)) (evTK t30 .yes) (evEK t30 (.bi true .max (.cons (.lc true [("_law_row_here", 2)] (.nm 2) (.seq (.var 0)) .yes (.bi true .len (.cons (.ix (.var 2) (.var 3)) .nil))) .nil))) (rngL 0 n) [some (.d (.lst (rows.map strsL))), none, none, none, none, none] [] S = .ok ((wds rows n).map .int) S := fun S => by
  have zr : rows.length ≤ sizeLine := small (by omega)
  have zn : n ≤ sizeLine := small (by omega)
  have mxe : ∀ j S, biW true .max [.d (.lst (rows.map fun r => .int ((r.getD j ⟨#[]⟩).length : Int)))] S = .ok (.d (.int (mxc rows j))) S := fun j S => by
    have := @mx1 (rows.map fun r => ((r.getD j ⟨#[]⟩).length : Int)) S (by simpa using hne)
    rw [List.map_map] at this
    exact this
  have inner : ∀ (j : Nat), j < n → ∀ S, loopC (evG (.nm 2)) (evTK t30 .yes) (evEK t30 (.bi true .len (.cons (.ix (.var 2) (.var 3)) .nil))) ((rows.map strsL).map W.d) [some (.d (.lst (rows.map strsL))), none, none, some (.d (.int (j : Int))), none, none] [] S = .ok (rows.map fun r => .int ((r.getD j ⟨#[]⟩).length : Int)) S := fun j hj S => by
    rw [map_md]
    refine loopC_all0 (g := fun r : List Str => W.d (strsL r)) (f := fun r => .int ((r.getD j ⟨#[]⟩).length : Int)) (fun r hrm => ⟨[some (.d (.lst (rows.map strsL))), none, some (.d (strsL r)), some (.d (.int (j : Int))), none, none], by rw [eg1]; rfl, rfl, ?_⟩) zr
    have ix := row_ix (hr r hrm) j hj
    have zl : (r.getD j ⟨#[]⟩).length ≤ sizeLine := small (by have := row_len (hr r hrm) j; omega)
    clear hr hne mxe hrm
    walk_at "ev"
  rw [rng_nat]
  unfold wds
  rw [List.range_eq_range', List.map_map]
  refine loopC_all0 (g := fun j : Nat => W.d (.int (j : Int))) (f := fun j => .int (mxc rows j)) (fun j hj => ⟨[some (.d (.lst (rows.map strsL))), none, none, some (.d (.int (j : Int))), none, none], by rw [eg1]; rfl, rfl, ?_⟩) (by rw [List.length_range']; exact zn)
  have hj : j < n := by
    rw [List.mem_range'_1] at hj
    omega
  have inn := inner j hj
  have mj := mxe j
  clear hr hne inner mxe hj
  walk_at "ev"
theorem llines_ok (hn : 1 ≤ n) (hn2 : n ≤ 100) (hr : ∀ r ∈ rows, rowOk n r) (hne : rows ≠ []) (hz : rows.length ≤ 1000) : ∀ e S, callF F30 [.d (.lst (rows.map strsL))] e [] S = .ok (.d (strsL (rows.map fun r => lineP r (mxc rows)))) S := fun e S => by
  obtain ⟨r0, rs, hrs⟩ : ∃ r0 rs, rows = r0 :: rs := by
    cases rows with
    | nil => exact absurd rfl hne
    | cons a l => exact ⟨a, l, rfl⟩
  have i0 : ∀ S, ixW (.d (.lst (rows.map strsL))) (.d (.int 0)) S = .ok (.d (strsL r0)) S := fun S => by
    rw [hrs]
    exact ixl (by rw [List.map_cons]; exact atI0)
  have l0 : r0.length = n := (hr r0 (by rw [hrs]; exact List.mem_cons_self)).1
  have ln : ∀ S, biW true .len [.d (strsL r0)] S = .ok (.d (.int (n : Int))) S := fun S => by rw [wl1, l0]
  have rk : rngOk (n : Int) = true := rsz (by omega) (by omega)
  have tn : ((n : Int)).toNat = n := rfl
  have wd := lwid_ok hn hn2 hr hne hz
  have lp := ll_loop hn hn2 hr hne rows [] (fun _ h => h) (by simpa using hz)
  have lp' : loopF (evG (.nm 2)) (evK t30 b30_1) [2, 3, 5] 1 ((rows.map strsL).map W.d) [some (.d (.lst (rows.map strsL))), some (.d (.lst ((wds rows n).map .int))), none, none, some (.m 0), none] [some (.lst [])] = .nx [some (.d (.lst (rows.map strsL))), some (.d (.lst ((wds rows n).map .int))), none, none, some (.m 0), none] [some (.lst ((rows.map fun r => lineP r (mxc rows)).map .str))] := by
    rw [map_md]
    exact lp
  have z0 : 0 ≤ sizeLine := Nat.zero_le _
  refine callF_d rfl ?_
  unfold F30 b30
  refine run_rt rfl (S' := [none]) ?_
  clear hr hne hz lp hn hn2 hrs l0
  unfold strsL at *
  walk_at "ev"
end
theorem lineL_U (r : List Str) (w : Nat → Int) (h : ∀ z ∈ r, PyData.strOk z = true) : PyData.strOk (lineL r w) = true := by
  have g : ∀ j, PyData.strOk (r.getD j ⟨#[]⟩) = true := fun j => by
    rw [List.getD_eq_getElem?_getD]
    cases q : r[j]? with
    | none => decide +kernel
    | some z => exact h z (List.mem_of_getElem? q)
  unfold lineL
  have f : ∀ (l : List Nat) (z : Str), PyData.strOk z = true → PyData.strOk (l.foldl (fun (l : Str) j => l ++ "  " ++ pad (r.getD j ⟨#[]⟩) (w j) ++ r.getD j ⟨#[]⟩) z) = true := fun l => by
    induction l with
    | nil => intro z hz; exact hz
    | cons j l ih =>
      intro z hz
      rw [List.foldl_cons]
      exact ih _ (U_app (U_app (U_app hz (by decide +kernel)) (U_rep _)) (g j))
  exact f _ _ (U_app (g 0) (U_rep _))
/-! the rows of the table -/
def amt (ss : List Spc) (L n : Nat) : List Int := ss.map fun s => (dms s L).getD n 0
def txs (l : List Int) : List Str := l.map fun i => (toString i : Str)
def hdD (ss : List Spc) : List Str := (["length"] : List Str) ++ ss.map (·.1) ++ (["demand", "supply"] : List Str)
def rowI (i : Int) (am : List Int) (u : Int) : List Str := [(toString i : Str)] ++ txs am ++ [(toString am.sum : Str), (toString u : Str)]
def rowD (ss : List Spc) (tb : List Int) (L n : Nat) : List Str := rowI (n : Int) (amt ss L n) (lsup tb n)
def rowsD (ss : List Spc) (tb : List Int) (L : Nat) : List (List Str) := [hdD ss] ++ (List.range' 0 (L + 1)).map (rowD ss tb L)
def okD (ss : List Spc) (tb : List Int) (L : Nat) : Prop := okSS ss ∧ ss.length ≤ 2 ∧ okTb tb ∧ L ≤ 24
theorem dms_len (s : Spc) (hs : okS s) (L : Nat) : (dms s L).length = L + 1 := by
  unfold dms
  rw [List.length_map]
  exact (rws_okS s hs (L + 1)).1
theorem dms_at (s : Spc) (hs : okS s) (L n : Nat) (h : n ≤ L) : (dms s L)[n]? = some ((dms s L).getD n 0) ∧ 0 ≤ (dms s L).getD n 0 ∧ (dms s L).getD n 0 ≤ 1000 * (L + 1) := by
  have hl : n < (dms s L).length := by rw [dms_len s hs L]; omega
  have e : (dms s L).getD n 0 = (dms s L)[n] := by
    rw [List.getD_eq_getElem?_getD, List.getElem?_eq_getElem hl]
    rfl
  rw [e]
  refine ⟨List.getElem?_eq_getElem hl, ?_⟩
  have hm : (dms s L)[n] ∈ dms s L := List.getElem_mem hl
  obtain ⟨r, hr, he⟩ := List.mem_map.mp hm
  rw [← he]
  have ne := row_ne s hs (L + 1) r hr
  have := ((rws_okS s hs (L + 1)).2 r hr).2 _ (maxL_spec ne).1
  omega
theorem amt_ok (ss : List Spc) (h : ∀ s ∈ ss, okS s) (L n : Nat) (hn : n ≤ L) : ∀ x ∈ amt ss L n, 0 ≤ x ∧ x ≤ 1000 * (L + 1) := fun x hx => by
  obtain ⟨s, hs, rfl⟩ := List.mem_map.mp hx
  exact (dms_at s (h s hs) L n hn).2
theorem sum_ok (B : Int) : ∀ l : List Int, (∀ x ∈ l, 0 ≤ x ∧ x ≤ B) → 0 ≤ l.sum ∧ l.sum ≤ B * l.length
  | [], _ => by simp
  | a :: l, h => by
    have h1 := h a List.mem_cons_self
    have h2 := sum_ok B l fun x hx => h x (List.mem_cons_of_mem _ hx)
    rw [List.sum_cons, List.length_cons, Int.natCast_add, Int.mul_add]
    simp only [Int.natCast_one, Int.mul_one]
    omega
section
variable {ss : List Spc} {tb : List Int} {L : Nat}
theorem okD_amt (h : okD ss tb L) (n : Nat) (hn : n ≤ L) : (∀ x ∈ amt ss L n, 0 ≤ x ∧ x ≤ 25000) ∧ (0 ≤ (amt ss L n).sum ∧ (amt ss L n).sum ≤ 50000) ∧ 0 ≤ lsup tb n ∧ lsup tb n ≤ 24000000 := by
  obtain ⟨h1, h2, h3, h4⟩ := h
  have a := amt_ok ss h1.2.1 L n hn
  have a' : ∀ x ∈ amt ss L n, 0 ≤ x ∧ x ≤ 25000 := fun x hx => by
    have := a x hx
    omega
  have l := lsup_range tb h3 n
  have s := sum_ok 25000 _ a'
  have ln : (amt ss L n).length = ss.length := by unfold amt; rw [List.length_map]
  refine ⟨a', ?_, ?_⟩
  · rw [ln] at s
    have : (ss.length : Int) = 0 ∨ (ss.length : Int) = 1 ∨ (ss.length : Int) = 2 := by omega
    rcases this with q | q | q <;> rw [q] at s <;> omega
  · omega
theorem rowI_len (i : Int) (am : List Int) (u : Int) : (rowI i am u).length = am.length + 3 := by
  unfold rowI txs
  simp
theorem tx_ok (i : Int) (h : 0 ≤ i ∧ i ≤ 24000000) : (toString i : Str).length ≤ 1000 ∧ PyData.strOk (toString i : Str) = true := by
  have := toStr_wide i h.1 (by omega)
  exact ⟨by omega, this.2⟩
theorem rowI_ok (i : Int) (am : List Int) (u : Int) (hi : 0 ≤ i ∧ i ≤ 24000000) (ha : ∀ x ∈ am, 0 ≤ x ∧ x ≤ 25000) (hs : 0 ≤ am.sum ∧ am.sum ≤ 50000) (hu : 0 ≤ u ∧ u ≤ 24000000) : ∀ z ∈ rowI i am u, z.length ≤ 1000 ∧ PyData.strOk z = true := fun z hz => by
  unfold rowI txs at hz
  rcases List.mem_append.mp hz with hz | hz
  · rcases List.mem_append.mp hz with hz | hz
    · rw [List.mem_singleton] at hz
      subst hz
      exact tx_ok i hi
    · obtain ⟨x, hx, rfl⟩ := List.mem_map.mp hz
      have := ha x hx
      exact tx_ok x (by omega)
  · simp only [List.mem_cons, List.not_mem_nil, or_false] at hz
    rcases hz with rfl | rfl
    · exact tx_ok _ (by omega)
    · exact tx_ok _ hu
theorem rowsD_ok (h : okD ss tb L) : (∀ r ∈ rowsD ss tb L, rowOk (ss.length + 3) r) ∧ ∀ r ∈ rowsD ss tb L, ∀ z ∈ r, PyData.strOk z = true := by
  have k : ∀ r ∈ rowsD ss tb L, r.length = ss.length + 3 ∧ ∀ z ∈ r, z.length ≤ 1000 ∧ PyData.strOk z = true := fun r hr => by
    rcases List.mem_append.mp hr with hr | hr
    · rw [List.mem_singleton] at hr
      subst hr
      refine ⟨by unfold hdD; simp, fun z hz => ?_⟩
      unfold hdD at hz
      rcases List.mem_append.mp hz with hz | hz
      · rcases List.mem_append.mp hz with hz | hz
        · rw [List.mem_singleton] at hz
          subst hz
          exact ⟨by decide, by decide +kernel⟩
        · obtain ⟨s, hs, rfl⟩ := List.mem_map.mp hz
          have nm := (h.1.2.1 s hs).1
          exact ⟨by have := nm.2.1; omega, okStr nm.2.2⟩
      · simp only [List.mem_cons, List.not_mem_nil, or_false] at hz
        rcases hz with rfl | rfl
        · exact ⟨by decide, by decide +kernel⟩
        · exact ⟨by decide, by decide +kernel⟩
    · obtain ⟨n, hn, rfl⟩ := List.mem_map.mp hr
      rw [List.mem_range'_1] at hn
      obtain ⟨a1, a2, a3⟩ := okD_amt h n (by omega)
      have := h.2.2.2
      refine ⟨by unfold rowD; rw [rowI_len]; unfold amt; rw [List.length_map], rowI_ok _ _ _ (by omega) a1 a2 a3⟩
  exact ⟨fun r hr => ⟨(k r hr).1, fun z hz => ((k r hr).2 z hz).1⟩, fun r hr z hz => ((k r hr).2 z hz).2⟩
end
def linesD (ss : List Spc) (tb : List Int) (L : Nat) : List Str := (rowsD ss tb L).map fun r => lineP r (mxc (rowsD ss tb L))
theorem linesD_U {ss : List Spc} {tb : List Int} {L : Nat} (h : okD ss tb L) : ∀ z ∈ linesD ss tb L, PyData.strOk z = true := fun z hz => by
  obtain ⟨r, hr, rfl⟩ := List.mem_map.mp hz
  rw [line_eq]
  exact U_rstrip (lineL_U r _ ((rowsD_ok h).2 r hr))
/-- the amounts of one line -/
def cls (ss : List Spc) (L : Nat) : List D := ss.map fun s => .lst ((dms s L).map .int)
theorem col_ix (s : Spc) (hs : okS s) (L n : Nat) (hn : n ≤ L) (i : Int) (hi : i = (n : Int)) : ∀ S, ixW (.d (.lst ((dms s L).map .int))) (.d (.int i)) S = .ok (.d (.int ((dms s L).getD n 0))) S := fun S => ixl (atI_map (atN (by omega) (by
  rw [hi, Int.toNat_natCast]
  exact (dms_at s hs L n hn).1)))
theorem txs_evs (am : List Int) (h : ∀ x ∈ am, 0 ≤ x ∧ x ≤ 25000) : ∀ x ∈ am, ∀ S, biW true .str [.d (.int x)] S = .ok (.d (.str (toString x))) S := fun x hx => str_small x (by have := h x hx; omega)
theorem row_add (i : Int) (am : List Int) (u : Int) : ([D.str (toString i)] ++ (txs am).map .str) ++ [D.str (toString am.sum), D.str (toString u)] = (rowI i am u).map .str := by
  unfold rowI
  simp
theorem dt_body (x0 x1 xc : D) (acc : List (List Str)) (i u : Int) (am : List Int) (C : List D) (tbD : D) (al : acc.length < sizeLine) (hl : am.length ≤ 2) (hi : i.natAbs < 2 ^ 64) (hu : u.natAbs < 2 ^ 64) (hs : am.sum.natAbs < 2 ^ 64)
    (ft : ∀ S, fldW "System" "table" (.d x0) S = .ok (.d tbD) S)
    (ls : ∀ e S, callF F19 [.d tbD, .d (.int i)] e [] S = .ok (.d (.int u)) S)
    (l1 : ∀ S, loopC (evG (.nm 7)) (evTK t22 .yes) (evEK t22 (.ix (.var 7) (.var 5))) (C.map W.d) [some (.d (x0)), some (.d (x1)), some (.m 0), none, some (.d (.lst C)), some (.d (.int i)), none, none, none, none] [] S = .ok (am.map .int) S)
    (l2 : ∀ S, loopC (evG (.nm 9)) (evTK t22 .yes) (evEK t22 (.bi true .str (.cons (.var 9) .nil))) ((am.map D.int).map W.d) [some (.d (x0)), some (.d (x1)), some (.m 0), none, some (.d (.lst C)), some (.d (.int i)), some (.d (.lst (am.map .int))), none, none, none] [] S = .ok ((txs am).map .str) S) :
    evB t22 b22_1 [some (.d (x0)), some (.d (x1)), some (.m 0), none, some (.d (.lst C)), some (.d (.int i)), none, none, none, none] [some (.lst (acc.map strsL))] = .nx [some (.d (x0)), some (.d (x1)), some (.m 0), none, some (.d (.lst C)), some (.d (.int i)), some (.d (.lst (am.map .int))), none, some (.d (.lst ((txs am).map .str))), none] [some (.lst ((acc ++ [rowI i am u]).map strsL))] := by
  have e : (acc ++ [rowI i am u]).map strsL = acc.map strsL ++ [.lst (([D.str (toString i)] ++ (txs am).map .str) ++ [D.str (toString am.sum), D.str (toString u)])] := by
    rw [row_add, List.map_append]
    rfl
  have s1 := str_small i hi
  have s2 := str_small u hu
  have s3 := str_small am.sum hs
  have sm := su2 am
  have al : (acc.map strsL).length < sizeLine := by rw [List.length_map]; exact al
  have tl : ((txs am).map D.str).length ≤ 2 := by unfold txs; rw [List.length_map, List.length_map]; exact hl
  have b1 : ∀ S, bin true .add (.d (.lst [D.str (toString i)])) (.d (.lst ((txs am).map .str))) S = .ok (.d (.lst ([D.str (toString i)] ++ (txs am).map .str))) S := fun S => bi11 (small (by rw [List.length_singleton]; omega))
  have b2 : ∀ S, bin true .add (.d (.lst ([D.str (toString i)] ++ (txs am).map .str))) (.d (.lst [D.str (toString am.sum), D.str (toString u)])) S = .ok (.d (.lst (([D.str (toString i)] ++ (txs am).map .str) ++ [D.str (toString am.sum), D.str (toString u)]))) S := fun S => bi11 (small (by rw [List.length_append, List.length_singleton]; show 1 + _ + 2 ≤ _; omega))
  rw [e]
  obtain ⟨A, hA⟩ : ∃ A, A = acc.map strsL := ⟨_, rfl⟩
  obtain ⟨X, hX⟩ : ∃ X, X = (txs am).map D.str := ⟨_, rfl⟩
  obtain ⟨Y, hY⟩ : ∃ Y, Y = [D.str (toString i)] ++ X := ⟨_, rfl⟩
  obtain ⟨Z, hZ⟩ : ∃ Z, Z = Y ++ [D.str (toString am.sum), D.str (toString u)] := ⟨_, rfl⟩
  obtain ⟨I, hI⟩ : ∃ I, I = am.map D.int := ⟨_, rfl⟩
  rw [← hX, ← hY] at b1
  rw [← hX, ← hY, ← hZ] at b2
  rw [← hX, ← hI] at l2
  rw [← hI] at l1 sm
  rw [← hA] at al
  rw [← hA, ← hX, ← hY, ← hZ, ← hI]
  unfold b22_1
  clear hi hu hs e hA hX hY hZ hI hl tl
  walk_at "ev"
theorem hd_eq (ns : List Str) : ([D.str "length"] ++ ns.map .str) ++ [D.str "demand", D.str "supply"] = ((["length"] : List Str) ++ ns ++ (["demand", "supply"] : List Str)).map .str := by simp
theorem lt_body (x0 x1 x2 x3 x4 x6 : D) (acc : List (List Str)) (i u : Int) (am : List Int) (C : List D) (al : acc.length < sizeLine) (hl : am.length ≤ 2) (hi : i.natAbs < 2 ^ 64) (hu : u.natAbs < 2 ^ 64) (hs : am.sum.natAbs < 2 ^ 64)
    (ls : ∀ e S, callF F10 [.d x4, .d (.int i)] e [] S = .ok (.d (.int u)) S)
    (l1 : ∀ S, loopC (evG (.nm 12)) (evTK t31 .yes) (evEK t31 (.ix (.var 12) (.var 10))) (C.map W.d) [some (.d (x0)), some (.d (x1)), some (.d (x2)), some (.d (x3)), some (.d (x4)), none, some (.d (x6)), some (.d (.lst C)), none, some (.m 0), some (.d (.int i)), none, none, none, none, none] [] S = .ok (am.map .int) S)
    (l2 : ∀ S, loopC (evG (.nm 14)) (evTK t31 .yes) (evEK t31 (.bi true .str (.cons (.var 14) .nil))) ((am.map D.int).map W.d) [some (.d (x0)), some (.d (x1)), some (.d (x2)), some (.d (x3)), some (.d (x4)), none, some (.d (x6)), some (.d (.lst C)), none, some (.m 0), some (.d (.int i)), some (.d (.lst (am.map .int))), none, none, none, none] [] S = .ok ((txs am).map .str) S) :
    ∃ e2, evB t31 b31_1 [some (.d (x0)), some (.d (x1)), some (.d (x2)), some (.d (x3)), some (.d (x4)), none, some (.d (x6)), some (.d (.lst C)), none, some (.m 0), some (.d (.int i)), none, none, none, none, none] [some (.lst (acc.map strsL))] = .nx e2 [some (.lst ((acc ++ [rowI i am u]).map strsL))] ∧ kill e2 [10, 11, 13] = [some (.d (x0)), some (.d (x1)), some (.d (x2)), some (.d (x3)), some (.d (x4)), none, some (.d (x6)), some (.d (.lst C)), none, some (.m 0), none, none, none, none, none, none] := by
  have e : (acc ++ [rowI i am u]).map strsL = acc.map strsL ++ [.lst (([D.str (toString i)] ++ (txs am).map .str) ++ [D.str (toString am.sum), D.str (toString u)])] := by
    rw [row_add, List.map_append]
    rfl
  have s1 := str_small i hi
  have s2 := str_small u hu
  have s3 := str_small am.sum hs
  have sm := su2 am
  have al : (acc.map strsL).length < sizeLine := by rw [List.length_map]; exact al
  have tl : ((txs am).map D.str).length ≤ 2 := by unfold txs; rw [List.length_map, List.length_map]; exact hl
  have b1 : ∀ S, bin true .add (.d (.lst [D.str (toString i)])) (.d (.lst ((txs am).map .str))) S = .ok (.d (.lst ([D.str (toString i)] ++ (txs am).map .str))) S := fun S => bi11 (small (by rw [List.length_singleton]; omega))
  have b2 : ∀ S, bin true .add (.d (.lst ([D.str (toString i)] ++ (txs am).map .str))) (.d (.lst [D.str (toString am.sum), D.str (toString u)])) S = .ok (.d (.lst (([D.str (toString i)] ++ (txs am).map .str) ++ [D.str (toString am.sum), D.str (toString u)]))) S := fun S => bi11 (small (by rw [List.length_append, List.length_singleton]; show 1 + _ + 2 ≤ _; omega))
  rw [e]
  refine ⟨[some (.d (x0)), some (.d (x1)), some (.d (x2)), some (.d (x3)), some (.d (x4)), none, some (.d (x6)), some (.d (.lst C)), none, some (.m 0), some (.d (.int i)), some (.d (.lst (am.map .int))), none, some (.d (.lst ([D.str (toString i)] ++ (txs am).map .str))), none, none], ?_, rfl⟩
  obtain ⟨A, hA⟩ : ∃ A, A = acc.map strsL := ⟨_, rfl⟩
  obtain ⟨X, hX⟩ : ∃ X, X = (txs am).map D.str := ⟨_, rfl⟩
  obtain ⟨Y, hY⟩ : ∃ Y, Y = [D.str (toString i)] ++ X := ⟨_, rfl⟩
  obtain ⟨Z, hZ⟩ : ∃ Z, Z = Y ++ [D.str (toString am.sum), D.str (toString u)] := ⟨_, rfl⟩
  obtain ⟨I, hI⟩ : ∃ I, I = am.map D.int := ⟨_, rfl⟩
  rw [← hX, ← hY] at b1
  rw [← hX, ← hY, ← hZ] at b2
  rw [← hX, ← hI] at l2
  rw [← hI] at l1 sm
  rw [← hA] at al
  rw [← hA, ← hX, ← hY, ← hZ, ← hI]
  unfold b31_1
  clear hi hu hs e hA hX hY hZ hI hl tl
  walk_at "ev"
section
variable {ss : List Spc} {tb : List Int} {L : Nat}
theorem dt_loop (h : okD ss tb L) (x1 : D) : loopF (evG (.nm 5)) (evK t22 b22_1) [5, 6, 8] 1 ((List.range' 0 (L + 1)).map fun k : Nat => W.d (.int (k : Int))) [some (.d (sysD ss tb)), some (.d (x1)), some (.m 0), none, some (.d (.lst (cls ss L))), none, none, none, none, none] [some (.lst ([hdD ss].map strsL))] = .nx [some (.d (sysD ss tb)), some (.d (x1)), some (.m 0), none, some (.d (.lst (cls ss L))), none, none, none, none, none] [some (.lst ((rowsD ss tb L).map strsL))] := by
  refine loopF_map strsL (rowD ss tb L) (B := 1000) (List.range' 0 (L + 1)) [hdD ss] (fun n hn acc hacc => ?_) (by have := h.2.2.2; simp; omega)
  rw [List.mem_range'_1] at hn
  obtain ⟨a1, a2, a3⟩ := okD_amt h n (by omega)
  have hL := h.2.2.2
  refine ⟨_, [some (.d (sysD ss tb)), some (.d (x1)), some (.m 0), none, some (.d (.lst (cls ss L))), some (.d (.int (n : Int))), some (.d (.lst ((amt ss L n).map .int))), none, some (.d (.lst ((txs (amt ss L n)).map .str))), none], by rw [eg1]; rfl, dt_body (sysD ss tb) x1 .non acc (n : Int) (lsup tb n) (amt ss L n) (cls ss L) (.tup (tb.map .int)) (Nat.lt_of_lt_of_le hacc (small (by decide))) (by unfold amt; rw [List.length_map]; exact h.2.1) (by omega) (by omega) (by omega) (sys_table ss tb) (lsup_ok tb h.2.2.1.1 h.2.2.1.2.1 n (by omega)) (fun S => ?_) (fun S => ?_), rfl⟩
  · unfold cls amt
    rw [map_md, List.map_map]
    refine loopC_all0 (g := fun s : Spc => W.d (.lst ((dms s L).map .int))) (f := D.int ∘ fun s => (dms s L).getD n 0) (fun s hs => ⟨[some (.d (sysD ss tb)), some (.d (x1)), some (.m 0), none, some (.d (.lst (cls ss L))), some (.d (.int (n : Int))), none, some (.d (.lst ((dms s L).map .int))), none, none], by rw [eg1]; rfl, rfl, ?_⟩) (small (by have := h.2.1; omega))
    obtain ⟨i, hi⟩ : ∃ i : Int, i = (n : Int) := ⟨_, rfl⟩
    have ix := col_ix s (h.1.2.1 s hs) L n (by omega) i hi
    rw [← hi]
    show _ = R.ok (W.d (.int ((dms s L).getD n 0))) S
    obtain ⟨y, hy⟩ : ∃ y, y = (dms s L).getD n 0 := ⟨_, rfl⟩
    rw [← hy] at ix ⊢
    clear h hn hacc hs a1 a2 a3 hL hi hy
    walk_at "ev"
  · unfold txs
    rw [map_md, List.map_map]
    refine loopC_all0 (g := fun x : Int => W.d (.int x)) (f := D.str ∘ fun x : Int => (toString x : Str)) (fun x hx => ⟨[some (.d (sysD ss tb)), some (.d (x1)), some (.m 0), none, some (.d (.lst (cls ss L))), some (.d (.int (n : Int))), some (.d (.lst ((amt ss L n).map .int))), none, none, some (.d (.int x))], by rw [eg1]; rfl, rfl, ?_⟩) (small (by unfold amt; rw [List.length_map]; have := h.2.1; omega))
    have sx := txs_evs _ a1 x hx
    show _ = R.ok (W.d (.str (toString x))) S
    obtain ⟨i, hi⟩ : ∃ i : Int, i = (n : Int) := ⟨_, rfl⟩
    rw [← hi]
    clear h hn hacc a1 a2 a3 hL hi hx
    walk_at "ev"
theorem law_loop (h : okD ss tb L) (x0 x1 x2 x6 : D) : loopF (evG (.nm 10)) (evK t31 b31_1) [10, 11, 13] 1 ((List.range' 0 (L + 1)).map fun k : Nat => W.d (.int (k : Int))) [some (.d (x0)), some (.d (x1)), some (.d (x2)), some (.d (.lst (ss.map spD))), some (.d (.lst (tb.map .int))), none, some (.d (x6)), some (.d (.lst (cls ss L))), none, some (.m 0), none, none, none, none, none, none] [some (.lst ([hdD ss].map strsL))] = .nx [some (.d (x0)), some (.d (x1)), some (.d (x2)), some (.d (.lst (ss.map spD))), some (.d (.lst (tb.map .int))), none, some (.d (x6)), some (.d (.lst (cls ss L))), none, some (.m 0), none, none, none, none, none, none] [some (.lst ((rowsD ss tb L).map strsL))] := by
  refine loopF_map strsL (rowD ss tb L) (B := 1000) (List.range' 0 (L + 1)) [hdD ss] (fun n hn acc hacc => ?_) (by have := h.2.2.2; simp; omega)
  rw [List.mem_range'_1] at hn
  obtain ⟨a1, a2, a3⟩ := okD_amt h n (by omega)
  have hL := h.2.2.2
  obtain ⟨e2, g1, g2⟩ := lt_body x0 x1 x2 (.lst (ss.map spD)) (.lst (tb.map .int)) x6 acc (n : Int) (lsup tb n) (amt ss L n) (cls ss L) (Nat.lt_of_lt_of_le hacc (small (by decide))) (by unfold amt; rw [List.length_map]; exact h.2.1) (by omega) (by omega) (by omega) (llsup_ok tb h.2.2.1 n (by omega)) (fun S => by
    unfold cls amt
    rw [map_md, List.map_map]
    refine loopC_all0 (g := fun s : Spc => W.d (.lst ((dms s L).map .int))) (f := D.int ∘ fun s => (dms s L).getD n 0) (fun s hs => ⟨[some (.d (x0)), some (.d (x1)), some (.d (x2)), some (.d (.lst (ss.map spD))), some (.d (.lst (tb.map .int))), none, some (.d (x6)), some (.d (.lst (cls ss L))), none, some (.m 0), some (.d (.int (n : Int))), none, some (.d (.lst ((dms s L).map .int))), none, none, none], by rw [eg1]; rfl, rfl, ?_⟩) (small (by have := h.2.1; omega))
    obtain ⟨i, hi⟩ : ∃ i : Int, i = (n : Int) := ⟨_, rfl⟩
    have ix := col_ix s (h.1.2.1 s hs) L n (by omega) i hi
    rw [← hi]
    show _ = R.ok (W.d (.int ((dms s L).getD n 0))) S
    obtain ⟨y, hy⟩ : ∃ y, y = (dms s L).getD n 0 := ⟨_, rfl⟩
    rw [← hy] at ix ⊢
    clear h hn hacc hs a1 a2 a3 hL hi hy
    walk_at "ev") (fun S => by
    unfold txs
    rw [map_md, List.map_map]
    refine loopC_all0 (g := fun x : Int => W.d (.int x)) (f := D.str ∘ fun x : Int => (toString x : Str)) (fun x hx => ⟨[some (.d (x0)), some (.d (x1)), some (.d (x2)), some (.d (.lst (ss.map spD))), some (.d (.lst (tb.map .int))), none, some (.d (x6)), some (.d (.lst (cls ss L))), none, some (.m 0), some (.d (.int (n : Int))), some (.d (.lst ((amt ss L n).map .int))), none, none, some (.d (.int x)), none], by rw [eg1]; rfl, rfl, ?_⟩) (small (by unfold amt; rw [List.length_map]; have := h.2.1; omega))
    have sx := txs_evs _ a1 x hx
    show _ = R.ok (W.d (.str (toString x))) S
    obtain ⟨i, hi⟩ : ∃ i : Int, i = (n : Int) := ⟨_, rfl⟩
    rw [← hi]
    clear h hn hacc a1 a2 a3 hL hi hx
    walk_at "ev")
  exact ⟨_, e2, by rw [eg1]; rfl, g1, g2⟩
end
theorem dt_run (x0 x : D) (i : Int) (k : Nat) (hk : (i + 1).toNat = k) (rk : rngOk (i + 1) = true) (T H C RR HD H1 : List D)
    (ft : ∀ S, fldW "System" "tasks" (.d x0) S = .ok (.d (.tup T)) S)
    (l1 : ∀ S, loopC (evG (.nm 3)) (evTK t22 .yes) (evEK t22 (.fld "Task" "name" (.var 3))) (T.map W.d) [some (.d (x0)), some (.d (.int i)), none, none, none, none, none, none, none, none] [] S = .ok H S)
    (l2 : ∀ S, loopC (evG (.nm 3)) (evTK t22 .yes) (evEK t22 (.call 14 (.cons (.var 3) (.cons (.var 1) .nil)) [])) (T.map W.d) [some (.d (x0)), some (.d (.int i)), some (.m 0), none, none, none, none, none, none, none] [] S = .ok C S)
    (b1 : ∀ S, bin true .add (.d (.lst [D.str "length"])) (.d (.lst H)) S = .ok (.d (.lst H1)) S)
    (b2 : ∀ S, bin true .add (.d (.lst H1)) (.d (.lst [D.str "demand", D.str "supply"])) S = .ok (.d (.lst HD)) S)
    (lp : loopF (evG (.nm 5)) (evK t22 b22_1) [5, 6, 8] 1 (rngL 0 k) [some (.d (x0)), some (.d (.int i)), some (.m 0), none, some (.d (.lst C)), none, none, none, none, none] [some (.lst [.lst HD])] = .nx [some (.d (x0)), some (.d (.int i)), some (.m 0), none, some (.d (.lst C)), none, none, none, none, none] [some (.lst RR)])
    (tl : ∀ e S, callF F21 [.d (.lst RR)] e [] S = .ok (.d x) S) : F22 [.d x0, .d (.int i)] [] = .ok (.d x) [] := by
  unfold F22 b22
  refine run_rt rfl (S' := [none]) ?_
  walk_at "ev"
section
variable {ss : List Spc} {tb : List Int} {L : Nat}
theorem hd_add (h : ss.length ≤ 2) : (∀ S, bin true .add (.d (.lst [D.str "length"])) (.d (.lst ((ss.map (·.1)).map .str))) S = .ok (.d (.lst ([D.str "length"] ++ (ss.map (·.1)).map .str))) S) ∧ ∀ S, bin true .add (.d (.lst ([D.str "length"] ++ (ss.map (·.1)).map .str))) (.d (.lst [D.str "demand", D.str "supply"])) S = .ok (.d (strsL (hdD ss))) S := by
  refine ⟨fun S => bi11 (small (by rw [List.length_map, List.length_map, List.length_singleton]; omega)), fun S => ?_⟩
  rw [bi11 (small (by rw [List.length_append, List.length_map, List.length_map, List.length_singleton]; show 1 + _ + 2 ≤ _; omega)), hd_eq]
  rfl
theorem rowsD_len (h : okD ss tb L) : rowsD ss tb L ≠ [] ∧ (rowsD ss tb L).length ≤ 1000 := by
  have := h.2.2.2
  unfold rowsD
  refine ⟨by simp, ?_⟩
  rw [List.length_append, List.length_map, List.length_range', List.length_singleton]
  omega
theorem dtable_ok (h : okD ss tb L) : ∀ e S, callF F22 [.d (sysD ss tb), .d (.int (L : Int))] e [] S = .ok (.d (strsL (linesD ss tb L))) S := fun e S => by
  have hL := h.2.2.2
  have lp := dt_loop h (.int (L : Int))
  rw [← rng_nat] at lp
  have zs : ss.length ≤ sizeLine := small (by have := h.2.1; omega)
  have tl : ∀ e S, callF F21 [.d (.lst ((rowsD ss tb L).map strsL))] e [] S = .ok (.d (strsL (linesD ss tb L))) S := lines_ok (rows := rowsD ss tb L) (n := ss.length + 3) (by omega) (by have := h.2.1; omega) (rowsD_ok h).1 (rowsD_len h).1 (rowsD_len h).2
  obtain ⟨b1, b2⟩ := hd_add (ss := ss) h.2.1
  refine callF_d rfl (dt_run (sysD ss tb) _ (L : Int) (L + 1) (by omega) (rsz (by omega) (by omega)) (ss.map taskD) ((ss.map (·.1)).map .str) (cls ss L) ((rowsD ss tb L).map strsL) ((hdD ss).map .str) _ (sys_tasks ss tb) (fun S => ?_) (fun S => ?_) b1 b2 lp tl)
  · rw [map_md, List.map_map]
    refine loopC_all0 (g := fun s : Spc => W.d (taskD s)) (f := D.str ∘ fun s : Spc => s.1) (fun s hs => ⟨[some (.d (sysD ss tb)), some (.d (.int (L : Int))), none, some (.d (taskD s)), none, none, none, none, none, none], by rw [eg1]; rfl, rfl, ?_⟩) zs
    have f1 := task_name s
    show _ = R.ok (W.d (.str s.1)) S
    obtain ⟨i, hi⟩ : ∃ i : Int, i = (L : Int) := ⟨_, rfl⟩
    rw [← hi]
    clear h lp tl b1 b2 hs hi hL
    walk_at "ev"
  · unfold cls
    rw [map_md]
    refine loopC_all0 (g := fun s : Spc => W.d (taskD s)) (f := fun s : Spc => .lst ((dms s L).map .int)) (fun s hs => ⟨[some (.d (sysD ss tb)), some (.d (.int (L : Int))), some (.m 0), some (.d (taskD s)), none, none, none, none, none, none], by rw [eg1]; rfl, rfl, ?_⟩) zs
    have f1 := demands_ok s (h.1.2.1 s hs) L (by omega)
    obtain ⟨i, hi⟩ : ∃ i : Int, i = (L : Int) := ⟨_, rfl⟩
    rw [← hi] at f1 ⊢
    clear h lp tl b1 b2 hs hi hL
    walk_at "ev"
end
theorem okD_of {ss : List Spc} {tb : List Int} {L : Nat} (h1 : okSS ss) (h2 : ss.length ≤ 2) (h3 : okTb tb) (h4 : L ≤ 24) : okD ss tb L := ⟨h1, h2, h3, h4⟩
theorem plain_run (ns : List Int) (N : List D) (f i : Int) (k : Nat) (hk : (i + 1).toNat = k) (rk : rngOk (i + 1) = true) (s0 s1 s2 : List D) (tb0 tb1 : List D) (sy x : D) (H H1 HD C RR : List D)
    (e0 : ∀ e S, callF F1 [.d (.ro (ns.map .int)), .d (.int 60)] e [] S = .ok (.d (.lst N)) S)
    (v50 : ∀ S, ∃ a : Int, ixW (.d (.lst N)) (.d (.int 50)) S = .ok (.d (.int a)) S ∧ a % 25 = i)
    (e3 : evS t31 (.set 2 (.ix (.lst true (.cons (.int 1) (.cons (.int 1) (.cons (.int 17) (.cons (.int 240) .nil))))) (.op true .mod (.bi true .int (.cons (.ix (.var 1) (.int 55)) .nil)) (.int 4)))) [some (.d (.ro (ns.map .int))), some (.d (.lst N)), none, none, none, none, none, none, none, none, none, none, none, none, none, none] [] = .nx [some (.d (.ro (ns.map .int))), some (.d (.lst N)), some (.d (.int f)), none, none, none, none, none, none, none, none, none, none, none, none, none] [])
    (e1 : ∀ e S, callF F6 [.d (.lst N)] e [] S = .ok (.d (.lst s0)) S)
    (e4 : ∀ e S, callF F2 [.d (.lst s0), .d (.int f)] e [] S = .ok (.d (.lst s1)) S)
    (e5 : evS t31 (.iff (.cmp .eq (.op true .mod (.bi true .int (.cons (.ix (.var 1) (.int 53)) .nil)) (.int 9)) (.int 4)) (.cons (.set 3 (.lst true .nil)) .nil) .nil) [some (.d (.ro (ns.map .int))), some (.d (.lst N)), some (.d (.int f)), some (.d (.lst s1)), none, none, none, none, none, none, none, none, none, none, none, none] [] = .nx [some (.d (.ro (ns.map .int))), some (.d (.lst N)), some (.d (.int f)), some (.d (.lst s2)), none, none, none, none, none, none, none, none, none, none, none, none] [])
    (e2 : ∀ e S, callF F7 [.d (.lst N), .d (.int 44)] e [] S = .ok (.d (.lst tb0)) S)
    (l1 : ∀ S, loopC (evG (.nm 5)) (evTK t31 .yes) (evEK t31 (.op true .mul (.var 5) (.var 2))) (tb0.map W.d) [some (.d (.ro (ns.map .int))), some (.d (.lst N)), some (.d (.int f)), some (.d (.lst s2)), none, none, none, none, none, none, none, none, none, none, none, none] [] S = .ok tb1 S)
    (l2 : ∀ S, loopC (evG (.nm 8)) (evTK t31 .yes) (evEK t31 (.call 9 (.cons (.lst true (.cons (.var 8) .nil)) (.cons (.var 6) .nil)) [])) (s2.map W.d) [some (.d (.ro (ns.map .int))), some (.d (.lst N)), some (.d (.int f)), some (.d (.lst s2)), some (.d (.lst tb1)), none, some (.d (.int i)), none, none, none, none, none, none, none, none, none] [] S = .ok C S)
    (l3 : ∀ S, loopC (evG (.nm 8)) (evTK t31 .yes) (evEK t31 (.ix (.var 8) (.int 0))) (s2.map W.d) [some (.d (.ro (ns.map .int))), some (.d (.lst N)), some (.d (.int f)), some (.d (.lst s2)), some (.d (.lst tb1)), none, some (.d (.int i)), some (.d (.lst C)), none, none, none, none, none, none, none, none] [] S = .ok H S)
    (b1 : ∀ S, bin true .add (.d (.lst [D.str "length"])) (.d (.lst H)) S = .ok (.d (.lst H1)) S)
    (b2 : ∀ S, bin true .add (.d (.lst H1)) (.d (.lst [D.str "demand", D.str "supply"])) S = .ok (.d (.lst HD)) S)
    (lp : loopF (evG (.nm 10)) (evK t31 b31_1) [10, 11, 13] 1 (rngL 0 k) [some (.d (.ro (ns.map .int))), some (.d (.lst N)), some (.d (.int f)), some (.d (.lst s2)), some (.d (.lst tb1)), none, some (.d (.int i)), some (.d (.lst C)), none, some (.m 0), none, none, none, none, none, none] [some (.lst [.lst HD])] = .nx [some (.d (.ro (ns.map .int))), some (.d (.lst N)), some (.d (.int f)), some (.d (.lst s2)), some (.d (.lst tb1)), none, some (.d (.int i)), some (.d (.lst C)), none, some (.m 0), none, none, none, none, none, none] [some (.lst RR)])
    (e6 : ∀ e S, callF F29 [.d (.lst s2), .d (.lst tb1)] e [] S = .ok (.d sy) S)
    (e8 : ∀ e S, callF F22 [.d sy, .d (.int i)] e [] S = .ok (.d x) S)
    (e9 : ∀ e S, callF F30 [.d (.lst RR)] e [] S = .ok (.d x) S)
    (eq : ∀ S, cmpW .eq (.d x) (.d x) S = some true) (il : ∀ S, isiW "list" (.d x) S = some true) : F31 [.d (.ro (ns.map .int))] [] = .ok (.d (.bl true)) [] := by
  have z1 : 1 ≤ sizeLine := small (by decide)
  obtain ⟨a, va, ha⟩ := v50 []
  unfold F31 b31
  refine run_rt rfl (S' := [none]) ?_
  rw [seqB (e2 := [some (.d (.ro (ns.map .int))), some (.d (.lst N)), none, none, none, none, none, none, none, none, none, none, none, none, none, none]) (S2 := []) (by
    clear e3 e5 l1 l2 l3 lp
    walk_at "ev")]
  rw [seqB e3]
  rw [seqB (e2 := [some (.d (.ro (ns.map .int))), some (.d (.lst N)), some (.d (.int f)), some (.d (.lst s1)), none, none, none, none, none, none, none, none, none, none, none, none]) (S2 := []) (by
    clear e3 e5 l1 l2 l3 lp
    walk_at "ev")]
  rw [seqB e5]
  clear e3 e5 e0 e1 e4
  rw [seqB (e2 := [some (.d (.ro (ns.map .int))), some (.d (.lst N)), some (.d (.int f)), some (.d (.lst s2)), some (.d (.lst tb1)), none, none, none, none, none, none, none, none, none, none, none]) (S2 := []) (by
    clear l2 l3 lp
    walk_at "ev")]
  rw [seqB (e2 := [some (.d (.ro (ns.map .int))), some (.d (.lst N)), some (.d (.int f)), some (.d (.lst s2)), some (.d (.lst tb1)), none, some (.d (.int i)), none, none, none, none, none, none, none, none, none]) (S2 := []) (by
    clear l1 l2 l3 lp
    walk_at "ev")]
  rw [seqB (e2 := [some (.d (.ro (ns.map .int))), some (.d (.lst N)), some (.d (.int f)), some (.d (.lst s2)), some (.d (.lst tb1)), none, some (.d (.int i)), some (.d (.lst C)), none, none, none, none, none, none, none, none]) (S2 := []) (by
    clear l1 l3 lp
    walk_at "ev")]
  rw [seqB (e2 := [some (.d (.ro (ns.map .int))), some (.d (.lst N)), some (.d (.int f)), some (.d (.lst s2)), some (.d (.lst tb1)), none, some (.d (.int i)), some (.d (.lst C)), none, some (.m 0), none, none, none, none, none, none]) (S2 := [some (.lst [.lst HD])]) (by
    clear l1 l2 lp
    walk_at "ev")]
  rw [seqB (e2 := [some (.d (.ro (ns.map .int))), some (.d (.lst N)), some (.d (.int f)), some (.d (.lst s2)), some (.d (.lst tb1)), none, some (.d (.int i)), some (.d (.lst C)), none, some (.m 0), none, none, none, none, none, none]) (S2 := [some (.lst RR)]) (by
    refine Eq.trans ?_ lp
    clear l1 l2 l3 lp
    walk_at "ev")]
  clear l1 l2 l3 lp e2 va
  walk_at "ev"
theorem tab_lc (f : Int) (hf : okF f) (t : List Int) (ht : t.length ≤ 3) (h3 : ∀ x ∈ t, 0 ≤ x ∧ x ≤ 3) (x0 x1 x3 : D) : ∀ S, loopC (evG (.nm 5)) (evTK t31 .yes) (evEK t31 (.op true .mul (.var 5) (.var 2))) ((t.map D.int).map W.d) [some (.d (x0)), some (.d (x1)), some (.d (.int f)), some (.d (x3)), none, none, none, none, none, none, none, none, none, none, none, none] [] S = .ok ((t.map (· * f)).map .int) S := fun S => by
  rw [map_md, List.map_map]
  refine loopC_all0 (g := fun x : Int => W.d (.int x)) (f := D.int ∘ fun x : Int => x * f) (fun x hx => ⟨[some (.d (x0)), some (.d (x1)), some (.d (.int f)), some (.d (x3)), none, some (.d (.int x)), none, none, none, none, none, none, none, none, none, none], by rw [eg1]; rfl, rfl, ?_⟩) (small (by omega))
  have hm : mulOk x f = true := by
    rcases hf with rfl | rfl | rfl <;> simp [mulOk]
  show _ = R.ok (W.d (.int (x * f))) S
  clear hf h3 hx ht
  walk_at "ev"
theorem plain_ok (ns : List Int) (hn : ns.length ≤ 63) : ∃ S, F31 [.d (.ro (ns.map .int))] [] = .ok (.d (.bl true)) S := by
  obtain ⟨N, v, e0, hv, hr⟩ := nums ns 60 hn (by decide) (by decide)
  obtain ⟨ss, e1, s1, s2, s3, s4⟩ := specs_ok hv hr (by decide)
  obtain ⟨tb, e2, t1, t2, t3⟩ := table_ok hv hr 44 (by decide) (by decide)
  have v50 := hv 50 (by decide) (by decide)
  have v53 := hv 53 (by decide) (by decide)
  have v55 := hv 55 (by decide) (by decide)
  obtain ⟨f, hf, e3⟩ : ∃ f : Int, okF f ∧ ∀ S, ixW (.d (.lst [.int 1, .int 1, .int 17, .int 240])) (.d (.int (v 55 % 4))) S = .ok (.d (.int f)) S := by
    rcases (show v 55 % 4 = 0 ∨ v 55 % 4 = 1 ∨ v 55 % 4 = 2 ∨ v 55 % 4 = 3 by omega) with q | q | q | q <;> rw [q]
    · exact ⟨1, .inl rfl, fun S => ixl (atN (by decide) rfl)⟩
    · exact ⟨1, .inl rfl, fun S => ixl (atN (by decide) rfl)⟩
    · exact ⟨17, .inr (.inl rfl), fun S => ixl (atN (by decide) rfl)⟩
    · exact ⟨240, .inr (.inr rfl), fun S => ixl (atN (by decide) rfl)⟩
  have e4 := scaled_ok f hf ss s3 s2
  have o4 := scls_ok f hf ss s3 s2 s4
  obtain ⟨ss', o5, e5⟩ : ∃ ss' : List Spc, (okSS ss' ∧ ss'.length ≤ 2) ∧ evS t31 (.iff (.cmp .eq (.op true .mod (.bi true .int (.cons (.ix (.var 1) (.int 53)) .nil)) (.int 9)) (.int 4)) (.cons (.set 3 (.lst true .nil)) .nil) .nil) [some (.d (.ro (ns.map .int))), some (.d (.lst N)), some (.d (.int f)), some (.d (.lst ((ss.map (scl f)).map spD))), none, none, none, none, none, none, none, none, none, none, none, none] [] = .nx [some (.d (.ro (ns.map .int))), some (.d (.lst N)), some (.d (.int f)), some (.d (.lst (ss'.map spD))), none, none, none, none, none, none, none, none, none, none, none, none] [] := by
    cases q : decide (v 53 % 9 = 4) with
    | true =>
      refine ⟨[], ⟨⟨by decide, fun s hs => (List.not_mem_nil hs).elim, List.nodup_nil⟩, by decide⟩, ?_⟩
      clear e0 e1 s1 s2 s3 s4 e2 t1 t2 t3 e3 e4 o4 hf hr hv v50 v55
      walk_at "ev"
    | false =>
      refine ⟨ss.map (scl f), ⟨o4.1, o4.2.2⟩, ?_⟩
      clear e0 e1 s1 s2 s3 s4 e2 t1 t2 t3 e3 e4 o4 hf hr hv v50 v55
      walk_at "ev"
  have ht : okTb (tb.map (· * f)) := by
    refine ⟨by rw [List.length_map]; omega, by rw [List.length_map]; omega, fun x hx => ?_⟩
    obtain ⟨y, hy, rfl⟩ := List.mem_map.mp hx
    have := t3 y hy
    show 0 ≤ y * f ∧ y * f ≤ 1000000
    rcases hf with rfl | rfl | rfl <;> omega
  obtain ⟨L, hL⟩ : ∃ L : Nat, (L : Int) = v 50 % 25 := ⟨(v 50 % 25).toNat, by omega⟩
  have o6 : okD ss' (tb.map (· * f)) L := ⟨o5.1, o5.2, ht, by omega⟩
  have e6 := law_system_ok ss' (tb.map (· * f)) o5.1 ht
  have lp := law_loop o6 (.ro (ns.map .int)) (.lst N) (.int f) (.int (L : Int))
  rw [← rng_nat] at lp
  have e8 := dtable_ok o6
  have e9 : ∀ e S, callF F30 [.d (.lst ((rowsD ss' (tb.map (· * f)) L).map strsL))] e [] S = .ok (.d (strsL (linesD ss' (tb.map (· * f)) L))) S := llines_ok (rows := rowsD ss' (tb.map (· * f)) L) (n := ss'.length + 3) (by omega) (by have := o5.2; omega) (rowsD_ok o6).1 (rowsD_len o6).1 (rowsD_len o6).2
  have uu := linesD_U o6
  have eq : ∀ S, cmpW .eq (.d (strsL (linesD ss' (tb.map (· * f)) L))) (.d (strsL (linesD ss' (tb.map (· * f)) L))) S = some true := fun S => by
    rw [wl6 uu uu]
    simp
  have il : ∀ S, isiW "list" (.d (strsL (linesD ss' (tb.map (· * f)) L))) S = some true := fun S => rfl
  have zs : ss'.length ≤ sizeLine := small (by have := o5.2; omega)
  obtain ⟨b1, b2⟩ := hd_add (ss := ss') o5.2
  refine ⟨[], plain_run ns N f (L : Int) (L + 1) (by omega) (rsz (by omega) (by omega)) _ _ (ss'.map spD) _ ((tb.map (· * f)).map .int) _ _ ((ss'.map (·.1)).map .str) _ ((hdD ss').map .str) (cls ss' L) _ e0 (fun S => ⟨v 50, v50 S, hL.symm⟩) ?_ e1 e4 e5 e2 (tab_lc f hf tb t2 t3 _ _ _) (fun S => ?_) (fun S => ?_) b1 b2 lp e6 e8 e9 eq il⟩
  · clear e0 e1 s1 s2 s3 s4 e2 t1 t2 t3 e4 o4 hf hr hv v50 v53 e5 lp e6 e8 e9 uu eq il b1 b2 o6 ht o5
    walk_at "ev"
  · unfold cls
    rw [map_md]
    refine loopC_all0 (g := fun s : Spc => W.d (spD s)) (f := fun s : Spc => .lst ((dms s L).map .int)) (fun s hs => ⟨[some (.d (.ro (ns.map .int))), some (.d (.lst N)), some (.d (.int f)), some (.d (.lst (ss'.map spD))), some (.d (.lst ((tb.map (· * f)).map .int))), none, some (.d (.int (L : Int))), none, some (.d (spD s)), none, none, none, none, none, none, none], by rw [eg1]; rfl, rfl, ?_⟩) zs
    have f1 := totals_ok s (o5.1.2.1 s hs) L (by omega)
    have z1 : 1 ≤ sizeLine := small (by decide)
    obtain ⟨i, hi⟩ : ∃ i : Int, i = (L : Int) := ⟨_, rfl⟩
    rw [← hi] at f1 ⊢
    clear e0 e1 s1 s2 s3 s4 e2 t1 t2 t3 e4 o4 hf hr hv v50 v53 v55 e3 e5 lp e6 e8 e9 uu eq il b1 b2 o6 ht o5 hs hL hi
    walk_at "ev"
  · generalize (tb.map (· * f)).map D.int = X
    rw [map_md, List.map_map]
    refine loopC_all0 (g := fun s : Spc => W.d (spD s)) (f := D.str ∘ fun s : Spc => s.1) (fun s hs => ⟨[some (.d (.ro (ns.map .int))), some (.d (.lst N)), some (.d (.int f)), some (.d (.lst (ss'.map spD))), some (.d (.lst X)), none, some (.d (.int (L : Int))), some (.d (.lst (cls ss' L))), some (.d (spD s)), none, none, none, none, none, none, none], by rw [eg1]; rfl, rfl, ?_⟩) zs
    have i0 : ∀ S, ixW (.d (spD s)) (.d (.int 0)) S = .ok (.d (.str s.1)) S := @tup0 (.str s.1) _
    show _ = R.ok (W.d (.str s.1)) S
    obtain ⟨i, hi⟩ : ∃ i : Int, i = (L : Int) := ⟨_, rfl⟩
    rw [← hi]
    clear e0 e1 s1 s2 s3 s4 e2 t1 t2 t3 e4 o4 hf hr hv v50 v53 v55 e3 e5 lp e6 e8 e9 uu eq il b1 b2 o6 ht o5 hs hL hi
    walk_at "ev"
end En.K73
namespace En.K73
open PySem PySem.Spec PyProof.Rows L2 En
def top (i : Nat) : Stmt := PySem.Challenge.pw_neverlate_k73_demand_table.main.body.getD i (.Pass ⟨0, 0, 0, 0⟩)
def clsB : Stmt → List Stmt | .ClassDef _ _ _ b _ _ _ _ _ _ _ => b | _ => []
def topM (i j : Nat) : Stmt := (clsB (top i)).getD j (.Pass ⟨0, 0, 0, 0⟩)
def mkD (n : Str) (s : Stmt) : He.DefD := ⟨(n, none), n, n, defArgs s, defBody s, defScope s, [], []⟩
def mkDK (n : Str) (s : Stmt) (k : List (Str × He.Dv)) : He.DefD := ⟨(n, none), n, n, defArgs s, defBody s, defScope s, [], k⟩
def mkM (c m cm : Str) (s : Stmt) : He.DefD := ⟨(c, some m), m, cm, defArgs s, defBody s, defScope s, [], []⟩
def d0 : He.DefD := mkD "_law_row" (top 38)
def d1 : He.DefD := mkD "_law_numbers" (top 39)
def d2 : He.DefD := mkD "_law_scaled" (top 45)
def d3 : He.DefD := mkD "_law_name" (top 40)
def d4 : He.DefD := mkD "_law_kinds" (top 42)
def d5 : He.DefD := mkD "_law_ways" (top 43)
def d6 : He.DefD := mkD "_law_specs" (top 44)
def d7 : He.DefD := mkD "_law_table" (top 41)
def d8 : He.DefD := mkD "_law_index" (top 47)
def d9 : He.DefD := mkD "_law_totals" (top 48)
def d10 : He.DefD := mkD "_law_least_supply" (top 50)
def d11 : He.DefD := mkD "own_work" (top 9)
def d12 : He.DefD := mkM "Task" "kind_number" "Task.kind_number" (topM 31 3)
def d13 : He.DefD := mkM "Task" "ways_from" "Task.ways_from" (topM 31 6)
def d14 : He.DefD := mkD "best_continuation" (top 10)
def d15 : He.DefD := mkD "rows" (top 8)
def d16 : He.DefD := mkD "demands" (top 11)
def d17 : He.DefD := mkD "supply_of_first" (top 13)
def d18 : He.DefD := mkD "supply" (top 14)
def d19 : He.DefD := mkD "least_supply" (top 15)
def d20 : He.DefD := mkD "column_widths" (top 34)
def d21 : He.DefD := mkD "table_lines" (top 35)
def d22 : He.DefD := mkD "demand_table" (top 36)
def d23 : He.DefD := mkD "is_name" (top 27)
def d24 : He.DefD := mkD "are_kinds" (top 28)
def d25 : He.DefD := mkD "are_ways" (top 29)
def d26 : He.DefD := mkM "Task" "__init__" "Task.__init__" (topM 31 0)
def d27 : He.DefD := mkD "is_table" (top 30)
def d28 : He.DefD := mkM "System" "__init__" "System.__init__" (topM 32 0)
def d29 : He.DefD := mkD "_law_system" (top 46)
def d30 : He.DefD := mkD "_law_lines" (top 49)
def d31 : He.DefD := mkD "law" (top 51)
def fn : List He.DefD := [d0, d1, d2, d3, d4, d5, d6, d7, d8, d9, d10, d11, d12, d13, d14, d15, d16, d17, d18, d19, d20, d21, d22, d23, d24, d25, d26, d27, d28, d29, d30, d31]
def fa : List He.Fa := [.glo "_law_row", .glo "_law_numbers", .glo "_law_scaled", .glo "_law_name", .glo "_law_kinds", .glo "_law_ways", .glo "_law_specs", .glo "_law_table", .glo "_law_index", .glo "_law_totals", .glo "_law_least_supply", .glo "own_work", .glo "best_continuation", .glo "rows", .glo "demands", .glo "supply_of_first", .glo "supply", .glo "least_supply", .glo "column_widths", .glo "table_lines", .glo "demand_table", .glo "is_name", .glo "are_kinds", .glo "are_ways", .glo "is_table", .glo "_law_system", .glo "_law_lines", .glo "law", .glo "Task", .mkr "Task", .glo "System", .mkr "System", .cls "Task", .meth "Task" "kind_number", .meth "Task" "ways_from", .noat "Task" "kinds", .noat "Task" "ways", .cls "System", .noat "System" "table", .noat "System" "tasks", .noat "Task" "name"]
def fr : List He.Fa := fnames.map .free
def flds : List (Str × Str) := [("Task", "kinds"), ("Task", "ways"), ("System", "table"), ("System", "tasks"), ("Task", "name")]
def xns : List Str := []
def xfs : List Str := []
def rzs : List Str := []
def g0 : Gs := ⟨[], ["MOST_NAME_CHARS", "NAME_CHARS", "MOST_KINDS", "MOST_COST", "MOST_DEADLINE", "MOST_WAYS", "MOST_DISTANCE", "MOST_SLOTS", "MOST_CAPACITY", "MOST_TASKS"], [], [], [], flds, false, [], xns, xfs, rzs, false⟩
def g1 : Gs := ⟨[⟨"_law_row", 2⟩], ["MOST_NAME_CHARS", "NAME_CHARS", "MOST_KINDS", "MOST_COST", "MOST_DEADLINE", "MOST_WAYS", "MOST_DISTANCE", "MOST_SLOTS", "MOST_CAPACITY", "MOST_TASKS"], [], [], [], flds, false, [], xns, xfs, rzs, false⟩
def g2 : Gs := ⟨[⟨"_law_row", 2⟩, ⟨"_law_numbers", 2⟩], ["MOST_NAME_CHARS", "NAME_CHARS", "MOST_KINDS", "MOST_COST", "MOST_DEADLINE", "MOST_WAYS", "MOST_DISTANCE", "MOST_SLOTS", "MOST_CAPACITY", "MOST_TASKS"], [], [], [], flds, false, [], xns, xfs, rzs, false⟩
def g3 : Gs := ⟨[⟨"_law_row", 2⟩, ⟨"_law_numbers", 2⟩, ⟨"_law_scaled", 2⟩], ["MOST_NAME_CHARS", "NAME_CHARS", "MOST_KINDS", "MOST_COST", "MOST_DEADLINE", "MOST_WAYS", "MOST_DISTANCE", "MOST_SLOTS", "MOST_CAPACITY", "MOST_TASKS"], [], [], [], flds, false, [], xns, xfs, rzs, false⟩
def g4 : Gs := ⟨[⟨"_law_row", 2⟩, ⟨"_law_numbers", 2⟩, ⟨"_law_scaled", 2⟩, ⟨"_law_name", 2⟩], ["MOST_NAME_CHARS", "NAME_CHARS", "MOST_KINDS", "MOST_COST", "MOST_DEADLINE", "MOST_WAYS", "MOST_DISTANCE", "MOST_SLOTS", "MOST_CAPACITY", "MOST_TASKS"], [], [], [], flds, false, [], xns, xfs, rzs, false⟩
def g5 : Gs := ⟨[⟨"_law_row", 2⟩, ⟨"_law_numbers", 2⟩, ⟨"_law_scaled", 2⟩, ⟨"_law_name", 2⟩, ⟨"_law_kinds", 2⟩], ["MOST_NAME_CHARS", "NAME_CHARS", "MOST_KINDS", "MOST_COST", "MOST_DEADLINE", "MOST_WAYS", "MOST_DISTANCE", "MOST_SLOTS", "MOST_CAPACITY", "MOST_TASKS"], [], [], [], flds, false, [], xns, xfs, rzs, false⟩
def g6 : Gs := ⟨[⟨"_law_row", 2⟩, ⟨"_law_numbers", 2⟩, ⟨"_law_scaled", 2⟩, ⟨"_law_name", 2⟩, ⟨"_law_kinds", 2⟩, ⟨"_law_ways", 3⟩], ["MOST_NAME_CHARS", "NAME_CHARS", "MOST_KINDS", "MOST_COST", "MOST_DEADLINE", "MOST_WAYS", "MOST_DISTANCE", "MOST_SLOTS", "MOST_CAPACITY", "MOST_TASKS"], [], [], [], flds, false, [], xns, xfs, rzs, false⟩
def g7 : Gs := ⟨[⟨"_law_row", 2⟩, ⟨"_law_numbers", 2⟩, ⟨"_law_scaled", 2⟩, ⟨"_law_name", 2⟩, ⟨"_law_kinds", 2⟩, ⟨"_law_ways", 3⟩, ⟨"_law_specs", 1⟩], ["MOST_NAME_CHARS", "NAME_CHARS", "MOST_KINDS", "MOST_COST", "MOST_DEADLINE", "MOST_WAYS", "MOST_DISTANCE", "MOST_SLOTS", "MOST_CAPACITY", "MOST_TASKS"], [], [], [], flds, false, [], xns, xfs, rzs, false⟩
def g8 : Gs := ⟨[⟨"_law_row", 2⟩, ⟨"_law_numbers", 2⟩, ⟨"_law_scaled", 2⟩, ⟨"_law_name", 2⟩, ⟨"_law_kinds", 2⟩, ⟨"_law_ways", 3⟩, ⟨"_law_specs", 1⟩, ⟨"_law_table", 2⟩], ["MOST_NAME_CHARS", "NAME_CHARS", "MOST_KINDS", "MOST_COST", "MOST_DEADLINE", "MOST_WAYS", "MOST_DISTANCE", "MOST_SLOTS", "MOST_CAPACITY", "MOST_TASKS"], [], [], [], flds, false, [], xns, xfs, rzs, false⟩
def g9 : Gs := ⟨[⟨"_law_row", 2⟩, ⟨"_law_numbers", 2⟩, ⟨"_law_scaled", 2⟩, ⟨"_law_name", 2⟩, ⟨"_law_kinds", 2⟩, ⟨"_law_ways", 3⟩, ⟨"_law_specs", 1⟩, ⟨"_law_table", 2⟩, ⟨"_law_index", 2⟩], ["MOST_NAME_CHARS", "NAME_CHARS", "MOST_KINDS", "MOST_COST", "MOST_DEADLINE", "MOST_WAYS", "MOST_DISTANCE", "MOST_SLOTS", "MOST_CAPACITY", "MOST_TASKS"], [], [], [], flds, false, [], xns, xfs, rzs, false⟩
def g10 : Gs := ⟨[⟨"_law_row", 2⟩, ⟨"_law_numbers", 2⟩, ⟨"_law_scaled", 2⟩, ⟨"_law_name", 2⟩, ⟨"_law_kinds", 2⟩, ⟨"_law_ways", 3⟩, ⟨"_law_specs", 1⟩, ⟨"_law_table", 2⟩, ⟨"_law_index", 2⟩, ⟨"_law_totals", 2⟩], ["MOST_NAME_CHARS", "NAME_CHARS", "MOST_KINDS", "MOST_COST", "MOST_DEADLINE", "MOST_WAYS", "MOST_DISTANCE", "MOST_SLOTS", "MOST_CAPACITY", "MOST_TASKS"], [], [], [], flds, false, [], xns, xfs, rzs, false⟩
def g11 : Gs := ⟨[⟨"_law_row", 2⟩, ⟨"_law_numbers", 2⟩, ⟨"_law_scaled", 2⟩, ⟨"_law_name", 2⟩, ⟨"_law_kinds", 2⟩, ⟨"_law_ways", 3⟩, ⟨"_law_specs", 1⟩, ⟨"_law_table", 2⟩, ⟨"_law_index", 2⟩, ⟨"_law_totals", 2⟩, ⟨"_law_least_supply", 2⟩], ["MOST_NAME_CHARS", "NAME_CHARS", "MOST_KINDS", "MOST_COST", "MOST_DEADLINE", "MOST_WAYS", "MOST_DISTANCE", "MOST_SLOTS", "MOST_CAPACITY", "MOST_TASKS"], [], [], [], flds, false, [], xns, xfs, rzs, false⟩
def g12 : Gs := ⟨[⟨"_law_row", 2⟩, ⟨"_law_numbers", 2⟩, ⟨"_law_scaled", 2⟩, ⟨"_law_name", 2⟩, ⟨"_law_kinds", 2⟩, ⟨"_law_ways", 3⟩, ⟨"_law_specs", 1⟩, ⟨"_law_table", 2⟩, ⟨"_law_index", 2⟩, ⟨"_law_totals", 2⟩, ⟨"_law_least_supply", 2⟩, ⟨"own_work", 2⟩], ["MOST_NAME_CHARS", "NAME_CHARS", "MOST_KINDS", "MOST_COST", "MOST_DEADLINE", "MOST_WAYS", "MOST_DISTANCE", "MOST_SLOTS", "MOST_CAPACITY", "MOST_TASKS"], [], [], [], flds, false, [], xns, xfs, rzs, false⟩
def g13 : Gs := ⟨[⟨"_law_row", 2⟩, ⟨"_law_numbers", 2⟩, ⟨"_law_scaled", 2⟩, ⟨"_law_name", 2⟩, ⟨"_law_kinds", 2⟩, ⟨"_law_ways", 3⟩, ⟨"_law_specs", 1⟩, ⟨"_law_table", 2⟩, ⟨"_law_index", 2⟩, ⟨"_law_totals", 2⟩, ⟨"_law_least_supply", 2⟩, ⟨"own_work", 2⟩], ["MOST_NAME_CHARS", "NAME_CHARS", "MOST_KINDS", "MOST_COST", "MOST_DEADLINE", "MOST_WAYS", "MOST_DISTANCE", "MOST_SLOTS", "MOST_CAPACITY", "MOST_TASKS"], [], [⟨"Task", "kind_number", 1, []⟩], [], flds, false, [], xns, xfs, rzs, false⟩
def g14 : Gs := ⟨[⟨"_law_row", 2⟩, ⟨"_law_numbers", 2⟩, ⟨"_law_scaled", 2⟩, ⟨"_law_name", 2⟩, ⟨"_law_kinds", 2⟩, ⟨"_law_ways", 3⟩, ⟨"_law_specs", 1⟩, ⟨"_law_table", 2⟩, ⟨"_law_index", 2⟩, ⟨"_law_totals", 2⟩, ⟨"_law_least_supply", 2⟩, ⟨"own_work", 2⟩], ["MOST_NAME_CHARS", "NAME_CHARS", "MOST_KINDS", "MOST_COST", "MOST_DEADLINE", "MOST_WAYS", "MOST_DISTANCE", "MOST_SLOTS", "MOST_CAPACITY", "MOST_TASKS"], [], [⟨"Task", "kind_number", 1, []⟩, ⟨"Task", "ways_from", 1, []⟩], [], flds, false, [], xns, xfs, rzs, false⟩
def g15 : Gs := ⟨[⟨"_law_row", 2⟩, ⟨"_law_numbers", 2⟩, ⟨"_law_scaled", 2⟩, ⟨"_law_name", 2⟩, ⟨"_law_kinds", 2⟩, ⟨"_law_ways", 3⟩, ⟨"_law_specs", 1⟩, ⟨"_law_table", 2⟩, ⟨"_law_index", 2⟩, ⟨"_law_totals", 2⟩, ⟨"_law_least_supply", 2⟩, ⟨"own_work", 2⟩, ⟨"best_continuation", 4⟩], ["MOST_NAME_CHARS", "NAME_CHARS", "MOST_KINDS", "MOST_COST", "MOST_DEADLINE", "MOST_WAYS", "MOST_DISTANCE", "MOST_SLOTS", "MOST_CAPACITY", "MOST_TASKS"], [], [⟨"Task", "kind_number", 1, []⟩, ⟨"Task", "ways_from", 1, []⟩], [], flds, false, [], xns, xfs, rzs, false⟩
def g16 : Gs := ⟨[⟨"_law_row", 2⟩, ⟨"_law_numbers", 2⟩, ⟨"_law_scaled", 2⟩, ⟨"_law_name", 2⟩, ⟨"_law_kinds", 2⟩, ⟨"_law_ways", 3⟩, ⟨"_law_specs", 1⟩, ⟨"_law_table", 2⟩, ⟨"_law_index", 2⟩, ⟨"_law_totals", 2⟩, ⟨"_law_least_supply", 2⟩, ⟨"own_work", 2⟩, ⟨"best_continuation", 4⟩, ⟨"rows", 2⟩], ["MOST_NAME_CHARS", "NAME_CHARS", "MOST_KINDS", "MOST_COST", "MOST_DEADLINE", "MOST_WAYS", "MOST_DISTANCE", "MOST_SLOTS", "MOST_CAPACITY", "MOST_TASKS"], [], [⟨"Task", "kind_number", 1, []⟩, ⟨"Task", "ways_from", 1, []⟩], [], flds, false, [], xns, xfs, rzs, false⟩
def g17 : Gs := ⟨[⟨"_law_row", 2⟩, ⟨"_law_numbers", 2⟩, ⟨"_law_scaled", 2⟩, ⟨"_law_name", 2⟩, ⟨"_law_kinds", 2⟩, ⟨"_law_ways", 3⟩, ⟨"_law_specs", 1⟩, ⟨"_law_table", 2⟩, ⟨"_law_index", 2⟩, ⟨"_law_totals", 2⟩, ⟨"_law_least_supply", 2⟩, ⟨"own_work", 2⟩, ⟨"best_continuation", 4⟩, ⟨"rows", 2⟩, ⟨"demands", 2⟩], ["MOST_NAME_CHARS", "NAME_CHARS", "MOST_KINDS", "MOST_COST", "MOST_DEADLINE", "MOST_WAYS", "MOST_DISTANCE", "MOST_SLOTS", "MOST_CAPACITY", "MOST_TASKS"], [], [⟨"Task", "kind_number", 1, []⟩, ⟨"Task", "ways_from", 1, []⟩], [], flds, false, [], xns, xfs, rzs, false⟩
def g18 : Gs := ⟨[⟨"_law_row", 2⟩, ⟨"_law_numbers", 2⟩, ⟨"_law_scaled", 2⟩, ⟨"_law_name", 2⟩, ⟨"_law_kinds", 2⟩, ⟨"_law_ways", 3⟩, ⟨"_law_specs", 1⟩, ⟨"_law_table", 2⟩, ⟨"_law_index", 2⟩, ⟨"_law_totals", 2⟩, ⟨"_law_least_supply", 2⟩, ⟨"own_work", 2⟩, ⟨"best_continuation", 4⟩, ⟨"rows", 2⟩, ⟨"demands", 2⟩, ⟨"supply_of_first", 2⟩], ["MOST_NAME_CHARS", "NAME_CHARS", "MOST_KINDS", "MOST_COST", "MOST_DEADLINE", "MOST_WAYS", "MOST_DISTANCE", "MOST_SLOTS", "MOST_CAPACITY", "MOST_TASKS"], [], [⟨"Task", "kind_number", 1, []⟩, ⟨"Task", "ways_from", 1, []⟩], [], flds, false, [], xns, xfs, rzs, false⟩
def g19 : Gs := ⟨[⟨"_law_row", 2⟩, ⟨"_law_numbers", 2⟩, ⟨"_law_scaled", 2⟩, ⟨"_law_name", 2⟩, ⟨"_law_kinds", 2⟩, ⟨"_law_ways", 3⟩, ⟨"_law_specs", 1⟩, ⟨"_law_table", 2⟩, ⟨"_law_index", 2⟩, ⟨"_law_totals", 2⟩, ⟨"_law_least_supply", 2⟩, ⟨"own_work", 2⟩, ⟨"best_continuation", 4⟩, ⟨"rows", 2⟩, ⟨"demands", 2⟩, ⟨"supply_of_first", 2⟩, ⟨"supply", 3⟩], ["MOST_NAME_CHARS", "NAME_CHARS", "MOST_KINDS", "MOST_COST", "MOST_DEADLINE", "MOST_WAYS", "MOST_DISTANCE", "MOST_SLOTS", "MOST_CAPACITY", "MOST_TASKS"], [], [⟨"Task", "kind_number", 1, []⟩, ⟨"Task", "ways_from", 1, []⟩], [], flds, false, [], xns, xfs, rzs, false⟩
def g20 : Gs := ⟨[⟨"_law_row", 2⟩, ⟨"_law_numbers", 2⟩, ⟨"_law_scaled", 2⟩, ⟨"_law_name", 2⟩, ⟨"_law_kinds", 2⟩, ⟨"_law_ways", 3⟩, ⟨"_law_specs", 1⟩, ⟨"_law_table", 2⟩, ⟨"_law_index", 2⟩, ⟨"_law_totals", 2⟩, ⟨"_law_least_supply", 2⟩, ⟨"own_work", 2⟩, ⟨"best_continuation", 4⟩, ⟨"rows", 2⟩, ⟨"demands", 2⟩, ⟨"supply_of_first", 2⟩, ⟨"supply", 3⟩, ⟨"least_supply", 2⟩], ["MOST_NAME_CHARS", "NAME_CHARS", "MOST_KINDS", "MOST_COST", "MOST_DEADLINE", "MOST_WAYS", "MOST_DISTANCE", "MOST_SLOTS", "MOST_CAPACITY", "MOST_TASKS"], [], [⟨"Task", "kind_number", 1, []⟩, ⟨"Task", "ways_from", 1, []⟩], [], flds, false, [], xns, xfs, rzs, false⟩
def g21 : Gs := ⟨[⟨"_law_row", 2⟩, ⟨"_law_numbers", 2⟩, ⟨"_law_scaled", 2⟩, ⟨"_law_name", 2⟩, ⟨"_law_kinds", 2⟩, ⟨"_law_ways", 3⟩, ⟨"_law_specs", 1⟩, ⟨"_law_table", 2⟩, ⟨"_law_index", 2⟩, ⟨"_law_totals", 2⟩, ⟨"_law_least_supply", 2⟩, ⟨"own_work", 2⟩, ⟨"best_continuation", 4⟩, ⟨"rows", 2⟩, ⟨"demands", 2⟩, ⟨"supply_of_first", 2⟩, ⟨"supply", 3⟩, ⟨"least_supply", 2⟩, ⟨"column_widths", 1⟩], ["MOST_NAME_CHARS", "NAME_CHARS", "MOST_KINDS", "MOST_COST", "MOST_DEADLINE", "MOST_WAYS", "MOST_DISTANCE", "MOST_SLOTS", "MOST_CAPACITY", "MOST_TASKS"], [], [⟨"Task", "kind_number", 1, []⟩, ⟨"Task", "ways_from", 1, []⟩], [], flds, false, [], xns, xfs, rzs, false⟩
def g22 : Gs := ⟨[⟨"_law_row", 2⟩, ⟨"_law_numbers", 2⟩, ⟨"_law_scaled", 2⟩, ⟨"_law_name", 2⟩, ⟨"_law_kinds", 2⟩, ⟨"_law_ways", 3⟩, ⟨"_law_specs", 1⟩, ⟨"_law_table", 2⟩, ⟨"_law_index", 2⟩, ⟨"_law_totals", 2⟩, ⟨"_law_least_supply", 2⟩, ⟨"own_work", 2⟩, ⟨"best_continuation", 4⟩, ⟨"rows", 2⟩, ⟨"demands", 2⟩, ⟨"supply_of_first", 2⟩, ⟨"supply", 3⟩, ⟨"least_supply", 2⟩, ⟨"column_widths", 1⟩, ⟨"table_lines", 1⟩], ["MOST_NAME_CHARS", "NAME_CHARS", "MOST_KINDS", "MOST_COST", "MOST_DEADLINE", "MOST_WAYS", "MOST_DISTANCE", "MOST_SLOTS", "MOST_CAPACITY", "MOST_TASKS"], [], [⟨"Task", "kind_number", 1, []⟩, ⟨"Task", "ways_from", 1, []⟩], [], flds, false, [], xns, xfs, rzs, false⟩
def g23 : Gs := ⟨[⟨"_law_row", 2⟩, ⟨"_law_numbers", 2⟩, ⟨"_law_scaled", 2⟩, ⟨"_law_name", 2⟩, ⟨"_law_kinds", 2⟩, ⟨"_law_ways", 3⟩, ⟨"_law_specs", 1⟩, ⟨"_law_table", 2⟩, ⟨"_law_index", 2⟩, ⟨"_law_totals", 2⟩, ⟨"_law_least_supply", 2⟩, ⟨"own_work", 2⟩, ⟨"best_continuation", 4⟩, ⟨"rows", 2⟩, ⟨"demands", 2⟩, ⟨"supply_of_first", 2⟩, ⟨"supply", 3⟩, ⟨"least_supply", 2⟩, ⟨"column_widths", 1⟩, ⟨"table_lines", 1⟩], ["MOST_NAME_CHARS", "NAME_CHARS", "MOST_KINDS", "MOST_COST", "MOST_DEADLINE", "MOST_WAYS", "MOST_DISTANCE", "MOST_SLOTS", "MOST_CAPACITY", "MOST_TASKS"], [⟨"demand_table", 1, ["length"]⟩], [⟨"Task", "kind_number", 1, []⟩, ⟨"Task", "ways_from", 1, []⟩], [], flds, false, [], xns, xfs, rzs, false⟩
def g24 : Gs := ⟨[⟨"_law_row", 2⟩, ⟨"_law_numbers", 2⟩, ⟨"_law_scaled", 2⟩, ⟨"_law_name", 2⟩, ⟨"_law_kinds", 2⟩, ⟨"_law_ways", 3⟩, ⟨"_law_specs", 1⟩, ⟨"_law_table", 2⟩, ⟨"_law_index", 2⟩, ⟨"_law_totals", 2⟩, ⟨"_law_least_supply", 2⟩, ⟨"own_work", 2⟩, ⟨"best_continuation", 4⟩, ⟨"rows", 2⟩, ⟨"demands", 2⟩, ⟨"supply_of_first", 2⟩, ⟨"supply", 3⟩, ⟨"least_supply", 2⟩, ⟨"column_widths", 1⟩, ⟨"table_lines", 1⟩, ⟨"is_name", 1⟩], ["MOST_NAME_CHARS", "NAME_CHARS", "MOST_KINDS", "MOST_COST", "MOST_DEADLINE", "MOST_WAYS", "MOST_DISTANCE", "MOST_SLOTS", "MOST_CAPACITY", "MOST_TASKS"], [⟨"demand_table", 1, ["length"]⟩], [⟨"Task", "kind_number", 1, []⟩, ⟨"Task", "ways_from", 1, []⟩], [], flds, false, [], xns, xfs, rzs, false⟩
def g25 : Gs := ⟨[⟨"_law_row", 2⟩, ⟨"_law_numbers", 2⟩, ⟨"_law_scaled", 2⟩, ⟨"_law_name", 2⟩, ⟨"_law_kinds", 2⟩, ⟨"_law_ways", 3⟩, ⟨"_law_specs", 1⟩, ⟨"_law_table", 2⟩, ⟨"_law_index", 2⟩, ⟨"_law_totals", 2⟩, ⟨"_law_least_supply", 2⟩, ⟨"own_work", 2⟩, ⟨"best_continuation", 4⟩, ⟨"rows", 2⟩, ⟨"demands", 2⟩, ⟨"supply_of_first", 2⟩, ⟨"supply", 3⟩, ⟨"least_supply", 2⟩, ⟨"column_widths", 1⟩, ⟨"table_lines", 1⟩, ⟨"is_name", 1⟩, ⟨"are_kinds", 1⟩], ["MOST_NAME_CHARS", "NAME_CHARS", "MOST_KINDS", "MOST_COST", "MOST_DEADLINE", "MOST_WAYS", "MOST_DISTANCE", "MOST_SLOTS", "MOST_CAPACITY", "MOST_TASKS"], [⟨"demand_table", 1, ["length"]⟩], [⟨"Task", "kind_number", 1, []⟩, ⟨"Task", "ways_from", 1, []⟩], [], flds, false, [], xns, xfs, rzs, false⟩
def g26 : Gs := ⟨[⟨"_law_row", 2⟩, ⟨"_law_numbers", 2⟩, ⟨"_law_scaled", 2⟩, ⟨"_law_name", 2⟩, ⟨"_law_kinds", 2⟩, ⟨"_law_ways", 3⟩, ⟨"_law_specs", 1⟩, ⟨"_law_table", 2⟩, ⟨"_law_index", 2⟩, ⟨"_law_totals", 2⟩, ⟨"_law_least_supply", 2⟩, ⟨"own_work", 2⟩, ⟨"best_continuation", 4⟩, ⟨"rows", 2⟩, ⟨"demands", 2⟩, ⟨"supply_of_first", 2⟩, ⟨"supply", 3⟩, ⟨"least_supply", 2⟩, ⟨"column_widths", 1⟩, ⟨"table_lines", 1⟩, ⟨"is_name", 1⟩, ⟨"are_kinds", 1⟩, ⟨"are_ways", 2⟩], ["MOST_NAME_CHARS", "NAME_CHARS", "MOST_KINDS", "MOST_COST", "MOST_DEADLINE", "MOST_WAYS", "MOST_DISTANCE", "MOST_SLOTS", "MOST_CAPACITY", "MOST_TASKS"], [⟨"demand_table", 1, ["length"]⟩], [⟨"Task", "kind_number", 1, []⟩, ⟨"Task", "ways_from", 1, []⟩], [], flds, false, [], xns, xfs, rzs, false⟩
def g27 : Gs := ⟨[⟨"_law_row", 2⟩, ⟨"_law_numbers", 2⟩, ⟨"_law_scaled", 2⟩, ⟨"_law_name", 2⟩, ⟨"_law_kinds", 2⟩, ⟨"_law_ways", 3⟩, ⟨"_law_specs", 1⟩, ⟨"_law_table", 2⟩, ⟨"_law_index", 2⟩, ⟨"_law_totals", 2⟩, ⟨"_law_least_supply", 2⟩, ⟨"own_work", 2⟩, ⟨"best_continuation", 4⟩, ⟨"rows", 2⟩, ⟨"demands", 2⟩, ⟨"supply_of_first", 2⟩, ⟨"supply", 3⟩, ⟨"least_supply", 2⟩, ⟨"column_widths", 1⟩, ⟨"table_lines", 1⟩, ⟨"is_name", 1⟩, ⟨"are_kinds", 1⟩, ⟨"are_ways", 2⟩], ["MOST_NAME_CHARS", "NAME_CHARS", "MOST_KINDS", "MOST_COST", "MOST_DEADLINE", "MOST_WAYS", "MOST_DISTANCE", "MOST_SLOTS", "MOST_CAPACITY", "MOST_TASKS"], [⟨"demand_table", 1, ["length"]⟩], [⟨"Task", "kind_number", 1, []⟩, ⟨"Task", "ways_from", 1, []⟩], [⟨"Task", 1, ["kinds", "ways"]⟩], flds, false, [], xns, xfs, rzs, false⟩
def g28 : Gs := ⟨[⟨"_law_row", 2⟩, ⟨"_law_numbers", 2⟩, ⟨"_law_scaled", 2⟩, ⟨"_law_name", 2⟩, ⟨"_law_kinds", 2⟩, ⟨"_law_ways", 3⟩, ⟨"_law_specs", 1⟩, ⟨"_law_table", 2⟩, ⟨"_law_index", 2⟩, ⟨"_law_totals", 2⟩, ⟨"_law_least_supply", 2⟩, ⟨"own_work", 2⟩, ⟨"best_continuation", 4⟩, ⟨"rows", 2⟩, ⟨"demands", 2⟩, ⟨"supply_of_first", 2⟩, ⟨"supply", 3⟩, ⟨"least_supply", 2⟩, ⟨"column_widths", 1⟩, ⟨"table_lines", 1⟩, ⟨"is_name", 1⟩, ⟨"are_kinds", 1⟩, ⟨"are_ways", 2⟩, ⟨"is_table", 1⟩], ["MOST_NAME_CHARS", "NAME_CHARS", "MOST_KINDS", "MOST_COST", "MOST_DEADLINE", "MOST_WAYS", "MOST_DISTANCE", "MOST_SLOTS", "MOST_CAPACITY", "MOST_TASKS"], [⟨"demand_table", 1, ["length"]⟩], [⟨"Task", "kind_number", 1, []⟩, ⟨"Task", "ways_from", 1, []⟩], [⟨"Task", 1, ["kinds", "ways"]⟩], flds, false, [], xns, xfs, rzs, false⟩
def g29 : Gs := ⟨[⟨"_law_row", 2⟩, ⟨"_law_numbers", 2⟩, ⟨"_law_scaled", 2⟩, ⟨"_law_name", 2⟩, ⟨"_law_kinds", 2⟩, ⟨"_law_ways", 3⟩, ⟨"_law_specs", 1⟩, ⟨"_law_table", 2⟩, ⟨"_law_index", 2⟩, ⟨"_law_totals", 2⟩, ⟨"_law_least_supply", 2⟩, ⟨"own_work", 2⟩, ⟨"best_continuation", 4⟩, ⟨"rows", 2⟩, ⟨"demands", 2⟩, ⟨"supply_of_first", 2⟩, ⟨"supply", 3⟩, ⟨"least_supply", 2⟩, ⟨"column_widths", 1⟩, ⟨"table_lines", 1⟩, ⟨"is_name", 1⟩, ⟨"are_kinds", 1⟩, ⟨"are_ways", 2⟩, ⟨"is_table", 1⟩], ["MOST_NAME_CHARS", "NAME_CHARS", "MOST_KINDS", "MOST_COST", "MOST_DEADLINE", "MOST_WAYS", "MOST_DISTANCE", "MOST_SLOTS", "MOST_CAPACITY", "MOST_TASKS"], [⟨"demand_table", 1, ["length"]⟩], [⟨"Task", "kind_number", 1, []⟩, ⟨"Task", "ways_from", 1, []⟩], [⟨"Task", 1, ["kinds", "ways"]⟩, ⟨"System", 1, ["table"]⟩], flds, false, [], xns, xfs, rzs, false⟩
def g30 : Gs := ⟨[⟨"_law_row", 2⟩, ⟨"_law_numbers", 2⟩, ⟨"_law_scaled", 2⟩, ⟨"_law_name", 2⟩, ⟨"_law_kinds", 2⟩, ⟨"_law_ways", 3⟩, ⟨"_law_specs", 1⟩, ⟨"_law_table", 2⟩, ⟨"_law_index", 2⟩, ⟨"_law_totals", 2⟩, ⟨"_law_least_supply", 2⟩, ⟨"own_work", 2⟩, ⟨"best_continuation", 4⟩, ⟨"rows", 2⟩, ⟨"demands", 2⟩, ⟨"supply_of_first", 2⟩, ⟨"supply", 3⟩, ⟨"least_supply", 2⟩, ⟨"column_widths", 1⟩, ⟨"table_lines", 1⟩, ⟨"is_name", 1⟩, ⟨"are_kinds", 1⟩, ⟨"are_ways", 2⟩, ⟨"is_table", 1⟩, ⟨"_law_system", 2⟩], ["MOST_NAME_CHARS", "NAME_CHARS", "MOST_KINDS", "MOST_COST", "MOST_DEADLINE", "MOST_WAYS", "MOST_DISTANCE", "MOST_SLOTS", "MOST_CAPACITY", "MOST_TASKS"], [⟨"demand_table", 1, ["length"]⟩], [⟨"Task", "kind_number", 1, []⟩, ⟨"Task", "ways_from", 1, []⟩], [⟨"Task", 1, ["kinds", "ways"]⟩, ⟨"System", 1, ["table"]⟩], flds, false, [], xns, xfs, rzs, false⟩
def g31 : Gs := ⟨[⟨"_law_row", 2⟩, ⟨"_law_numbers", 2⟩, ⟨"_law_scaled", 2⟩, ⟨"_law_name", 2⟩, ⟨"_law_kinds", 2⟩, ⟨"_law_ways", 3⟩, ⟨"_law_specs", 1⟩, ⟨"_law_table", 2⟩, ⟨"_law_index", 2⟩, ⟨"_law_totals", 2⟩, ⟨"_law_least_supply", 2⟩, ⟨"own_work", 2⟩, ⟨"best_continuation", 4⟩, ⟨"rows", 2⟩, ⟨"demands", 2⟩, ⟨"supply_of_first", 2⟩, ⟨"supply", 3⟩, ⟨"least_supply", 2⟩, ⟨"column_widths", 1⟩, ⟨"table_lines", 1⟩, ⟨"is_name", 1⟩, ⟨"are_kinds", 1⟩, ⟨"are_ways", 2⟩, ⟨"is_table", 1⟩, ⟨"_law_system", 2⟩, ⟨"_law_lines", 1⟩], ["MOST_NAME_CHARS", "NAME_CHARS", "MOST_KINDS", "MOST_COST", "MOST_DEADLINE", "MOST_WAYS", "MOST_DISTANCE", "MOST_SLOTS", "MOST_CAPACITY", "MOST_TASKS"], [⟨"demand_table", 1, ["length"]⟩], [⟨"Task", "kind_number", 1, []⟩, ⟨"Task", "ways_from", 1, []⟩], [⟨"Task", 1, ["kinds", "ways"]⟩, ⟨"System", 1, ["table"]⟩], flds, false, [], xns, xfs, rzs, false⟩
def g32 : Gs := ⟨[⟨"_law_row", 2⟩, ⟨"_law_numbers", 2⟩, ⟨"_law_scaled", 2⟩, ⟨"_law_name", 2⟩, ⟨"_law_kinds", 2⟩, ⟨"_law_ways", 3⟩, ⟨"_law_specs", 1⟩, ⟨"_law_table", 2⟩, ⟨"_law_index", 2⟩, ⟨"_law_totals", 2⟩, ⟨"_law_least_supply", 2⟩, ⟨"own_work", 2⟩, ⟨"best_continuation", 4⟩, ⟨"rows", 2⟩, ⟨"demands", 2⟩, ⟨"supply_of_first", 2⟩, ⟨"supply", 3⟩, ⟨"least_supply", 2⟩, ⟨"column_widths", 1⟩, ⟨"table_lines", 1⟩, ⟨"is_name", 1⟩, ⟨"are_kinds", 1⟩, ⟨"are_ways", 2⟩, ⟨"is_table", 1⟩, ⟨"_law_system", 2⟩, ⟨"_law_lines", 1⟩, ⟨"law", 1⟩], ["MOST_NAME_CHARS", "NAME_CHARS", "MOST_KINDS", "MOST_COST", "MOST_DEADLINE", "MOST_WAYS", "MOST_DISTANCE", "MOST_SLOTS", "MOST_CAPACITY", "MOST_TASKS"], [⟨"demand_table", 1, ["length"]⟩], [⟨"Task", "kind_number", 1, []⟩, ⟨"Task", "ways_from", 1, []⟩], [⟨"Task", 1, ["kinds", "ways"]⟩, ⟨"System", 1, ["table"]⟩], flds, false, [], xns, xfs, rzs, false⟩
theorem chk0 : chkD g0 N0 2 d0.scope b0 d0.body = true := by decide +kernel
theorem chk1 : chkD g1 N1 2 d1.scope b1 d1.body = true := by decide +kernel
theorem chk2 : chkD g2 N2 2 d2.scope b2 d2.body = true := by decide +kernel
theorem chk3 : chkD g3 N3 2 d3.scope b3 d3.body = true := by decide +kernel
theorem chk4 : chkD g4 N4 2 d4.scope b4 d4.body = true := by decide +kernel
theorem chk5 : chkD g5 N5 3 d5.scope b5 d5.body = true := by decide +kernel
theorem chk6 : chkD g6 N6 1 d6.scope b6 d6.body = true := by decide +kernel
theorem chk7 : chkD g7 N7 2 d7.scope b7 d7.body = true := by decide +kernel
theorem chk8 : chkD g8 N8 2 d8.scope b8 d8.body = true := by decide +kernel
theorem chk9 : chkD g9 N9 2 d9.scope b9 d9.body = true := by decide +kernel
theorem chk10 : chkD g10 N10 2 d10.scope b10 d10.body = true := by decide +kernel
theorem chk11 : chkD g11 N11 2 d11.scope b11 d11.body = true := by decide +kernel
theorem chk12 : chkD g12 N12 2 d12.scope b12 d12.body = true := by decide +kernel
theorem chk13 : chkD g13 N13 2 d13.scope b13 d13.body = true := by decide +kernel
theorem chk14 : chkD g14 N14 4 d14.scope b14 d14.body = true := by decide +kernel
theorem chk15 : chkD g15 N15 2 d15.scope b15 d15.body = true := by decide +kernel
theorem chk16 : chkD g16 N16 2 d16.scope b16 d16.body = true := by decide +kernel
theorem chk17 : chkD g17 N17 2 d17.scope b17 d17.body = true := by decide +kernel
theorem chk18 : chkD g18 N18 3 d18.scope b18 d18.body = true := by decide +kernel
theorem chk19 : chkD g19 N19 2 d19.scope b19 d19.body = true := by decide +kernel
theorem chk20 : chkD g20 N20 1 d20.scope b20 d20.body = true := by decide +kernel
theorem chk21 : chkD g21 N21 1 d21.scope b21 d21.body = true := by decide +kernel
theorem chk22 : chkD g22 N22 2 d22.scope b22 d22.body = true := by decide +kernel
theorem chk23 : chkD g23 N23 1 d23.scope b23 d23.body = true := by decide +kernel
theorem chk24 : chkD g24 N24 1 d24.scope b24 d24.body = true := by decide +kernel
theorem chk25 : chkD g25 N25 2 d25.scope b25 d25.body = true := by decide +kernel
theorem chk26 : chkD g26 N26 4 d26.scope b26 d26.body = true := by decide +kernel
theorem chk27 : chkD g27 N27 1 d27.scope b27 d27.body = true := by decide +kernel
theorem chk28 : chkD g28 N28 3 d28.scope b28 d28.body = true := by decide +kernel
theorem chk29 : chkD g29 N29 2 d29.scope b29 d29.body = true := by decide +kernel
theorem chk30 : chkD g30 N30 1 d30.scope b30 d30.body = true := by decide +kernel
theorem chk31 : chkD g31 N31 1 d31.scope b31 d31.body = true := by decide +kernel
def gcdB (K : PySem.W.Frag) : Bool := true
def tabs : List He.Tab := []
def exB (K : PySem.W.Frag) : Bool := ((fr.all fun f => f.ok K) && gcdB K) && ((([("MOST_NAME_CHARS", .int (12)), ("NAME_CHARS", .str "abcdefghijklmnopqrstuvwxyz0123456789"), ("MOST_KINDS", .int (8)), ("MOST_COST", .int (1000)), ("MOST_DEADLINE", .int (1000)), ("MOST_WAYS", .int (16)), ("MOST_DISTANCE", .int (1000)), ("MOST_SLOTS", .int (1001)), ("MOST_CAPACITY", .int (1000000)), ("MOST_TASKS", .int (6))] : List (Str × D)).all fun p => conB K p) && ([] : List Bool).all id)
def loose0 : List PySem.Str := ["_wall", "NeverlateError", "InvalidTask", "InvalidTable", "InvalidSystem", "UnknownName", "rows", "own_work", "best_continuation", "demands", "supply_of_first", "supply", "least_supply", "NAME_CHARS", "MOST_NAME_CHARS", "MOST_KINDS", "MOST_WAYS", "MOST_COST", "MOST_DEADLINE", "MOST_DISTANCE"]
def loose1 : List PySem.Str := ["MOST_TASKS", "MOST_SLOTS", "MOST_CAPACITY", "is_name", "are_kinds", "are_ways", "is_table", "Task", "System", "column_widths", "table_lines", "demand_table", "_law_row", "_law_numbers", "_law_name", "_law_table", "_law_kinds", "_law_ways", "_law_specs", "_law_scaled"]
def loose2 : List PySem.Str := ["_law_system", "_law_index", "_law_totals", "_law_lines", "_law_least_supply"]
def loose : List PySem.Str := loose0 ++ loose1 ++ loose2
abbrev R : PySem.W.OpenRow := PySem.W.OpenLaw.row PySem.Challenge.rw_neverlate_k73_demand_table
abbrev hk : PySem.W.Hook := He.hookX 5 fa fn tabs [] exB
def ob (s : PySem.W.SharedT) : He.AlX := He.obsX 5 fa fn tabs [] exB (HandSHeadRun.getT s)
theorem ob_eq (s : PySem.W.SharedT) : ob s = hk.obs s.abs := He.obsX_eq (HandSHeadRun.getT_eq s)
theorem head_run (w : World) : HandSHeadRun.RunEq R (PySem.W.view R.prog [51]) hk ob 4000 loose w := by
  refine PySem.W.byRow2 "special-get-raises" (P := fun w => HandSHeadRun.RunEq R (PySem.W.view R.prog [51]) hk ob 4000 loose w) (fun w => ?_) (fun w => ?_) w
  · intro os; kernel_rfl
  · intro os; kernel_rfl
section
variable {P : Program} {w : World} {K : PySem.W.Frag} {h : Heap} {mg : Str → Option Value} {base : Heap}
theorem tops (X : K.In h) (G : h.Ns mainGlobals mg) (c : He.SaysX fa fn tabs [] exB w h K) : Tops P w K mg base g31 t31 62 := by
  obtain ⟨e1, e2⟩ := ba c.more
  obtain ⟨e1, e0⟩ := ba e1
  obtain ⟨e2, e3⟩ := ba e2
  have T0 : Tops P w K mg base ⟨[], [], [], [], [], flds, false, [], xns, xfs, rzs, false⟩ ⟨[], [], [], [], [], [], supL, exnL, none⟩ 0 := Tops.nil (fun x hx => He.free_ok X G (List.all_eq_true.mp e1 _ (List.mem_map_of_mem hx))) (fun p hp => ?hfl) (fun hg => ?hgc) (fun x hx => by cases hx) (fun c us e => by cases e) (fun c hc => by cases hc)
  have T1 := T0.con (conB_ok (x := "MOST_NAME_CHARS") (d := .int (12)) X G (List.all_eq_true.mp e2 _ (List.mem_of_getElem? (i := 0) rfl)))
  have T2 := T1.con (conB_ok (x := "NAME_CHARS") (d := .str "abcdefghijklmnopqrstuvwxyz0123456789") X G (List.all_eq_true.mp e2 _ (List.mem_of_getElem? (i := 1) rfl)))
  have T3 := T2.con (conB_ok (x := "MOST_KINDS") (d := .int (8)) X G (List.all_eq_true.mp e2 _ (List.mem_of_getElem? (i := 2) rfl)))
  have T4 := T3.con (conB_ok (x := "MOST_COST") (d := .int (1000)) X G (List.all_eq_true.mp e2 _ (List.mem_of_getElem? (i := 3) rfl)))
  have T5 := T4.con (conB_ok (x := "MOST_DEADLINE") (d := .int (1000)) X G (List.all_eq_true.mp e2 _ (List.mem_of_getElem? (i := 4) rfl)))
  have T6 := T5.con (conB_ok (x := "MOST_WAYS") (d := .int (16)) X G (List.all_eq_true.mp e2 _ (List.mem_of_getElem? (i := 5) rfl)))
  have T7 := T6.con (conB_ok (x := "MOST_DISTANCE") (d := .int (1000)) X G (List.all_eq_true.mp e2 _ (List.mem_of_getElem? (i := 6) rfl)))
  have T8 := T7.con (conB_ok (x := "MOST_SLOTS") (d := .int (1001)) X G (List.all_eq_true.mp e2 _ (List.mem_of_getElem? (i := 7) rfl)))
  have T9 := T8.con (conB_ok (x := "MOST_CAPACITY") (d := .int (1000000)) X G (List.all_eq_true.mp e2 _ (List.mem_of_getElem? (i := 8) rfl)))
  have T10 := T9.con (conB_ok (x := "MOST_TASKS") (d := .int (6)) X G (List.all_eq_true.mp e2 _ (List.mem_of_getElem? (i := 9) rfl)))
  have U0 : Tops P w K mg base g0 t0 0 := T10
  have U1 : Tops P w K mg base g1 t1 2 := by
    obtain ⟨fd, F⟩ := c.t.d.def_ 0 (d := d0) rfl
    have H := fn_ok F chk0 U0.t
    have A := (U0.mono (show 0 ≤ 2 by decide)).fnA ((CallOk.of H (F.bindsN (fun _ _ _ _ _ _ us hl => match us, hl with | [_, _], _ => rfl)) (He.glo_ok X G (c.t.d.fact 0 (f := .glo "_law_row") rfl)) F.kp ⟨"_law_row", 2⟩ rfl rfl).mono (show 1 ≤ 2 by decide))
    exact A
  have U2 : Tops P w K mg base g2 t2 4 := by
    obtain ⟨fd, F⟩ := c.t.d.def_ 1 (d := d1) rfl
    have H := fn_ok F chk1 U1.t
    have A := (U1.mono (show 2 ≤ 4 by decide)).fnA ((CallOk.of H (F.bindsN (fun _ _ _ _ _ _ us hl => match us, hl with | [_, _], _ => rfl)) (He.glo_ok X G (c.t.d.fact 1 (f := .glo "_law_numbers") rfl)) F.kp ⟨"_law_numbers", 2⟩ rfl rfl).mono (show 3 ≤ 4 by decide))
    exact A
  have U3 : Tops P w K mg base g3 t3 6 := by
    obtain ⟨fd, F⟩ := c.t.d.def_ 2 (d := d2) rfl
    have H := fn_ok F chk2 U2.t
    have A := (U2.mono (show 4 ≤ 6 by decide)).fnA ((CallOk.of H (F.bindsN (fun _ _ _ _ _ _ us hl => match us, hl with | [_, _], _ => rfl)) (He.glo_ok X G (c.t.d.fact 2 (f := .glo "_law_scaled") rfl)) F.kp ⟨"_law_scaled", 2⟩ rfl rfl).mono (show 5 ≤ 6 by decide))
    exact A
  have U4 : Tops P w K mg base g4 t4 8 := by
    obtain ⟨fd, F⟩ := c.t.d.def_ 3 (d := d3) rfl
    have H := fn_ok F chk3 U3.t
    have A := (U3.mono (show 6 ≤ 8 by decide)).fnA ((CallOk.of H (F.bindsN (fun _ _ _ _ _ _ us hl => match us, hl with | [_, _], _ => rfl)) (He.glo_ok X G (c.t.d.fact 3 (f := .glo "_law_name") rfl)) F.kp ⟨"_law_name", 2⟩ rfl rfl).mono (show 7 ≤ 8 by decide))
    exact A
  have U5 : Tops P w K mg base g5 t5 10 := by
    obtain ⟨fd, F⟩ := c.t.d.def_ 4 (d := d4) rfl
    have H := fn_ok F chk4 U4.t
    have A := (U4.mono (show 8 ≤ 10 by decide)).fnA ((CallOk.of H (F.bindsN (fun _ _ _ _ _ _ us hl => match us, hl with | [_, _], _ => rfl)) (He.glo_ok X G (c.t.d.fact 4 (f := .glo "_law_kinds") rfl)) F.kp ⟨"_law_kinds", 2⟩ rfl rfl).mono (show 9 ≤ 10 by decide))
    exact A
  have U6 : Tops P w K mg base g6 t6 12 := by
    obtain ⟨fd, F⟩ := c.t.d.def_ 5 (d := d5) rfl
    have H := fn_ok F chk5 U5.t
    have A := (U5.mono (show 10 ≤ 12 by decide)).fnA ((CallOk.of H (F.bindsN (fun _ _ _ _ _ _ us hl => match us, hl with | [_, _, _], _ => rfl)) (He.glo_ok X G (c.t.d.fact 5 (f := .glo "_law_ways") rfl)) F.kp ⟨"_law_ways", 3⟩ rfl rfl).mono (show 11 ≤ 12 by decide))
    exact A
  have U7 : Tops P w K mg base g7 t7 14 := by
    obtain ⟨fd, F⟩ := c.t.d.def_ 6 (d := d6) rfl
    have H := fn_ok F chk6 U6.t
    have A := (U6.mono (show 12 ≤ 14 by decide)).fnA ((CallOk.of H (F.bindsN (fun _ _ _ _ _ _ us hl => match us, hl with | [_], _ => rfl)) (He.glo_ok X G (c.t.d.fact 6 (f := .glo "_law_specs") rfl)) F.kp ⟨"_law_specs", 1⟩ rfl rfl).mono (show 13 ≤ 14 by decide))
    exact A
  have U8 : Tops P w K mg base g8 t8 16 := by
    obtain ⟨fd, F⟩ := c.t.d.def_ 7 (d := d7) rfl
    have H := fn_ok F chk7 U7.t
    have A := (U7.mono (show 14 ≤ 16 by decide)).fnA ((CallOk.of H (F.bindsN (fun _ _ _ _ _ _ us hl => match us, hl with | [_, _], _ => rfl)) (He.glo_ok X G (c.t.d.fact 7 (f := .glo "_law_table") rfl)) F.kp ⟨"_law_table", 2⟩ rfl rfl).mono (show 15 ≤ 16 by decide))
    exact A
  have U9 : Tops P w K mg base g9 t9 18 := by
    obtain ⟨fd, F⟩ := c.t.d.def_ 8 (d := d8) rfl
    have H := fn_ok F chk8 U8.t
    have A := (U8.mono (show 16 ≤ 18 by decide)).fnA ((CallOk.of H (F.bindsN (fun _ _ _ _ _ _ us hl => match us, hl with | [_, _], _ => rfl)) (He.glo_ok X G (c.t.d.fact 8 (f := .glo "_law_index") rfl)) F.kp ⟨"_law_index", 2⟩ rfl rfl).mono (show 17 ≤ 18 by decide))
    exact A
  have U10 : Tops P w K mg base g10 t10 20 := by
    obtain ⟨fd, F⟩ := c.t.d.def_ 9 (d := d9) rfl
    have H := fn_ok F chk9 U9.t
    have A := (U9.mono (show 18 ≤ 20 by decide)).fnA ((CallOk.of H (F.bindsN (fun _ _ _ _ _ _ us hl => match us, hl with | [_, _], _ => rfl)) (He.glo_ok X G (c.t.d.fact 9 (f := .glo "_law_totals") rfl)) F.kp ⟨"_law_totals", 2⟩ rfl rfl).mono (show 19 ≤ 20 by decide))
    exact A
  have U11 : Tops P w K mg base g11 t11 22 := by
    obtain ⟨fd, F⟩ := c.t.d.def_ 10 (d := d10) rfl
    have H := fn_ok F chk10 U10.t
    have A := (U10.mono (show 20 ≤ 22 by decide)).fnA ((CallOk.of H (F.bindsN (fun _ _ _ _ _ _ us hl => match us, hl with | [_, _], _ => rfl)) (He.glo_ok X G (c.t.d.fact 10 (f := .glo "_law_least_supply") rfl)) F.kp ⟨"_law_least_supply", 2⟩ rfl rfl).mono (show 21 ≤ 22 by decide))
    exact A
  have U12 : Tops P w K mg base g12 t12 24 := by
    obtain ⟨fd, F⟩ := c.t.d.def_ 11 (d := d11) rfl
    have H := fn_ok F chk11 U11.t
    have A := (U11.mono (show 22 ≤ 24 by decide)).fnA ((CallOk.of H (F.bindsN (fun _ _ _ _ _ _ us hl => match us, hl with | [_, _], _ => rfl)) (He.glo_ok X G (c.t.d.fact 11 (f := .glo "own_work") rfl)) F.kp ⟨"own_work", 2⟩ rfl rfl).mono (show 23 ≤ 24 by decide))
    exact A
  have U13 : Tops P w K mg base g13 t13 26 := by
    obtain ⟨fd, F⟩ := c.t.d.def_ 12 (d := d12) rfl
    have H := fn_ok F chk12 U12.t
    have A := U12.mono (show 24 ≤ 26 by decide)
    have A := A.mt (c := ⟨"Task", "kind_number", 1, []⟩) (He.cls_ok (c.t.d.fact 32 (f := .cls "Task") rfl)) (He.meth_ok (c.t.d.fact 33 (f := .meth "Task" "kind_number") rfl)) ((KwOk.kw0 (c := [(0, 0), (0, 1)]) F H fun _ _ _ _ _ _ us ws hu hw => match us, ws, hu, hw with | [_, _], [], _, _ => rfl).mono (show 25 ≤ 26 by decide))
    exact A
  have U14 : Tops P w K mg base g14 t14 28 := by
    obtain ⟨fd, F⟩ := c.t.d.def_ 13 (d := d13) rfl
    have H := fn_ok F chk13 U13.t
    have A := U13.mono (show 26 ≤ 28 by decide)
    have A := A.mt (c := ⟨"Task", "ways_from", 1, []⟩) (He.cls_ok (c.t.d.fact 32 (f := .cls "Task") rfl)) (He.meth_ok (c.t.d.fact 34 (f := .meth "Task" "ways_from") rfl)) ((KwOk.kw0 (c := [(0, 0), (0, 1)]) F H fun _ _ _ _ _ _ us ws hu hw => match us, ws, hu, hw with | [_, _], [], _, _ => rfl).mono (show 27 ≤ 28 by decide))
    exact A
  have U15 : Tops P w K mg base g15 t15 30 := by
    obtain ⟨fd, F⟩ := c.t.d.def_ 14 (d := d14) rfl
    have H := fn_ok F chk14 U14.t
    have A := (U14.mono (show 28 ≤ 30 by decide)).fnA ((CallOk.of H (F.bindsN (fun _ _ _ _ _ _ us hl => match us, hl with | [_, _, _, _], _ => rfl)) (He.glo_ok X G (c.t.d.fact 12 (f := .glo "best_continuation") rfl)) F.kp ⟨"best_continuation", 4⟩ rfl rfl).mono (show 29 ≤ 30 by decide))
    exact A
  have U16 : Tops P w K mg base g16 t16 32 := by
    obtain ⟨fd, F⟩ := c.t.d.def_ 15 (d := d15) rfl
    have H := fn_ok F chk15 U15.t
    have A := (U15.mono (show 30 ≤ 32 by decide)).fnA ((CallOk.of H (F.bindsN (fun _ _ _ _ _ _ us hl => match us, hl with | [_, _], _ => rfl)) (He.glo_ok X G (c.t.d.fact 13 (f := .glo "rows") rfl)) F.kp ⟨"rows", 2⟩ rfl rfl).mono (show 31 ≤ 32 by decide))
    exact A
  have U17 : Tops P w K mg base g17 t17 34 := by
    obtain ⟨fd, F⟩ := c.t.d.def_ 16 (d := d16) rfl
    have H := fn_ok F chk16 U16.t
    have A := (U16.mono (show 32 ≤ 34 by decide)).fnA ((CallOk.of H (F.bindsN (fun _ _ _ _ _ _ us hl => match us, hl with | [_, _], _ => rfl)) (He.glo_ok X G (c.t.d.fact 14 (f := .glo "demands") rfl)) F.kp ⟨"demands", 2⟩ rfl rfl).mono (show 33 ≤ 34 by decide))
    exact A
  have U18 : Tops P w K mg base g18 t18 36 := by
    obtain ⟨fd, F⟩ := c.t.d.def_ 17 (d := d17) rfl
    have H := fn_ok F chk17 U17.t
    have A := (U17.mono (show 34 ≤ 36 by decide)).fnA ((CallOk.of H (F.bindsN (fun _ _ _ _ _ _ us hl => match us, hl with | [_, _], _ => rfl)) (He.glo_ok X G (c.t.d.fact 15 (f := .glo "supply_of_first") rfl)) F.kp ⟨"supply_of_first", 2⟩ rfl rfl).mono (show 35 ≤ 36 by decide))
    exact A
  have U19 : Tops P w K mg base g19 t19 38 := by
    obtain ⟨fd, F⟩ := c.t.d.def_ 18 (d := d18) rfl
    have H := fn_ok F chk18 U18.t
    have A := (U18.mono (show 36 ≤ 38 by decide)).fnA ((CallOk.of H (F.bindsN (fun _ _ _ _ _ _ us hl => match us, hl with | [_, _, _], _ => rfl)) (He.glo_ok X G (c.t.d.fact 16 (f := .glo "supply") rfl)) F.kp ⟨"supply", 3⟩ rfl rfl).mono (show 37 ≤ 38 by decide))
    exact A
  have U20 : Tops P w K mg base g20 t20 40 := by
    obtain ⟨fd, F⟩ := c.t.d.def_ 19 (d := d19) rfl
    have H := fn_ok F chk19 U19.t
    have A := (U19.mono (show 38 ≤ 40 by decide)).fnA ((CallOk.of H (F.bindsN (fun _ _ _ _ _ _ us hl => match us, hl with | [_, _], _ => rfl)) (He.glo_ok X G (c.t.d.fact 17 (f := .glo "least_supply") rfl)) F.kp ⟨"least_supply", 2⟩ rfl rfl).mono (show 39 ≤ 40 by decide))
    exact A
  have U21 : Tops P w K mg base g21 t21 42 := by
    obtain ⟨fd, F⟩ := c.t.d.def_ 20 (d := d20) rfl
    have H := fn_ok F chk20 U20.t
    have A := (U20.mono (show 40 ≤ 42 by decide)).fnA ((CallOk.of H (F.bindsN (fun _ _ _ _ _ _ us hl => match us, hl with | [_], _ => rfl)) (He.glo_ok X G (c.t.d.fact 18 (f := .glo "column_widths") rfl)) F.kp ⟨"column_widths", 1⟩ rfl rfl).mono (show 41 ≤ 42 by decide))
    exact A
  have U22 : Tops P w K mg base g22 t22 44 := by
    obtain ⟨fd, F⟩ := c.t.d.def_ 21 (d := d21) rfl
    have H := fn_ok F chk21 U21.t
    have A := (U21.mono (show 42 ≤ 44 by decide)).fnA ((CallOk.of H (F.bindsN (fun _ _ _ _ _ _ us hl => match us, hl with | [_], _ => rfl)) (He.glo_ok X G (c.t.d.fact 19 (f := .glo "table_lines") rfl)) F.kp ⟨"table_lines", 1⟩ rfl rfl).mono (show 43 ≤ 44 by decide))
    exact A
  have U23 : Tops P w K mg base g23 t23 46 := by
    obtain ⟨fd, F⟩ := c.t.d.def_ 22 (d := d22) rfl
    have H := fn_ok F chk22 U22.t
    have A := U22.mono (show 44 ≤ 46 by decide)
    have A := A.kc (c := ⟨"demand_table", 1, ["length"]⟩) (He.glo_ok X G (c.t.d.fact 20 (f := .glo "demand_table") rfl)) F.kp ((KwOk.kw0 (c := [(0, 0), (1, 0)]) F H fun _ _ _ _ _ _ us ws hu hw => match us, ws, hu, hw with | [_], [_], _, _ => rfl).mono (show 45 ≤ 46 by decide))
    exact A
  have U24 : Tops P w K mg base g24 t24 48 := by
    obtain ⟨fd, F⟩ := c.t.d.def_ 23 (d := d23) rfl
    have H := fn_ok F chk23 U23.t
    have A := (U23.mono (show 46 ≤ 48 by decide)).fnA ((CallOk.of H (F.bindsN (fun _ _ _ _ _ _ us hl => match us, hl with | [_], _ => rfl)) (He.glo_ok X G (c.t.d.fact 21 (f := .glo "is_name") rfl)) F.kp ⟨"is_name", 1⟩ rfl rfl).mono (show 47 ≤ 48 by decide))
    exact A
  have U25 : Tops P w K mg base g25 t25 50 := by
    obtain ⟨fd, F⟩ := c.t.d.def_ 24 (d := d24) rfl
    have H := fn_ok F chk24 U24.t
    have A := (U24.mono (show 48 ≤ 50 by decide)).fnA ((CallOk.of H (F.bindsN (fun _ _ _ _ _ _ us hl => match us, hl with | [_], _ => rfl)) (He.glo_ok X G (c.t.d.fact 22 (f := .glo "are_kinds") rfl)) F.kp ⟨"are_kinds", 1⟩ rfl rfl).mono (show 49 ≤ 50 by decide))
    exact A
  have U26 : Tops P w K mg base g26 t26 52 := by
    obtain ⟨fd, F⟩ := c.t.d.def_ 25 (d := d25) rfl
    have H := fn_ok F chk25 U25.t
    have A := (U25.mono (show 50 ≤ 52 by decide)).fnA ((CallOk.of H (F.bindsN (fun _ _ _ _ _ _ us hl => match us, hl with | [_, _], _ => rfl)) (He.glo_ok X G (c.t.d.fact 23 (f := .glo "are_ways") rfl)) F.kp ⟨"are_ways", 2⟩ rfl rfl).mono (show 51 ≤ 52 by decide))
    exact A
  have U27 : Tops P w K mg base g27 t27 54 := by
    obtain ⟨fd, F⟩ := c.t.d.def_ 26 (d := d26) rfl
    have H := fn_ok F chk26 U26.t
    have A := U26.mono (show 52 ≤ 54 by decide)
    have A := A.nw (c := ⟨"Task", 1, ["kinds", "ways"]⟩) (k := 53) (He.glo_ok X G (c.t.d.fact 28 (f := .glo "Task") rfl)) (He.mkr_ok (c.t.d.fact 29 (f := .mkr "Task") rfl)) (by decide) (KwOk.kw0 (c := [(0, 0), (0, 1), (1, 0), (1, 1)]) F H fun _ _ _ _ _ _ us ws hu hw => match us, ws, hu, hw with | [_, _], [_, _], _, _ => rfl)
    exact A
  have U28 : Tops P w K mg base g28 t28 56 := by
    obtain ⟨fd, F⟩ := c.t.d.def_ 27 (d := d27) rfl
    have H := fn_ok F chk27 U27.t
    have A := (U27.mono (show 54 ≤ 56 by decide)).fnA ((CallOk.of H (F.bindsN (fun _ _ _ _ _ _ us hl => match us, hl with | [_], _ => rfl)) (He.glo_ok X G (c.t.d.fact 24 (f := .glo "is_table") rfl)) F.kp ⟨"is_table", 1⟩ rfl rfl).mono (show 55 ≤ 56 by decide))
    exact A
  have U29 : Tops P w K mg base g29 t29 58 := by
    obtain ⟨fd, F⟩ := c.t.d.def_ 28 (d := d28) rfl
    have H := fn_ok F chk28 U28.t
    have A := U28.mono (show 56 ≤ 58 by decide)
    have A := A.nw (c := ⟨"System", 1, ["table"]⟩) (k := 57) (He.glo_ok X G (c.t.d.fact 30 (f := .glo "System") rfl)) (He.mkr_ok (c.t.d.fact 31 (f := .mkr "System") rfl)) (by decide) (KwOk.kw0 (c := [(0, 0), (0, 1), (1, 0)]) F H fun _ _ _ _ _ _ us ws hu hw => match us, ws, hu, hw with | [_, _], [_], _, _ => rfl)
    exact A
  have U30 : Tops P w K mg base g30 t30 60 := by
    obtain ⟨fd, F⟩ := c.t.d.def_ 29 (d := d29) rfl
    have H := fn_ok F chk29 U29.t
    have A := (U29.mono (show 58 ≤ 60 by decide)).fnA ((CallOk.of H (F.bindsN (fun _ _ _ _ _ _ us hl => match us, hl with | [_, _], _ => rfl)) (He.glo_ok X G (c.t.d.fact 25 (f := .glo "_law_system") rfl)) F.kp ⟨"_law_system", 2⟩ rfl rfl).mono (show 59 ≤ 60 by decide))
    exact A
  have U31 : Tops P w K mg base g31 t31 62 := by
    obtain ⟨fd, F⟩ := c.t.d.def_ 30 (d := d30) rfl
    have H := fn_ok F chk30 U30.t
    have A := (U30.mono (show 60 ≤ 62 by decide)).fnA ((CallOk.of H (F.bindsN (fun _ _ _ _ _ _ us hl => match us, hl with | [_], _ => rfl)) (He.glo_ok X G (c.t.d.fact 26 (f := .glo "_law_lines") rfl)) F.kp ⟨"_law_lines", 1⟩ rfl rfl).mono (show 61 ≤ 62 by decide))
    exact A
  exact U31
  case hgc => cases hg
  case hfl =>
    have al : ∀ p ∈ flds, Cls K (He.ga K p.1) ∧ NoAttr K (He.ga K p.1) p.2 := by
      unfold flds
      simp only [List.forall_mem_cons]
      exact ⟨⟨He.cls_ok (c.t.d.fact 32 (f := .cls "Task") rfl), He.noat_ok (c.t.d.fact 35 (f := .noat "Task" "kinds") rfl)⟩, ⟨He.cls_ok (c.t.d.fact 32 (f := .cls "Task") rfl), He.noat_ok (c.t.d.fact 36 (f := .noat "Task" "ways") rfl)⟩, ⟨He.cls_ok (c.t.d.fact 37 (f := .cls "System") rfl), He.noat_ok (c.t.d.fact 38 (f := .noat "System" "table") rfl)⟩, ⟨He.cls_ok (c.t.d.fact 37 (f := .cls "System") rfl), He.noat_ok (c.t.d.fact 39 (f := .noat "System" "tasks") rfl)⟩, ⟨He.cls_ok (c.t.d.fact 32 (f := .cls "Task") rfl), He.noat_ok (c.t.d.fact 40 (f := .noat "Task" "name") rfl)⟩, fun _ h => by cases h⟩
    exact al p hp
end
/-- the plain law -/
def Plain : Prop := ∀ ns : List Int, ns.length ≤ 63 → ∃ S, F31 [.d (.ro (ns.map .int))] [] = .ok (.d (.bl true)) S
open PySem PySem.W PySem.Calls PyProof.Rows
theorem holds (plain : Plain) : PySem.Challenge.rw_neverlate_k73_demand_table.Holds := by
  w_on; o_law
  refine HandSHeadRun.head_any (r := OpenLaw.row PySem.Challenge.rw_neverlate_k73_demand_table) (q := view (OpenLaw.row PySem.Challenge.rw_neverlate_k73_demand_table).prog [51]) (H := hk) (ob := ob) (M := 4000) (loose := loose) (d := HandSHeadRun.topDef (OpenLaw.row PySem.Challenge.rw_neverlate_k73_demand_table).prog 51) (kwd := []) ob_eq
    (by kernel_rfl) (fun s => by kernel_rfl) head_run (by kernel_rfl) (by kernel_rfl) (by kernel_rfl) (by rfl) (by first | assumption | decide +kernel) (by decide +kernel) ⟨rfl, rfl, rfl, rfl, rfl, by decide +kernel⟩ ?hw ?hc
  case hw => w_witness2
  case hc =>
    refine L2.walk_ofE (l := PySem.Challenge.rw_neverlate_k73_demand_table) (n := 63) (k := 63) (x := "_law_script") (CX := CXa) rfl (by decide) (by kernel_rfl) ⟨rfl, by decide, by decide⟩ ?F CXa_no
    intro w mg fa h Y G hmg0
    obtain ⟨K, KX, c⟩ := Y
    have hmg : mg ("law" : PySem.Str) = some (.ref fa) := by
      have e : (HandSHeadRun.topDef (OpenLaw.row PySem.Challenge.rw_neverlate_k73_demand_table).prog 51).name = ("law" : PySem.Str) := by kernel_rfl
      rw [← e]
      exact hmg0
    obtain ⟨fd, F⟩ := c.t.d.def_ 31 (d := d31) rfl
    have e := hmg.symm.trans (He.glo_ok KX G (c.t.d.fact 27 (f := .glo "law") rfl))
    cases e
    refine ⟨K, fd, spF ⟨K, w⟩ F31, KX, fun s v => F.bindsA (ps := ["_law_script"]) (fun _ _ _ _ _ _ us hl => match us, hl with | [_], _ => rfl) s [v] rfl, fun H a ns hl _ hS => law_sp (plain ns hl) (Nat.le_trans hl (by decide)) hS, fun base KB GB => ?_⟩
    exact fn_any (fn_ok F chk31 (tops (base := base) KX G c).t)
end En.K73
theorem PySem.Challenge.cw_neverlate_k73_demand_table_holds : PySem.Challenge.rw_neverlate_k73_demand_table.Holds := by
  exact En.K73.holds En.K73.plain_ok
#print axioms PySem.Challenge.cw_neverlate_k73_demand_table_holds
