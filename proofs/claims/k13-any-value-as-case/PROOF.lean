import PyProof.Rows.All
import Wide.All
import OpenK.AllK
import Wide.FinOn
import HandS.ForMost
import HandS.Exc
import HandS.IsInst
import HandS.TupAny
import HandS.TupMul
import HandS.Zip
import HandS.Walk
import HandS.Deep
import HandS.Defaults
import HandS.WideBits
import HandS.Flow
import HandS.Style
import HandS.WordsExc
import HandS.Ends
import HandS.HeadEnd
import HandS.RevTup
import KE.DataFind
import HandS.Conv
import KE.GoesEnum
import HandS.TupSets
import KE.KDictKeyed
import HandS.HeadHook2
import KE.KDictZip
import KE.KDictList
import KE.KStateDown
import Lean
import HandS.Base
import HandS.Call
import HandS.More
import HandS.Words
import HandS.Head0
import HandS.Head1
import HandS.Head2
import HandS.HeadHook1
import PySem.Challenge.RW_leadcases_k13_any_value_as_case
set_option Elab.async false
set_option linter.all false
set_option maxRecDepth 100000
set_option maxHeartbeats 0
namespace PL
open PySem PySem.Spec L2
open PyProof.Rows hiding St

abbrev T := PyData

inductive D where
  | v (t : T) | ref (n : Nat) | glo (a : Addr) | ty (n : String)
  /-- a list that is only read: the script -/
  | rol (ts : List T)

inductive MO where
  | lst (xs : List T)
  | dK (kvs : List (Key × T))

abbrev Sto := List MO
abbrev EnvD := List (Option D)

structure G where
  ρ : List Addr
  ex : List Addr

def Fr (g : G) (a : Addr) : Prop := a ∉ g.ρ ∧ a ∉ g.ex

def FrL (K : PySem.W.Frag) (g : G) (H : Hp) (a : Addr) (vs : List V) : Prop :=
  H a = some (.lst vs) ∧ Fr g a
def RoL (K : PySem.W.Frag) (H : Hp) (a : Addr) (vs : List V) : Prop :=
  (∃ o, H a = some (.frz o (.lst vs))) ∨ ∀ H', SqL K H' a vs
def TuL (K : PySem.W.Frag) (H : Hp) (a : Addr) (vs : List V) : Prop :=
  H a = some (.tup vs) ∨ (∃ o, H a = some (.frz o (.tup vs))) ∨ ∀ H', SqT K H' a vs

theorem FrL.sq {K : PySem.W.Frag} {g : G} {H : Hp} {a : Addr} {vs : List V} (h : FrL K g H a vs) : SqL K H a vs := .inl (.inl h.1)
theorem RoL.sq {K : PySem.W.Frag} {H : Hp} {a : Addr} {vs : List V} (h : RoL K H a vs) : SqL K H a vs := by
  rcases h with ⟨o, h⟩ | h
  · exact .inl (.inr ⟨o, h⟩)
  · exact h H
theorem TuL.sq {K : PySem.W.Frag} {H : Hp} {a : Addr} {vs : List V} (h : TuL K H a vs) : SqT K H a vs := by
  rcases h with h | ⟨o, h⟩ | h
  · exact .inl (.inl h)
  · exact .inl (.inr ⟨o, h⟩)
  · exact h H

mutual
def RepT (K : PySem.W.Frag) (g : G) (H : Hp) : T → V → Prop
  | .none, v => v = .non
  | .bool b, v => v = .bl b
  | .int i, v => v = .int i
  | .str x, v => v = .str x
  | .list ts, v => ∃ a vs, v = .ref a ∧ FrL K g H a vs ∧ RepTs K g H ts vs
  | .tuple ts, v => ∃ a vs, v = .ref a ∧ TuL K H a vs ∧ RepTs K g H ts vs
  | .dict kvs, v => kvs = [] ∧ ∃ a, v = .ref a ∧ H a = some (.dK []) ∧ Fr g a
def RepTs (K : PySem.W.Frag) (g : G) (H : Hp) : List T → List V → Prop
  | [], vs => vs = []
  | t :: ts, vs => ∃ v r, vs = v :: r ∧ RepT K g H t v ∧ RepTs K g H ts r
end

structure Step (g : G) (H : Hp) (g' : G) (H' : Hp) : Prop where
  pre : ∃ t, g'.ρ = g.ρ ++ t ∧ ∀ p ∈ t, H p = none
  ex : ∃ u, g'.ex = u ++ g.ex ∧ ∀ p ∈ u, H p = none
  keep : ∀ a o, H a = some o → a ∉ g.ρ → H' a = some o
  tups : ∀ a xs, H a = some (.tup xs) → H' a = some (.tup xs)
  frzs : ∀ a o u, H a = some (.frz o u) → H' a = some (.frz o u)
  there : ∀ a, H a ≠ none → H' a ≠ none

theorem Step.refl (g : G) (H : Hp) : Step g H g H :=
  ⟨⟨[], by simp, by simp⟩, ⟨[], by simp, by simp⟩, fun _ _ h _ => h, fun _ _ h => h, fun _ _ _ h => h, fun _ h => h⟩
theorem Step.trans {g g1 g2 : G} {H H1 H2 : Hp} (a : Step g H g1 H1) (b : Step g1 H1 g2 H2) : Step g H g2 H2 := by
  obtain ⟨t1, e1, f1⟩ := a.pre
  obtain ⟨t2, e2, f2⟩ := b.pre
  obtain ⟨u1, x1, y1⟩ := a.ex
  obtain ⟨u2, x2, y2⟩ := b.ex
  have back : ∀ p, H1 p = none → H p = none := fun p h => by
    cases q : H p with
    | none => rfl
    | some o => exact absurd h (a.there p (by rw [q]; simp))
  refine ⟨⟨t1 ++ t2, by rw [e2, e1, List.append_assoc], fun p hp => ?_⟩, ⟨u2 ++ u1, by rw [x2, x1, List.append_assoc], fun p hp => (List.mem_append.mp hp).elim (fun h => back p (y2 p h)) (y1 p)⟩, fun x o h hx => ?_, fun x xs h => b.tups x xs (a.tups x xs h), fun x o u h => b.frzs x o u (a.frzs x o u h), fun x h => b.there x (a.there x h)⟩
  · rcases List.mem_append.mp hp with h | h
    · exact f1 p h
    · exact back p (f2 p h)
  · have hx1 := a.keep x o h hx
    refine b.keep x o hx1 ?_
    rw [e1]
    intro hm
    rcases List.mem_append.mp hm with h' | h'
    · exact hx h'
    · rw [f1 x h'] at h; cases h
/-- nothing tracked changes -/
theorem Step.same {g : G} {H H' : Hp} (s : Same H H') : Step g H g H' :=
  ⟨⟨[], by simp, by simp⟩, ⟨[], by simp, by simp⟩, fun _ _ h _ => s _ _ h, fun _ _ h => s _ _ h, fun _ _ _ h => s _ _ h, fun a h => by
    cases q : H a with
    | none => exact absurd q h
    | some o => rw [s a o q]; simp⟩
theorem Same.new {H : Hp} {p : Addr} {o : HO} (h : H p = none) : Same H (upd H p o) := fun b x e => by
  rw [upd_ne (ne_of_none e h)]; exact e
theorem Step.new {g : G} {H : Hp} {p : Addr} {o : HO} (h : H p = none) : Step g H g (upd H p o) := Step.same (Same.new h)

section
variable {K : PySem.W.Frag} {g g' : G} {H H' : Hp}
theorem Fr.step (s : Step g H g' H') {a : Addr} (h : Fr g a) (hh : H a ≠ none) : Fr g' a := by
  obtain ⟨t, e, f⟩ := s.pre
  obtain ⟨u, e2, f2⟩ := s.ex
  refine ⟨fun hm => ?_, fun hm => ?_⟩
  · rw [e] at hm
    rcases List.mem_append.mp hm with h' | h'
    · exact h.1 h'
    · exact hh (f a h')
  · rw [e2] at hm
    rcases List.mem_append.mp hm with h' | h'
    · exact hh (f2 a h')
    · exact h.2 h'
theorem FrL.step (s : Step g H g' H') {a : Addr} {vs : List V} (h : FrL K g H a vs) : FrL K g' H' a vs := by
  obtain ⟨h, f⟩ := h
  exact ⟨s.keep _ _ h f.1, f.step s (by rw [h]; simp)⟩
theorem RoL.step (s : Step g H g' H') {a : Addr} {vs : List V} (h : RoL K H a vs) : RoL K H' a vs := by
  rcases h with ⟨o, h⟩ | h
  · exact .inl ⟨o, s.frzs _ _ _ h⟩
  · exact .inr h
theorem TuL.step (s : Step g H g' H') {a : Addr} {vs : List V} (h : TuL K H a vs) : TuL K H' a vs := by
  rcases h with h | ⟨o, h⟩ | h
  · exact .inl (s.tups _ _ h)
  · exact .inr (.inl ⟨o, s.frzs _ _ _ h⟩)
  · exact .inr (.inr h)
mutual
theorem RepT.step (s : Step g H g' H') : ∀ (t : T) (v : V), RepT K g H t v → RepT K g' H' t v
  | .none, _, h => by simpa [RepT] using h
  | .bool _, _, h => by simpa [RepT] using h
  | .int _, _, h => by simpa [RepT] using h
  | .str _, _, h => by simpa [RepT] using h
  | .list ts, v, h => by
    simp only [RepT] at h ⊢
    obtain ⟨a, vs, e, f, r⟩ := h
    exact ⟨a, vs, e, f.step s, RepTs.step s ts vs r⟩
  | .tuple ts, v, h => by
    simp only [RepT] at h ⊢
    obtain ⟨a, vs, e, f, r⟩ := h
    exact ⟨a, vs, e, f.step s, RepTs.step s ts vs r⟩
  | .dict kvs, v, h => by
    simp only [RepT] at h ⊢
    obtain ⟨e, a, ev, h1, f⟩ := h
    exact ⟨e, a, ev, s.keep _ _ h1 f.1, f.step s (by rw [h1]; simp)⟩
theorem RepTs.step (s : Step g H g' H') : ∀ (ts : List T) (vs : List V), RepTs K g H ts vs → RepTs K g' H' ts vs
  | [], _, h => by simpa [RepTs] using h
  | t :: ts, vs, h => by
    simp only [RepTs] at h ⊢
    obtain ⟨v, r, e, h1, h2⟩ := h
    exact ⟨v, r, e, RepT.step s t v h1, RepTs.step s ts r h2⟩
end
end
def RepD (K : PySem.W.Frag) (g : G) (H : Hp) : D → V → Prop
  | .v t, v => RepT K g H t v
  | .ref n, v => ∃ a, g.ρ[n]? = some a ∧ v = .ref a
  | .glo a, v => v = .ref a
  | .ty n, v => v = .ty n
  | .rol ts, v => ∃ a vs, v = .ref a ∧ RoL K H a vs ∧ RepTs K g H ts vs
theorem RepD.step {K : PySem.W.Frag} {g g' : G} {H H' : Hp} (s : Step g H g' H') : ∀ {d : D} {v : V}, RepD K g H d v → RepD K g' H' d v
  | .v _, _, h => RepT.step s _ _ h
  | .ref n, _, h => by
    obtain ⟨a, e, h⟩ := h
    obtain ⟨t, e2, _⟩ := s.pre
    refine ⟨a, ?_, h⟩
    rw [e2, List.getElem?_append_left (List.getElem?_eq_some_iff.mp e).1]; exact e
  | .glo _, _, h => h
  | .ty _, _, h => h
  | .rol _, _, ⟨a, vs, e, h1, h2⟩ => ⟨a, vs, e, h1.step s, RepTs.step s _ _ h2⟩
def RepO (K : PySem.W.Frag) (g : G) (H : Hp) (a : Addr) : MO → Prop
  | .lst ts => ∃ vs, H a = some (.lst vs) ∧ RepTs K g H ts vs
  | .dK kvs => ∃ kvs', H a = some (.dK kvs') ∧ kvs'.map (·.1) = kvs.map (·.1) ∧ RepTs K g H (kvs.map (·.2)) (kvs'.map (·.2))
structure RelS (K : PySem.W.Frag) (g : G) (H : Hp) (st : Sto) : Prop where
  len : g.ρ.length = st.length
  nd : g.ρ.Nodup
  obj : ∀ (n : Nat) (a : Addr) (o : MO), g.ρ[n]? = some a → st[n]? = some o → RepO K g H a o
  exo : ∀ a ∈ g.ex, H a ≠ none ∧ a ∉ g.ρ
structure RelE (K : PySem.W.Frag) (g : G) (H : Hp) (σ : L2.St) (env : EnvD) : Prop where
  len : σ.length = env.length
  at_ : ∀ (i : Nat) (d : D), env[i]? = some (some d) → ∃ v, σ[i]? = some (some v) ∧ RepD K g H d v
theorem RelE.step {K : PySem.W.Frag} {g g' : G} {H H' : Hp} {σ : St} {env : EnvD} (s : Step g H g' H') (r : RelE K g H σ env) : RelE K g' H' σ env :=
  ⟨r.len, fun i d h => let ⟨v, h1, h2⟩ := r.at_ i d h; ⟨v, h1, h2.step s⟩⟩
/-- the store's own objects under a change that leaves all that is tracked -/
theorem RelS.same {K : PySem.W.Frag} {g : G} {H H' : Hp} {st : Sto} (s : Same H H') (r : RelS K g H st) : RelS K g H' st := by
  refine ⟨r.len, r.nd, fun n a o h1 h2 => ?_, fun a h => ⟨?_, (r.exo a h).2⟩⟩
  · have q := r.obj n a o h1 h2
    cases o with
    | lst ts =>
      obtain ⟨vs, h3, h4⟩ := q
      exact ⟨vs, s _ _ h3, RepTs.step (Step.same s) _ _ h4⟩
    | dK kvs =>
      obtain ⟨vs, h3, h4, h5⟩ := q
      exact ⟨vs, s _ _ h3, h4, RepTs.step (Step.same s) _ _ h5⟩
  · exact (Step.same (g := g) s).there a (r.exo a h).1

structure Exn where
  C : Addr
  fs : List (Str × T)

inductive R (α : Type) where
  | ok (a : α) (st : Sto)
  | err (x : Exn) (st : Sto)
  | bad
def R.bind {α β : Type} : R α → (α → Sto → R β) → R β
  | .ok a st, k => k a st
  | .err x st, _ => .err x st
  | .bad, _ => .bad
@[simp] theorem R.bind_ok {α β : Type} (a : α) (st : Sto) (k : α → Sto → R β) : (R.ok a st).bind k = k a st := rfl
@[simp] theorem R.bind_err {α β : Type} (x : Exn) (st : Sto) (k : α → Sto → R β) : (R.err x st : R α).bind k = .err x st := rfl
@[simp] theorem R.bind_bad {α β : Type} (k : α → Sto → R β) : (R.bad : R α).bind k = .bad := rfl

def RepX (K : PySem.W.Frag) (g : G) (H : Hp) (x : Exn) (cls : Value) (od : Option Addr) : Prop :=
  cls = .ref x.C ∧ ((x.fs = [] ∧ od = none) ∨ ∃ d fs, od = some d ∧ H d = some (.xd fs) ∧ fs.map (·.1) = x.fs.map (·.1) ∧ RepTs K g H (x.fs.map (·.2)) (fs.map (·.2)) ∧ d ∉ g.ρ ∧ x.fs ≠ [])

def Post (K : PySem.W.Frag) (E : XK) {α β : Type} (rel : G → Hp → α → β → Prop) (g : G) (H : Hp) (Q : β → Hp → Prop) : R α → Prop
  | .ok a st => ∀ g' H' b, Step g H g' H' → RelS K g' H' st → rel g' H' a b → Q b H'
  | .err x st => ∀ g' H' cls od, Step g H g' H' → RelS K g' H' st → RepX K g' H' x cls od → E cls od H'
  | .bad => False
section
variable {K : PySem.W.Frag} {E : XK} {α β α' β' : Type} {rel : G → Hp → α → β → Prop} {rel' : G → Hp → α' → β' → Prop} {g g1 : G} {H H1 : Hp} {Q : β → Hp → Prop} {Q' : β' → Hp → Prop}
theorem Post.from {r : R α} (s : Step g H g1 H1) (h : Post K E rel g H Q r) : Post K E rel g1 H1 Q r := by
  cases r with
  | ok a st => exact fun g' H' b s' hs hr => h g' H' b (s.trans s') hs hr
  | err x st => exact fun g' H' c o s' hs hr => h g' H' c o (s.trans s') hs hr
  | bad => exact h
theorem Post.bind {m : R α} {k : α → Sto → R α'} (h : Post K E rel' g H Q' (m.bind k))
    (f : ∀ g1 H1 a st b, Step g H g1 H1 → RelS K g1 H1 st → rel g1 H1 a b → Post K E rel' g1 H1 Q' (k a st) → Q b H1) : Post K E rel g H Q m := by
  cases m with
  | ok a st => exact fun g' H' b s hs hr => f g' H' a st b s hs hr (Post.from s h)
  | err x st => exact h
  | bad => exact h
theorem Post.imp {r : R α} {Q2 : β → Hp → Prop} (h : Post K E rel g H Q r) (f : ∀ b H', Q b H' → Q2 b H') : Post K E rel g H Q2 r := by
  cases r with
  | ok a st => exact fun g' H' b s' hs hr => f _ _ (h g' H' b s' hs hr)
  | err x st => exact h
  | bad => exact h
end

abbrev ME (α : Type) := EnvD → Sto → R α
def tOf (K : PySem.W.Frag) (E : XK) {α β : Type} (rel : G → Hp → α → β → Prop) (m : ME α) : L2.St → Hp → (β → Hp → Prop) → Prop := fun σ H Q =>
  ∃ g env st, RelE K g H σ env ∧ RelS K g H st ∧ Post K E rel g H Q (m env st)
abbrev relD (K : PySem.W.Frag) : G → Hp → D → V → Prop := fun g H d v => RepD K g H d v
abbrev relB : G → Hp → Bool → Bool → Prop := fun _ _ b c => b = c
def RepDs (K : PySem.W.Frag) (g : G) (H : Hp) : List D → List V → Prop
  | [], vs => vs = []
  | t :: ts, vs => ∃ v r, vs = v :: r ∧ RepD K g H t v ∧ RepDs K g H ts r
theorem RepDs.step {K : PySem.W.Frag} {g g' : G} {H H' : Hp} (s : Step g H g' H') : ∀ {ds : List D} {vs : List V}, RepDs K g H ds vs → RepDs K g' H' ds vs
  | [], _, h => h
  | _ :: _, _, ⟨v, r, e, h1, h2⟩ => ⟨v, r, e, h1.step s, RepDs.step s h2⟩
theorem PE.mono {X : Cx} {e : Expr} {t t' : TE} (h : PE X e t) (f : ∀ σ H Q, t' σ H Q → t σ H Q) : PE X e t' :=
  ⟨fun pins s σ H Q I hw => h.run pins s σ H Q I (f σ H Q hw)⟩
theorem PT.mono {X : Cx} {e : Expr} {t t' : TT} (h : PT X e t) (f : ∀ σ H Q, t' σ H Q → t σ H Q) : PT X e t' :=
  ⟨fun pins s σ H Q I hw => h.run pins s σ H Q I (f σ H Q hw)⟩
theorem PW.mono {X : Cx} {e : Expr} {t t' : TT} (h : PW X e t) (f : ∀ σ H Q, t' σ H Q → t σ H Q) : PW X e t' :=
  ⟨fun whole pins s σ H Q I hw => h.run whole pins s σ H Q I (f σ H Q hw)⟩
theorem PA.mono {X : Cx} {e : List Expr} {t t' : TA} (h : PA X e t) (f : ∀ σ H Q, t' σ H Q → t σ H Q) : PA X e t' :=
  ⟨fun pos pins s σ H Q I hw => h.run pos pins s σ H Q I (f σ H Q hw)⟩
theorem PS.mono {X : Cx} {e : Stmt} {t t' : TS} (h : PS X e t) (f : ∀ D σ H, t' D σ H → t D σ H) : PS X e t' :=
  ⟨fun pins s σ H D I hw => h.run pins s σ H D I (f D σ H hw)⟩
theorem PSs.mono {X : Cx} {e : List Stmt} {t t' : TS} (h : PSs X e t) (f : ∀ D σ H, t' D σ H → t D σ H) : PSs X e t' :=
  ⟨fun pins s σ H D I hw => h.run pins s σ H D I (f D σ H hw)⟩

/-- an expression, a test, arguments over pure data -/
def SE (X : Cx) (E : XK) (e : Expr) (m : ME D) : Prop := PE X e (tOf X.K E (relD X.K) m)
def ST (X : Cx) (E : XK) (e : Expr) (m : ME Bool) : Prop := PT X e (tOf X.K E relB m)
def SA (X : Cx) (E : XK) (e : List Expr) (m : ME (List D)) : Prop := PA X e (tOf X.K E (fun g H ds vs => RepDs X.K g H ds vs) m)
end PL

namespace PL
open PySem PySem.Spec L2
open PyProof.Rows hiding St
/-! ### sequences -/
section
variable {K : PySem.W.Frag} {g : G} {H : Hp}
theorem reps_iff : ∀ {ts : List T} {vs : List V}, RepTs K g H ts vs ↔ ts.length = vs.length ∧ ∀ (i : Nat) t v, ts[i]? = some t → vs[i]? = some v → RepT K g H t v
  | [], vs => by
    simp only [RepTs]
    constructor
    · rintro rfl; exact ⟨rfl, fun i t v h _ => by simp at h⟩
    · rintro ⟨h, _⟩; exact List.length_eq_zero_iff.mp h.symm
  | t :: ts, vs => by
    simp only [RepTs]
    constructor
    · rintro ⟨v, r, rfl, h1, h2⟩
      obtain ⟨h3, h4⟩ := reps_iff.mp h2
      refine ⟨by simp [h3], fun i t' v' e1 e2 => ?_⟩
      cases i with
      | zero => simp at e1 e2; subst e1 e2; exact h1
      | succ i => exact h4 i t' v' (by simpa using e1) (by simpa using e2)
    · rintro ⟨h1, h2⟩
      cases vs with
      | nil => simp at h1
      | cons v r =>
        exact ⟨v, r, rfl, h2 0 t v rfl rfl, reps_iff.mpr ⟨by simpa using h1, fun i t' v' e1 e2 => h2 (i + 1) t' v' (by simpa using e1) (by simpa using e2)⟩⟩
theorem RepTs.length {ts : List T} {vs : List V} (h : RepTs K g H ts vs) : ts.length = vs.length := (reps_iff.mp h).1
theorem RepTs.get {ts : List T} {vs : List V} (h : RepTs K g H ts vs) {i : Nat} {t : T} (e : ts[i]? = some t) : ∃ v, vs[i]? = some v ∧ RepT K g H t v := by
  obtain ⟨h1, h2⟩ := reps_iff.mp h
  obtain ⟨hi, _⟩ := List.getElem?_eq_some_iff.mp e
  exact ⟨vs[i]'(by omega), List.getElem?_eq_getElem _, h2 i t _ e (List.getElem?_eq_getElem _)⟩
theorem RepTs.append {ts ss : List T} {vs ws : List V} (h : RepTs K g H ts vs) (k : RepTs K g H ss ws) : RepTs K g H (ts ++ ss) (vs ++ ws) := by
  induction ts generalizing vs with
  | nil => simp only [RepTs] at h; subst h; exact k
  | cons t ts ih =>
    simp only [RepTs] at h
    obtain ⟨v, r, rfl, h1, h2⟩ := h
    exact ⟨v, r ++ ws, rfl, h1, ih h2⟩
theorem RepTs.take {ts : List T} {vs : List V} (h : RepTs K g H ts vs) (n : Nat) : RepTs K g H (ts.take n) (vs.take n) := by
  obtain ⟨h1, h2⟩ := reps_iff.mp h
  refine reps_iff.mpr ⟨by simp [h1], fun i t v e1 e2 => ?_⟩
  rw [List.getElem?_take] at e1 e2
  split at e1
  · rename_i hi; rw [if_pos hi] at e2; exact h2 i t v e1 e2
  · cases e1
theorem RepTs.drop {ts : List T} {vs : List V} (h : RepTs K g H ts vs) (n : Nat) : RepTs K g H (ts.drop n) (vs.drop n) := by
  obtain ⟨h1, h2⟩ := reps_iff.mp h
  refine reps_iff.mpr ⟨by simp [h1], fun i t v e1 e2 => ?_⟩
  rw [List.getElem?_drop] at e1 e2
  exact h2 _ t v e1 e2
theorem RepTs.reverse {ts : List T} {vs : List V} (h : RepTs K g H ts vs) : RepTs K g H ts.reverse vs.reverse := by
  obtain ⟨h1, h2⟩ := reps_iff.mp h
  refine reps_iff.mpr ⟨by simp [h1], fun i t v e1 e2 => ?_⟩
  have hi : i < ts.length := by
    have := (List.getElem?_eq_some_iff.mp e1).1
    simpa using this
  rw [List.getElem?_reverse hi] at e1
  rw [List.getElem?_reverse (by omega)] at e2
  rw [← h1] at e2
  exact h2 _ t v e1 e2
theorem RepTs.set {ts : List T} {vs : List V} (h : RepTs K g H ts vs) (n : Nat) {t : T} {v : V} (r : RepT K g H t v) : RepTs K g H (ts.set n t) (vs.set n v) := by
  obtain ⟨h1, h2⟩ := reps_iff.mp h
  refine reps_iff.mpr ⟨by simp [h1], fun i t' v' e1 e2 => ?_⟩
  rw [List.getElem?_set] at e1 e2
  split at e1
  · rename_i hi
    rw [if_pos hi] at e2
    split at e1
    · split at e2
      · cases e1; cases e2; exact r
      · cases e2
    · cases e1
  · rename_i hi
    rw [if_neg hi] at e2
    exact h2 i t' v' e1 e2
theorem RepTs.eraseIdx {ts : List T} {vs : List V} (h : RepTs K g H ts vs) (n : Nat) : RepTs K g H (ts.eraseIdx n) (vs.eraseIdx n) := by
  induction ts generalizing vs n with
  | nil => simp only [RepTs] at h; subst h; exact (rfl : _ = _)
  | cons t ts ih =>
    simp only [RepTs] at h
    obtain ⟨v, r, rfl, h1, h2⟩ := h
    cases n with
    | zero => exact h2
    | succ n => exact ⟨v, r.eraseIdx n, rfl, h1, ih h2 n⟩
theorem RepTs.one {t : T} {v : V} (r : RepT K g H t v) : RepTs K g H [t] [v] := ⟨v, [], rfl, r, rfl⟩
theorem RepTs.rep {ts : List T} {vs : List V} (h : RepTs K g H ts vs) : ∀ k : Nat, RepTs K g H (List.replicate k ts).flatten (List.replicate k vs).flatten
  | 0 => (rfl : _ = _)
  | k + 1 => by
    rw [List.replicate_succ, List.replicate_succ, List.flatten_cons, List.flatten_cons]
    exact h.append (h.rep k)
end
/-! ### reading -/
def asLt (st : Sto) : D → Option (List T)
  | .v (.list ts) => some ts
  | .ref n => match st[n]? with
    | some (.lst ts) => some ts
    | _ => none
  | _ => none
def asL (st : Sto) : D → Option (List T)
  | .rol ts => some ts
  | d => asLt st d
section
variable {K : PySem.W.Frag} {g : G} {H : Hp} {st : Sto} {d : D} {v : V} {ts : List T}
theorem RelS.ref (r : RelS K g H st) {n : Nat} {a : Addr} (h : g.ρ[n]? = some a) : ∃ o, st[n]? = some o ∧ RepO K g H a o := by
  have h1 := (List.getElem?_eq_some_iff.mp h).1
  rw [r.len] at h1
  exact ⟨st[n], List.getElem?_eq_getElem h1, r.obj n a _ h (List.getElem?_eq_getElem h1)⟩
theorem asLt_ok (h : asLt st d = some ts) (rs : RelS K g H st) (rd : RepD K g H d v) : ∃ a vs, v = .ref a ∧ H a = some (.lst vs) ∧ RepTs K g H ts vs := by
  unfold asLt at h
  split at h
  · cases h
    simp only [RepD, RepT] at rd
    obtain ⟨a, vs, e, f, r⟩ := rd
    exact ⟨a, vs, e, f.1, r⟩
  · rename_i n
    obtain ⟨a, e1, e2⟩ := rd
    obtain ⟨o, e3, e4⟩ := rs.ref e1
    rw [e3] at h
    cases o with
    | lst ts' =>
      cases h
      obtain ⟨vs, e5, e6⟩ := e4
      exact ⟨a, vs, e2, e5, e6⟩
    | dK _ => cases h
  · cases h
theorem asL_ok (h : asL st d = some ts) (rs : RelS K g H st) (rd : RepD K g H d v) : ∃ a vs, v = .ref a ∧ SqL K H a vs ∧ RepTs K g H ts vs := by
  unfold asL at h
  split at h
  · cases h
    obtain ⟨a, vs, e, f, r⟩ := rd
    exact ⟨a, vs, e, f.sq, r⟩
  · obtain ⟨a, vs, e, f, r⟩ := asLt_ok h rs rd
    exact ⟨a, vs, e, .inl (.inl f), r⟩
theorem rep_tup (rd : RepD K g H (.v (.tuple ts)) v) : ∃ a vs, v = .ref a ∧ TuL K H a vs ∧ RepTs K g H ts vs := by
  simpa only [RepD, RepT] using rd
theorem rep_int {i : Int} (rd : RepD K g H (.v (.int i)) v) : v = .int i := by simpa only [RepD, RepT] using rd
theorem rep_str {i : Str} (rd : RepD K g H (.v (.str i)) v) : v = .str i := by simpa only [RepD, RepT] using rd
theorem rep_bool {i : Bool} (rd : RepD K g H (.v (.bool i)) v) : v = .bl i := by simpa only [RepD, RepT] using rd
theorem rep_none (rd : RepD K g H (.v .none) v) : v = .non := by simpa only [RepD, RepT] using rd
/-- a new tuple, a new frozen list -/
theorem rep_newT {vs : List V} {p : Addr} (hp : H p = none) (r : RepTs K g H ts vs) : RepD K g (upd H p (.tup vs)) (.v (.tuple ts)) (.ref p) := by
  show RepT _ _ _ _ _
  simp only [RepT]
  exact ⟨p, vs, rfl, .inl upd_same, RepTs.step (Step.new hp) _ _ r⟩
theorem RelS.notin (rs : RelS K g H st) {p : Addr} (hp : H p = none) : Fr g p := by
  refine ⟨fun h => ?_, fun h => absurd hp (rs.exo p h).1⟩
  obtain ⟨n, hn⟩ := List.getElem?_of_mem h
  obtain ⟨o, _, e⟩ := rs.ref hn
  cases o with
  | lst _ => obtain ⟨vs, e, _⟩ := e; rw [hp] at e; cases e
  | dK _ => obtain ⟨vs, e, _⟩ := e; rw [hp] at e; cases e
theorem rep_newL {vs : List V} {p : Addr} (rs : RelS K g H st) (hp : H p = none) (r : RepTs K g H ts vs) : RepD K g (upd H p (.lst vs)) (.v (.list ts)) (.ref p) := by
  show RepT _ _ _ _ _
  simp only [RepT]
  exact ⟨p, vs, rfl, ⟨upd_same, rs.notin hp⟩, RepTs.step (Step.new hp) _ _ r⟩
/-- an end at a new object -/
theorem Post.newT {E : XK} {Q : VK} {vs : List V} {p : Addr} (rs : RelS K g H st) (hp : H p = none) (r : RepTs K g H ts vs) (h : Post K E (relD K) g H Q (.ok (.v (.tuple ts)) st)) : Q (.ref p) (upd H p (.tup vs)) :=
  h g _ _ (Step.new hp) (rs.same (Same.new hp)) (rep_newT hp r)
theorem Post.newL {E : XK} {Q : VK} {vs : List V} {p : Addr} (rs : RelS K g H st) (hp : H p = none) (r : RepTs K g H ts vs) (h : Post K E (relD K) g H Q (.ok (.v (.list ts)) st)) : Q (.ref p) (upd H p (.lst vs)) :=
  h g _ _ (Step.new hp) (rs.same (Same.new hp)) (rep_newL rs hp r)
theorem Post.at {E : XK} {Q : VK} (rs : RelS K g H st) (r : RepD K g H d v) (h : Post K E (relD K) g H Q (.ok d st)) : Q v H :=
  h g _ _ (Step.refl g H) rs r
theorem Post.atB {E : XK} {Q : Bool → Hp → Prop} {b : Bool} (rs : RelS K g H st) (h : Post K E relB g H Q (.ok b st)) : Q b H :=
  h g _ _ (Step.refl g H) rs rfl
end
end PL

namespace PL
open PySem PySem.Spec L2
open PyProof.Rows hiding St
/-! ### names, constants -/
def mVar (i : Nat) : ME D := fun env st => match env[i]? with
  | some (some d) => .ok d st
  | _ => .bad
def mC (d : D) : ME D := fun _ st => .ok d st
section
variable {X : Cx} {E : XK} {pos : Pos}
theorem se_var (i : Nat) {x : Str} (hN : X.N[i]? = some x := by rfl) (hv : Vis X.env.scope x := by first | exact Or.inl rfl | exact Or.inr (Or.inl rfl) | exact Or.inr (Or.inr rfl))
    (hd : (x == ("__debug__" : Str)) = false := by decide) (hcd : (x == ("__classdict__" : Str)) = false := by decide) : SE X E (.Name x pos) (mVar i) := by
  refine PE.mono (pe_var (i := i) hN hv hd hcd) fun σ H Q ⟨g, env, st, re, rs, h⟩ => ?_
  unfold mVar at h
  split at h
  · rename_i d e
    obtain ⟨v, h1, h2⟩ := re.at_ i d e
    exact ⟨v, h1, Post.at rs h2 h⟩
  · exact h.elim
theorem se_c {e : Expr} {v : V} {d : D} (h : PE X e (tC v)) (r : ∀ g H, RepD X.K g H d v) : SE X E e (mC d) :=
  PE.mono h fun _ H _ ⟨g, _, _, _, rs, q⟩ => Post.at rs (r g H) q
theorem rep_v {K : PySem.W.Frag} {g : G} {H : Hp} : RepD K g H (.v .none) .non ∧ (∀ b, RepD K g H (.v (.bool b)) (.bl b)) ∧ (∀ i, RepD K g H (.v (.int i)) (.int i)) ∧ ∀ i, RepD K g H (.v (.str i)) (.str i) := by
  simp [RepD, RepT]
theorem se_int {i j} : SE X E (.Constant (.int i) j pos) (mC (.v (.int i))) := se_c pe_int fun _ _ => rep_v.2.2.1 i
theorem se_bl {i j} : SE X E (.Constant (.bool i) j pos) (mC (.v (.bool i))) := se_c pe_bl fun _ _ => rep_v.2.1 i
theorem se_non {j} : SE X E (.Constant .none j pos) (mC (.v .none)) := se_c pe_non fun _ _ => rep_v.1
theorem se_str {i j} : SE X E (.Constant (.str i) j pos) (mC (.v (.str i))) := se_c pe_str fun _ _ => rep_v.2.2.2 i
theorem se_gint {x : Str} {i : Int} (hm : ∃ t, X.mg x = some (.int i t)) (hg : Gl X x := by rfl) (hd : (x == ("__debug__" : Str)) = false := by decide) : SE X E (.Name x pos) (mC (.v (.int i))) := by
  obtain ⟨t, hm⟩ := hm
  exact se_c (pe_glob (v := .int i) hg hm ⟨t, rfl⟩ hd) fun _ _ => rep_v.2.2.1 i
theorem se_gstr {x : Str} {i : Str} (hm : ∃ t, X.mg x = some (.str i t)) (hg : Gl X x := by rfl) (hd : (x == ("__debug__" : Str)) = false := by decide) : SE X E (.Name x pos) (mC (.v (.str i))) := by
  obtain ⟨t, hm⟩ := hm
  exact se_c (pe_glob (v := .str i) hg hm ⟨t, rfl⟩ hd) fun _ _ => rep_v.2.2.2 i
theorem se_gref {x : Str} {a : Addr} (hm : X.mg x = some (.ref a)) (hg : Gl X x := by rfl) (hd : (x == ("__debug__" : Str)) = false := by decide) : SE X E (.Name x pos) (mC (.glo a)) :=
  se_c (pe_glob (v := .ref a) hg hm rfl hd) fun _ _ => rfl
theorem se_ty {x : Str} {n : String} (hm : X.mg x = none) (hv : bootBuiltins x = some (.type n)) (hg : Gl X x := by rfl) (hn : x ≠ "__name__" := by decide) (hd : (x == ("__debug__" : Str)) = false := by decide) :
    SE X E (.Name x pos) (mC (.ty n)) := se_c (pe_bltn (v := .ty n) hg hm hv rfl hn hd) fun _ _ => rfl
end
/-! ### two operands -/
def mBin (f : D → D → Sto → R D) (a b : ME D) : ME D := fun env st => (a env st).bind fun x s1 => (b env s1).bind fun y s2 => f x y s2
def OpS (K : PySem.W.Frag) (E : XK) (r : R2) (f : D → D → Sto → R D) : Prop :=
  ∀ (g : G) (H : Hp) (st : Sto) (x y : D) (v u : V) (Q : VK), RelS K g H st → RepD K g H x v → RepD K g H y u → Post K E (relD K) g H Q (f x y st) → r v u H Q
section
variable {X : Cx} {E : XK} {pos : Pos} {a b c : Expr} {ma mb mc : ME D} {f : D → D → Sto → R D} {r : R2}
theorem t_bin {K : PySem.W.Frag} (hf : OpS K E r f) {σ : L2.St} {H : Hp} {Q : VK} (h : tOf K E (relD K) (mBin f ma mb) σ H Q) : tOp r (tOf K E (relD K) ma) (tOf K E (relD K) mb) σ H Q := by
  obtain ⟨g, env, st, re, rs, h⟩ := h
  refine ⟨g, env, st, re, rs, Post.bind h fun g1 H1 x s1 v s rs1 rx h1 => ?_⟩
  refine ⟨g1, env, s1, re.step s, rs1, Post.bind h1 fun g2 H2 y s2 u s' rs2 ry h2 => ?_⟩
  exact hf g2 H2 s2 x y v u Q rs2 (rx.step s') ry h2
theorem se_op {op : Operator} (hf : ∀ K, OpS K E (r := r) f) (ho : OpR X (binaryOp op) r) (ha : SE X E a ma) (hb : SE X E b mb) : SE X E (.BinOp a op b pos) (mBin f ma mb) :=
  PE.mono (pe_op ho ha hb) fun _ _ _ h => t_bin (hf X.K) h
theorem OpS.or {K : PySem.W.Frag} {r' : R2} (h : ∀ (g : G) (H : Hp) (st : Sto) (x y : D) (v u : V) (Q : VK), RelS K g H st → RepD K g H x v → RepD K g H y u → Post K E (relD K) g H Q (f x y st) → r v u H Q ∨ r' v u H Q) :
    OpS K E (fun v u H Q => r v u H Q ∨ r' v u H Q) f := h
end
def opAdd (x y : D) (st : Sto) : R D := match x, y with
  | .v (.int i), .v (.int j) => .ok (.v (.int (i + j))) st
  | .v (.str i), .v (.str j) => if i.length + j.length ≤ sizeLine then .ok (.v (.str (i ++ j))) st else .bad
  | .v (.tuple xs), .v (.tuple ys) => if xs.length + ys.length ≤ sizeLine then .ok (.v (.tuple (xs ++ ys))) st else .bad
  | x, y => match asLt st x, asLt st y with
    | some xs, some ys => if xs.length + ys.length ≤ sizeLine then .ok (.v (.list (xs ++ ys))) st else .bad
    | _, _ => .bad
abbrev rAddA (K : PySem.W.Frag) : R2 := fun x y H Q => (rI0 fun i j => .int (i + j)) x y H Q ∨ (rCatA K x y H Q ∨ (rCat x y H Q ∨
  (∃ i j, x = .str i ∧ y = .str j ∧ i.length + j.length ≤ sizeLine ∧ Q (.str (i ++ j)) H)))
theorem op_addA {X : Cx} : OpR X (binaryOp .Add) (rAddA X.K) := op_add.or (op_catA.or (op_cat.or op_add_str))
theorem if_bad {K : PySem.W.Frag} {E : XK} {α β : Type} {rel : G → Hp → α → β → Prop} {g : G} {H : Hp} {Q : β → Hp → Prop} {c : Prop} [Decidable c] {r : R α} (h : Post K E rel g H Q (if c then r else .bad)) : c ∧ Post K E rel g H Q r := by
  by_cases hc : c
  · rw [if_pos hc] at h; exact ⟨hc, h⟩
  · rw [if_neg hc] at h; exact h.elim
theorem nil_rep {K : PySem.W.Frag} {g : G} {H : Hp} {ts : List T} {vs : List V} (h : RepTs K g H ts vs) : vs = [] ↔ ts = [] := by
  have l := h.length
  constructor
  · intro e; subst e; exact List.length_eq_zero_iff.mp l
  · intro e; subst e; exact List.length_eq_zero_iff.mp l.symm
theorem os_add {K : PySem.W.Frag} {E : XK} : OpS K E (rAddA K) opAdd := by
  intro g H st x y v u Q rs rx ry h
  unfold opAdd at h
  split at h
  · obtain rfl := rep_int rx
    obtain rfl := rep_int ry
    exact .inl ⟨_, _, rfl, rfl, Post.at rs (rep_v.2.2.1 _) h⟩
  · obtain ⟨hz, h⟩ := if_bad h
    obtain rfl := rep_str rx
    obtain rfl := rep_str ry
    exact .inr (.inr (.inr ⟨_, _, rfl, rfl, hz, Post.at rs (rep_v.2.2.2 _) h⟩))
  · obtain ⟨hz, h⟩ := if_bad h
    obtain ⟨a, vs, rfl, ta, ra⟩ := rep_tup rx
    obtain ⟨b, ws, rfl, tb, rb⟩ := rep_tup ry
    have la := ra.length
    have lb := rb.length
    refine .inr (.inl ⟨a, b, vs, ws, rfl, rfl, ta.sq, tb.sq, by omega, fun e => ?_, fun _ e => ?_, fun _ _ p hp => Post.newT rs hp (ra.append rb) h⟩)
    · have e' := (nil_rep ra).mp e
      subst e'
      exact Post.at rs ry h
    · have e' := (nil_rep rb).mp e
      subst e'
      rw [List.append_nil] at h
      exact Post.at rs rx h
  · split at h
    · rename_i xs ys e1 e2
      obtain ⟨hz, h⟩ := if_bad h
      obtain ⟨a, vs, rfl, ha, ra⟩ := asLt_ok e1 rs rx
      obtain ⟨b, ws, rfl, hb, rb⟩ := asLt_ok e2 rs ry
      have la := ra.length
      have lb := rb.length
      exact .inr (.inr (.inl ⟨a, b, vs, ws, rfl, rfl, ha, hb, by omega, fun p hp => Post.newL rs hp (ra.append rb) h⟩))
    · exact h.elim
/-! ints -/
def opI (C : Int → Int → Prop) [∀ i j, Decidable (C i j)] (k : Int → Int → T) (x y : D) (st : Sto) : R D := match x, y with
  | .v (.int i), .v (.int j) => if C i j then .ok (.v (k i j)) st else .bad
  | _, _ => .bad
def vT : T → Option V
  | .none => some .non
  | .bool b => some (.bl b)
  | .int i => some (.int i)
  | .str x => some (.str x)
  | _ => none
theorem rep_vT {K : PySem.W.Frag} {g : G} {H : Hp} {t : T} {v : V} (h : vT t = some v) : RepD K g H (.v t) v := by
  cases t <;> simp [vT] at h <;> subst h <;> simp [RepD, RepT]
theorem os_I {K : PySem.W.Frag} {E : XK} {C : Int → Int → Prop} [∀ i j, Decidable (C i j)] {k : Int → Int → T} {k' : Int → Int → V} (hk : ∀ i j, vT (k i j) = some (k' i j)) : OpS K E (rI C k') (opI C k) := by
  intro g H st x y v u Q rs rx ry h
  unfold opI at h
  split at h
  · obtain ⟨hc, h⟩ := if_bad h
    obtain rfl := rep_int rx
    obtain rfl := rep_int ry
    exact ⟨_, _, rfl, rfl, hc, Post.at rs (rep_vT (hk _ _)) h⟩
  · exact h.elim
def opI0 (k : Int → Int → T) (x y : D) (st : Sto) : R D := match x, y with
  | .v (.int i), .v (.int j) => .ok (.v (k i j)) st
  | _, _ => .bad
theorem os_I0 {K : PySem.W.Frag} {E : XK} {k : Int → Int → T} {k' : Int → Int → V} (hk : ∀ i j, vT (k i j) = some (k' i j)) : OpS K E (rI0 k') (opI0 k) := by
  intro g H st x y v u Q rs rx ry h
  unfold opI0 at h
  split at h
  · obtain rfl := rep_int rx
    obtain rfl := rep_int ry
    exact ⟨_, _, rfl, rfl, Post.at rs (rep_vT (hk _ _)) h⟩
  · exact h.elim
instance : ∀ i j, Decidable (CDiv i j) := fun i j => by unfold CDiv; infer_instance
instance : ∀ i j, Decidable (CPow i j) := fun i j => by unfold CPow; infer_instance
instance : ∀ i j, Decidable (CMul i j) := fun i j => by unfold CMul; infer_instance
abbrev opSub : D → D → Sto → R D := opI0 fun i j => .int (i - j)
def opMod : D → D → Sto → R D := opI (fun _ j => 0 < j) fun i j => .int (i % j)
abbrev opDiv : D → D → Sto → R D := opI CDiv fun i j => .int (i / j)
abbrev opPow : D → D → Sto → R D := opI CPow fun i j => .int (i ^ j.toNat)
section
variable {X : Cx} {E : XK} {pos : Pos} {a b c : Expr} {ma mb mc : ME D}
theorem se_add (ha : SE X E a ma) (hb : SE X E b mb) : SE X E (.BinOp a .Add b pos) (mBin opAdd ma mb) := PE.mono (pe_op op_addA ha hb) fun _ _ _ h => t_bin os_add h
theorem se_sub (ha : SE X E a ma) (hb : SE X E b mb) : SE X E (.BinOp a .Sub b pos) (mBin opSub ma mb) := PE.mono (pe_op op_sub ha hb) fun _ _ _ h => t_bin (os_I0 fun _ _ => rfl) h
theorem se_mod (ha : SE X E a ma) (hb : SE X E b mb) : SE X E (.BinOp a .Mod b pos) (mBin opMod ma mb) := PE.mono (pe_op op_mod ha hb) fun _ _ _ h => t_bin (os_I fun _ _ => rfl) h
theorem se_div (ha : SE X E a ma) (hb : SE X E b mb) : SE X E (.BinOp a .FloorDiv b pos) (mBin opDiv ma mb) := PE.mono (pe_op op_fdiv ha hb) fun _ _ _ h => t_bin (os_I fun _ _ => rfl) h
theorem se_pow (ha : SE X E a ma) (hb : SE X E b mb) : SE X E (.BinOp a .Pow b pos) (mBin opPow ma mb) := PE.mono (pe_op op_pow ha hb) fun _ _ _ h => t_bin (os_I fun _ _ => rfl) h
end
/-! times -/
def opMul (x y : D) (st : Sto) : R D := match x, y with
  | .v (.int i), .v (.int j) => if CMul i j then .ok (.v (.int (i * j))) st else .bad
  | .v (.tuple xs), .v (.int k) => if xs ≠ [] ∧ 2 ≤ k ∧ k ≤ 1000 ∧ xs.length ≤ 1000 then .ok (.v (.tuple (List.replicate k.toNat xs).flatten)) st else .bad
  | x, .v (.int k) => match asLt st x with
    | some xs => if -(2 ^ 63) ≤ k ∧ k < 2 ^ 63 ∧ xs.length * k.toNat ≤ sizeLine then .ok (.v (.list (List.replicate k.toNat xs).flatten)) st else .bad
    | _ => .bad
  | _, _ => .bad
abbrev rMulA (K : PySem.W.Frag) : R2 := fun x y H Q => (rI CMul fun i j => .int (i * j)) x y H Q ∨ (rRepT K x y H Q ∨ rRep x y H Q)
theorem op_mulA {X : Cx} : OpR X (binaryOp .Mult) (rMulA X.K) := op_mul.or (op_repT.or op_rep)
theorem os_mul {K : PySem.W.Frag} {E : XK} : OpS K E (rMulA K) opMul := by
  intro g H st x y v u Q rs rx ry h
  unfold opMul at h
  split at h
  · obtain ⟨hc, h⟩ := if_bad h
    obtain rfl := rep_int rx
    obtain rfl := rep_int ry
    exact .inl ⟨_, _, rfl, rfl, hc, Post.at rs (rep_v.2.2.1 _) h⟩
  · obtain ⟨⟨h1, h2, h3, h4⟩, h⟩ := if_bad h
    obtain ⟨a, vs, rfl, ta, ra⟩ := rep_tup rx
    obtain rfl := rep_int ry
    have la := ra.length
    exact .inr (.inl ⟨a, _, vs, rfl, rfl, ta.sq, fun e => h1 ((nil_rep ra).mp e), h2, h3, by omega, fun p hp => Post.newT rs hp (ra.rep _) h⟩)
  · split at h
    · rename_i xs e1
      obtain ⟨⟨h1, h2, h3⟩, h⟩ := if_bad h
      obtain ⟨a, vs, rfl, ha, ra⟩ := asLt_ok e1 rs rx
      obtain rfl := rep_int ry
      have la := ra.length
      exact .inr (.inr ⟨a, _, vs, rfl, rfl, ha, h1, h2, by rw [← la]; exact h3, fun p hp => Post.newL rs hp (ra.rep _) h⟩)
    · exact h.elim
  · exact h.elim
theorem se_mul {X : Cx} {E : XK} {pos : Pos} {a b : Expr} {ma mb : ME D} (ha : SE X E a ma) (hb : SE X E b mb) : SE X E (.BinOp a .Mult b pos) (mBin opMul ma mb) := PE.mono (pe_op op_mulA ha hb) fun _ _ _ h => t_bin os_mul h
/-! ### minus -/
def mUn (f : D → Sto → R D) (a : ME D) : ME D := fun env st => (a env st).bind fun x s1 => f x s1
def opNeg (x : D) (st : Sto) : R D := match x with
  | .v (.int i) => .ok (.v (.int (-i))) st
  | _ => .bad
theorem se_neg {X : Cx} {E : XK} {pos : Pos} {a : Expr} {ma : ME D} (ha : SE X E a ma) : SE X E (.UnaryOp .USub a pos) (mUn opNeg ma) := by
  refine PE.mono (pe_un un_neg ha) fun σ H Q ⟨g, env, st, re, rs, h⟩ => ⟨g, env, st, re, rs, Post.bind h fun g1 H1 x s1 v s rs1 rx h1 => ?_⟩
  unfold opNeg at h1
  split at h1
  · obtain rfl := rep_int rx
    exact ⟨_, rfl, Post.at rs1 (rep_v.2.2.1 _) h1⟩
  · exact h1.elim
/-! ### comparisons -/
def toT (st : Sto) : D → Option T
  | .v t => some t
  | d => match asL st d with
    | some ts => some (.list ts)
    | none => none
mutual
theorem dp_of {K : PySem.W.Frag} {g : G} {H : Hp} : ∀ (t : T) (v : V), RepT K g H t v → t.canLay0 = true → Dp K H v t
  | .none, v, h, _ => by simp only [RepT] at h; subst h; exact .non
  | .bool b, v, h, _ => by simp only [RepT] at h; subst h; exact .bl b
  | .int b, v, h, _ => by simp only [RepT] at h; subst h; exact .int b
  | .str b, v, h, _ => by simp only [RepT] at h; subst h; exact .str b
  | .list ts, v, h, l => by
    simp only [RepT] at h
    obtain ⟨a, vs, rfl, f, r⟩ := h
    simp only [PyData.canLay0] at l
    exact .lst f.sq (dps_of ts vs r l)
  | .tuple ts, v, h, l => by
    simp only [RepT] at h
    obtain ⟨a, vs, rfl, f, r⟩ := h
    simp only [PyData.canLay0] at l
    exact .tup f.sq (dps_of ts vs r l)
  | .dict _, v, h, l => by simp [PyData.canLay0] at l
theorem dps_of {K : PySem.W.Frag} {g : G} {H : Hp} : ∀ (ts : List T) (vs : List V), RepTs K g H ts vs → PyData.canLayAll0 ts = true → DpAll K H vs ts
  | [], vs, h, _ => by simp only [RepTs] at h; subst h; exact .nil
  | t :: ts, vs, h, l => by
    simp only [RepTs] at h
    obtain ⟨v, r, rfl, h1, h2⟩ := h
    simp only [PyData.canLayAll0, Bool.and_eq_true] at l
    exact .cons (dp_of t v h1 l.1) (dps_of ts r h2 l.2)
end
theorem toT_dp {K : PySem.W.Frag} {g : G} {H : Hp} {st : Sto} {d : D} {t : T} {v : V} (e : toT st d = some t) (rs : RelS K g H st) (r : RepD K g H d v) (l : SeqAt.shaped t = true) : Dp K H v t := by
  have l0 := SeqAt.canLay_of_shaped l
  unfold toT at e
  split at e
  · cases e; exact dp_of _ _ r l0
  · split at e
    · rename_i ts e1
      cases e
      obtain ⟨a, vs, rfl, f, r'⟩ := asL_ok e1 rs r
      simp only [PyData.canLay0] at l0
      exact .lst f (dps_of _ _ r' l0)
    · cases e
def opEqB (neg : Bool) (x y : D) (st : Sto) : R D := match x, y with
  | .v (.str a), .v (.str b) => .ok (.v (.bool (if neg then !(a == b) else a == b))) st
  | x, y => match toT st x, toT st y with
    | some t, some u => if SeqAt.shaped t = true ∧ SeqAt.shaped u = true then .ok (.v (.bool (if neg then !PyData.eqv t u else PyData.eqv t u))) st else .bad
    | _, _ => .bad
abbrev opEq := opEqB false
abbrev opNe := opEqB true
abbrev rEqA (K : PySem.W.Frag) : R2 := fun x y H Q => rEqD K x y H Q ∨ rEq x y H Q
abbrev rNeA (K : PySem.W.Frag) : R2 := fun x y H Q => rNeD K x y H Q ∨ rNe x y H Q
theorem op_eqA {X : Cx} (hu : X.A.units + 64 < cLine) : OpR X (compareOp .Eq) (rEqA X.K) := (op_eqD hu).or op_eq
theorem op_neA {X : Cx} (hu : X.A.units + 64 < cLine) : OpR X (compareOp .NotEq) (rNeA X.K) := (op_neD hu).or op_ne
theorem dec_str {a b : Str} : decide (V.str a = V.str b) = (a == b) := by
  rw [Bool.eq_iff_iff]
  simp
theorem os_eq {K : PySem.W.Frag} {E : XK} : OpS K E (rEqA K) opEq := by
  intro g H st x y v u Q rs rx ry h
  unfold opEq opEqB at h
  split at h
  · obtain rfl := rep_str rx
    obtain rfl := rep_str ry
    refine .inr ⟨rfl, ?_⟩
    rw [dec_str]
    exact Post.at rs (rep_v.2.1 _) h
  · split at h
    · rename_i t s e1 e2
      obtain ⟨⟨h1, h2⟩, h⟩ := if_bad h
      exact .inl ⟨t, s, toT_dp e1 rs rx h1, toT_dp e2 rs ry h2, h1, h2, Post.at rs (rep_v.2.1 _) (by simpa using h)⟩
    · exact h.elim
theorem os_ne {K : PySem.W.Frag} {E : XK} : OpS K E (rNeA K) opNe := by
  intro g H st x y v u Q rs rx ry h
  unfold opNe opEqB at h
  split at h
  · obtain rfl := rep_str rx
    obtain rfl := rep_str ry
    refine .inr ⟨rfl, ?_⟩
    rw [dec_str]
    exact Post.at rs (rep_v.2.1 _) h
  · split at h
    · rename_i t s e1 e2
      obtain ⟨⟨h1, h2⟩, h⟩ := if_bad h
      exact .inl ⟨t, s, toT_dp e1 rs rx h1, toT_dp e2 rs ry h2, h1, h2, Post.at rs (rep_v.2.1 _) (by simpa using h)⟩
    · exact h.elim
def isNoneD : D → Bool
  | .v .none => true
  | _ => false
def opIsN (neg : Bool) (x y : D) (st : Sto) : R D := match y with
  | .v .none => .ok (.v (.bool (if neg then !isNoneD x else isNoneD x))) st
  | _ => .bad
theorem isN_of {K : PySem.W.Frag} {g : G} {H : Hp} {x : D} {v : V} (rx : RepD K g H x v) : decide (v = .non) = isNoneD x := by
  cases x with
  | v t =>
    cases t with
    | none => obtain rfl := rep_none rx; rfl
    | bool _ => obtain rfl := rep_bool rx; rfl
    | int _ => obtain rfl := rep_int rx; rfl
    | str _ => obtain rfl := rep_str rx; rfl
    | list _ => simp only [RepD, RepT] at rx; obtain ⟨a, _, rfl, _⟩ := rx; rfl
    | tuple _ => simp only [RepD, RepT] at rx; obtain ⟨a, _, rfl, _⟩ := rx; rfl
    | dict _ => simp only [RepD, RepT] at rx; obtain ⟨_, a, rfl, _⟩ := rx; rfl
  | ref _ => obtain ⟨a, _, rfl⟩ := rx; rfl
  | glo _ => cases rx; rfl
  | ty _ => cases rx; rfl
  | rol _ => obtain ⟨a, _, rfl, _⟩ := rx; rfl
theorem os_isN {K : PySem.W.Frag} {E : XK} : OpS K E (fun x y H Q => y = .non ∧ Q (.bl (decide (x = .non))) H) (opIsN false) := by
  intro g H st x y v u Q rs rx ry h
  unfold opIsN at h
  split at h
  · refine ⟨rep_none ry, ?_⟩
    rw [isN_of rx]
    exact Post.at rs (rep_v.2.1 _) h
  · exact h.elim
theorem os_notN {K : PySem.W.Frag} {E : XK} : OpS K E (fun x y H Q => y = .non ∧ Q (.bl (!decide (x = .non))) H) (opIsN true) := by
  intro g H st x y v u Q rs rx ry h
  unfold opIsN at h
  split at h
  · refine ⟨rep_none ry, ?_⟩
    rw [isN_of rx]
    exact Post.at rs (rep_v.2.1 _) h
  · exact h.elim
end PL

namespace PL
open PySem PySem.Spec L2
open PyProof.Rows hiding St
/-! ### comparisons as values, as tests; truth -/
abbrev opLt : D → D → Sto → R D := opI0 fun i j => .bool (decide (i < j))
abbrev opLe : D → D → Sto → R D := opI0 fun i j => .bool (decide (i ≤ j))
abbrev opGt : D → D → Sto → R D := opI0 fun i j => .bool (decide (j < i))
abbrev opGe : D → D → Sto → R D := opI0 fun i j => .bool (decide (j ≤ i))
def truD (st : Sto) : D → Option Bool
  | .v .none => some false
  | .v (.bool b) => some b
  | .v (.int i) => some (i != 0)
  | .v (.str x) => if x.length ≤ sizeLine then some ((x.length : Int) != 0) else none
  | .v (.tuple ts) => some (!ts.isEmpty)
  | d => match asL st d with
    | some ts => some (!ts.isEmpty)
    | none => none
theorem reps_empty {K : PySem.W.Frag} {g : G} {H : Hp} {ts : List T} {vs : List V} (h : RepTs K g H ts vs) : ts.isEmpty = vs.isEmpty := by
  have l := h.length
  cases ts <;> cases vs <;> simp at l ⊢
theorem tru_of {K : PySem.W.Frag} {g : G} {H : Hp} {st : Sto} {d : D} {v : V} {k : Bool} (e : truD st d = some k) (rs : RelS K g H st) (r : RepD K g H d v) : TruV K v H k := by
  unfold truD at e
  split at e
  · cases e; obtain rfl := rep_none r; rfl
  · cases e; obtain rfl := rep_bool r; rfl
  · cases e; obtain rfl := rep_int r; rfl
  · split at e
    · rename_i hz
      cases e; obtain rfl := rep_str r; exact ⟨hz, rfl⟩
    · cases e
  · cases e
    obtain ⟨a, vs, rfl, ta, ra⟩ := rep_tup r
    exact .inr (.inl ⟨vs, ta.sq, by rw [reps_empty ra]⟩)
  · split at e
    · rename_i ts e1
      cases e
      obtain ⟨a, vs, rfl, hq, ra⟩ := asL_ok e1 rs r
      exact .inl ⟨vs, hq, by rw [reps_empty ra]⟩
    · cases e
def mTru (m : ME D) : ME Bool := fun env st => (m env st).bind fun d s1 => match truD s1 d with
  | some b => .ok b s1
  | none => .bad
section
variable {X : Cx} {E : XK} {pos : Pos} {a b c : Expr} {ma mb mc : ME D} {rest : List Expr}
theorem st_tru (ha : SE X E a ma) (he : ∀ whole, isTrue a X.env whole = (do let v ← whole; standAt a.pos; holding [v] (truthy v)) := by intro _; rfl) : ST X E a (mTru ma) := by
  refine PT.mono (pt_truth ha he) fun σ H Q ⟨g, env, st, re, rs, h⟩ => ⟨g, env, st, re, rs, Post.bind h fun g1 H1 x s1 v s rs1 rx h1 => ?_⟩
  split at h1
  · rename_i k e
    exact ⟨k, tru_of e rs1 rx, Post.atB rs1 h1⟩
  · exact h1.elim
theorem t_test {K : PySem.W.Frag} {m : ME D} {σ : L2.St} {H : Hp} {Q : Bool → Hp → Prop} (f : ∀ env st, m env st = .bad ∨ (∃ x s, m env st = .err x s) ∨ ∃ k s, m env st = .ok (.v (.bool k)) s)
    (h : tOf K E relB (mTru m) σ H Q) : tOf K E (relD K) m σ H fun x H' => ∃ k, x = .bl k ∧ Q k H' := by
  obtain ⟨g, env, st, re, rs, h⟩ := h
  refine ⟨g, env, st, re, rs, ?_⟩
  unfold mTru at h
  rcases f env st with e | ⟨x, s, e⟩ | ⟨k, s, e⟩
  · rw [e] at h; exact h.elim
  · rw [e] at h ⊢; exact h
  · rw [e] at h ⊢
    intro g' H' v s' rs' rx
    obtain rfl := rep_bool rx
    exact ⟨k, rfl, h g' H' _ s' rs' rfl⟩
/-- a comparison as a test -/
def mCmpT (f : D → D → Sto → R D) (a b : ME D) : ME Bool := fun env st => (mBin f a b env st).bind fun d s1 => match d with
  | .v (.bool k) => .ok k s1
  | _ => .bad
theorem t_cmpT {K : PySem.W.Frag} {r : R2} {f : D → D → Sto → R D} (hf : OpS K E r f) {σ : L2.St} {H : Hp} {Q : Bool → Hp → Prop} (h : tOf K E relB (mCmpT f ma mb) σ H Q) :
    tTest (tOp r (tOf K E (relD K) ma) (tOf K E (relD K) mb)) σ H Q := by
  obtain ⟨g, env, st, re, rs, h⟩ := h
  refine t_bin (K := K) hf ⟨g, env, st, re, rs, ?_⟩
  refine Post.bind h fun g1 H1 x s1 v s rs1 rx h1 => ?_
  split at h1
  · obtain rfl := rep_bool rx
    exact ⟨_, rfl, Post.atB rs1 h1⟩
  · exact h1.elim
theorem se_cmp {op : CmpOp} {r : R2} {f : D → D → Sto → R D} (hf : OpS X.K E r f) (ho : OpR X (compareOp op) r) (ha : SE X E a ma) (hb : SE X E b mb) (hm : behindInMarks op b = false) : SE X E (.Compare a [op] [b] pos) (mBin f ma mb) :=
  PE.mono (pe_cmpR ho ha hb hm) fun _ _ _ h => t_bin hf h
theorem st_cmp {op : CmpOp} {r : R2} {f : D → D → Sto → R D} (hf : OpS X.K E r f) (ho : OpR X (compareOp op) r) (ha : SE X E a ma) (hb : SE X E b mb) (hm : behindInMarks op b = false) : ST X E (.Compare a [op] [b] pos) (mCmpT f ma mb) :=
  PT.mono (pt_cmpR ho ha hb hm) fun _ _ _ h => t_cmpT hf h
theorem se_lt (ha : SE X E a ma) (hb : SE X E b mb) : SE X E (.Compare a [.Lt] [b] pos) (mBin opLt ma mb) := se_cmp (os_I0 fun _ _ => rfl) op_lt ha hb (nomark _)
theorem se_le (ha : SE X E a ma) (hb : SE X E b mb) : SE X E (.Compare a [.LtE] [b] pos) (mBin opLe ma mb) := se_cmp (os_I0 fun _ _ => rfl) op_le ha hb (nomark _)
theorem se_gt (ha : SE X E a ma) (hb : SE X E b mb) : SE X E (.Compare a [.Gt] [b] pos) (mBin opGt ma mb) := se_cmp (os_I0 fun _ _ => rfl) op_gt ha hb (nomark _)
theorem se_ge (ha : SE X E a ma) (hb : SE X E b mb) : SE X E (.Compare a [.GtE] [b] pos) (mBin opGe ma mb) := se_cmp (os_I0 fun _ _ => rfl) op_ge ha hb (nomark _)
theorem se_eq (hu : X.A.units + 64 < cLine) (ha : SE X E a ma) (hb : SE X E b mb) : SE X E (.Compare a [.Eq] [b] pos) (mBin opEq ma mb) := se_cmp os_eq (op_eqA hu) ha hb (nomark _)
theorem se_ne (hu : X.A.units + 64 < cLine) (ha : SE X E a ma) (hb : SE X E b mb) : SE X E (.Compare a [.NotEq] [b] pos) (mBin opNe ma mb) := se_cmp os_ne (op_neA hu) ha hb (nomark _)
theorem se_is (ha : SE X E a ma) (hb : SE X E b mb) : SE X E (.Compare a [.Is] [b] pos) (mBin (opIsN false) ma mb) := se_cmp os_isN op_isN ha hb (nomark _)
theorem se_isnot (ha : SE X E a ma) (hb : SE X E b mb) : SE X E (.Compare a [.IsNot] [b] pos) (mBin (opIsN true) ma mb) := se_cmp os_notN op_notN ha hb (nomark _)
theorem st_lt (ha : SE X E a ma) (hb : SE X E b mb) : ST X E (.Compare a [.Lt] [b] pos) (mCmpT opLt ma mb) := st_cmp (os_I0 fun _ _ => rfl) op_lt ha hb (nomark _)
theorem st_le (ha : SE X E a ma) (hb : SE X E b mb) : ST X E (.Compare a [.LtE] [b] pos) (mCmpT opLe ma mb) := st_cmp (os_I0 fun _ _ => rfl) op_le ha hb (nomark _)
theorem st_gt (ha : SE X E a ma) (hb : SE X E b mb) : ST X E (.Compare a [.Gt] [b] pos) (mCmpT opGt ma mb) := st_cmp (os_I0 fun _ _ => rfl) op_gt ha hb (nomark _)
theorem st_ge (ha : SE X E a ma) (hb : SE X E b mb) : ST X E (.Compare a [.GtE] [b] pos) (mCmpT opGe ma mb) := st_cmp (os_I0 fun _ _ => rfl) op_ge ha hb (nomark _)
theorem st_eq (hu : X.A.units + 64 < cLine) (ha : SE X E a ma) (hb : SE X E b mb) : ST X E (.Compare a [.Eq] [b] pos) (mCmpT opEq ma mb) := st_cmp os_eq (op_eqA hu) ha hb (nomark _)
theorem st_ne (hu : X.A.units + 64 < cLine) (ha : SE X E a ma) (hb : SE X E b mb) : ST X E (.Compare a [.NotEq] [b] pos) (mCmpT opNe ma mb) := st_cmp os_ne (op_neA hu) ha hb (nomark _)
theorem st_is (ha : SE X E a ma) (hb : SE X E b mb) : ST X E (.Compare a [.Is] [b] pos) (mCmpT (opIsN false) ma mb) := st_cmp os_isN op_isN ha hb (nomark _)
theorem st_isnot (ha : SE X E a ma) (hb : SE X E b mb) : ST X E (.Compare a [.IsNot] [b] pos) (mCmpT (opIsN true) ma mb) := st_cmp os_notN op_notN ha hb (nomark _)
/-! chains -/
def mChain (f f' : D → D → Sto → R D) (a b c : ME D) : ME D := fun env st => (a env st).bind fun x s1 => (b env s1).bind fun y s2 => (f x y s2).bind fun z s3 => match z with
  | .v (.bool true) => (c env s3).bind fun w s4 => f' y w s4
  | .v (.bool false) => .ok (.v (.bool false)) s3
  | _ => .bad
theorem t_chain {K : PySem.W.Frag} {r r' : R2} {f f' : D → D → Sto → R D} (hf : OpS K E r f) (hf' : OpS K E r' f') {σ : L2.St} {H : Hp} {Q : VK} (h : tOf K E (relD K) (mChain f f' ma mb mc) σ H Q) :
    tChain r r' (tOf K E (relD K) ma) (tOf K E (relD K) mb) (tOf K E (relD K) mc) σ H Q := by
  obtain ⟨g, env, st, re, rs, h⟩ := h
  refine ⟨g, env, st, re, rs, Post.bind h fun g1 H1 x s1 v t1 rs1 rx h1 => ?_⟩
  refine ⟨g1, env, s1, re.step t1, rs1, Post.bind h1 fun g2 H2 y s2 u t2 rs2 ry h2 => ?_⟩
  refine hf g2 H2 s2 x y v u _ rs2 (rx.step t2) ry (Post.bind h2 fun g3 H3 z s3 k t3 rs3 rz h3 => ?_)
  split at h3
  · obtain rfl := rep_bool rz
    refine ⟨true, rfl, ?_⟩
    rw [if_pos rfl]
    refine ⟨g3, env, s3, (re.step t1).step (t2.trans t3), rs3, Post.bind h3 fun g4 H4 w s4 k t4 rs4 rw' h4 => ?_⟩
    exact hf' g4 H4 s4 y w u k Q rs4 ((ry.step t3).step t4) rw' h4
  · obtain rfl := rep_bool rz
    refine ⟨false, rfl, ?_⟩
    rw [if_neg Bool.false_ne_true]
    exact Post.at rs3 rz h3
  · exact h3.elim
def mB (m : ME D) : ME Bool := fun env st => (m env st).bind fun d s1 => match d with
  | .v (.bool k) => .ok k s1
  | _ => .bad
theorem t_chainT {K : PySem.W.Frag} {r r' : R2} {f f' : D → D → Sto → R D} (hf : OpS K E r f) (hf' : OpS K E r' f') {σ : L2.St} {H : Hp} {Q : Bool → Hp → Prop} (h : tOf K E relB (mB (mChain f f' ma mb mc)) σ H Q) :
    tTest (tChain r r' (tOf K E (relD K) ma) (tOf K E (relD K) mb) (tOf K E (relD K) mc)) σ H Q := by
  obtain ⟨g, env, st, re, rs, h⟩ := h
  refine t_chain (K := K) hf hf' ⟨g, env, st, re, rs, Post.bind h fun g1 H1 x s1 v s rs1 rx h1 => ?_⟩
  split at h1
  · obtain rfl := rep_bool rx
    exact ⟨_, rfl, Post.atB rs1 h1⟩
  · exact h1.elim
theorem se_lele (ha : SE X E a ma) (hb : SE X E b mb) (hc : SE X E c mc) (hm : lastMarks [.LtE, .LtE] [b, c] = false := by with_unfolding_all rfl) : SE X E (.Compare a [.LtE, .LtE] [b, c] pos) (mChain opLe opLe ma mb mc) :=
  PE.mono (pe_chain op_le op_le ha hb hc hm) fun _ _ _ h => t_chain (os_I0 fun _ _ => rfl) (os_I0 fun _ _ => rfl) h
theorem st_lele (ha : SE X E a ma) (hb : SE X E b mb) (hc : SE X E c mc) (hm : lastMarks [.LtE, .LtE] [b, c] = false := by with_unfolding_all rfl) : ST X E (.Compare a [.LtE, .LtE] [b, c] pos) (mB (mChain opLe opLe ma mb mc)) :=
  PT.mono (pt_chain op_le op_le ha hb hc hm) fun _ _ _ h => t_chainT (os_I0 fun _ _ => rfl) (os_I0 fun _ _ => rfl) h
theorem se_lelt (ha : SE X E a ma) (hb : SE X E b mb) (hc : SE X E c mc) (hm : lastMarks [.LtE, .Lt] [b, c] = false := by with_unfolding_all rfl) : SE X E (.Compare a [.LtE, .Lt] [b, c] pos) (mChain opLe opLt ma mb mc) :=
  PE.mono (pe_chain op_le op_lt ha hb hc hm) fun _ _ _ h => t_chain (os_I0 fun _ _ => rfl) (os_I0 fun _ _ => rfl) h
theorem st_lelt (ha : SE X E a ma) (hb : SE X E b mb) (hc : SE X E c mc) (hm : lastMarks [.LtE, .Lt] [b, c] = false := by with_unfolding_all rfl) : ST X E (.Compare a [.LtE, .Lt] [b, c] pos) (mB (mChain opLe opLt ma mb mc)) :=
  PT.mono (pt_chain op_le op_lt ha hb hc hm) fun _ _ _ h => t_chainT (os_I0 fun _ _ => rfl) (os_I0 fun _ _ => rfl) h
theorem se_eqeq (hu : X.A.units + 64 < cLine) (ha : SE X E a ma) (hb : SE X E b mb) (hc : SE X E c mc) (hm : lastMarks [.Eq, .Eq] [b, c] = false := by with_unfolding_all rfl) : SE X E (.Compare a [.Eq, .Eq] [b, c] pos) (mChain opEq opEq ma mb mc) :=
  PE.mono (pe_chain (op_eqA hu) (op_eqA hu) ha hb hc hm) fun _ _ _ h => t_chain os_eq os_eq h
theorem st_eqeq (hu : X.A.units + 64 < cLine) (ha : SE X E a ma) (hb : SE X E b mb) (hc : SE X E c mc) (hm : lastMarks [.Eq, .Eq] [b, c] = false := by with_unfolding_all rfl) : ST X E (.Compare a [.Eq, .Eq] [b, c] pos) (mB (mChain opEq opEq ma mb mc)) :=
  PT.mono (pt_chain (op_eqA hu) (op_eqA hu) ha hb hc hm) fun _ _ _ h => t_chainT os_eq os_eq h
/-! ### and, or, not, if -/
def mAndT (a b : ME Bool) : ME Bool := fun env st => (a env st).bind fun k s1 => if k = true then b env s1 else .ok false s1
def mOrT (a b : ME Bool) : ME Bool := fun env st => (a env st).bind fun k s1 => if k = true then .ok true s1 else b env s1
def mNotT (a : ME Bool) : ME Bool := fun env st => (a env st).bind fun k s1 => .ok (!k) s1
def mAndV (a b : ME D) : ME D := fun env st => (a env st).bind fun d s1 => match truD s1 d with
  | some true => b env s1
  | some false => .ok d s1
  | none => .bad
def mOrV (a b : ME D) : ME D := fun env st => (a env st).bind fun d s1 => match truD s1 d with
  | some true => .ok d s1
  | some false => b env s1
  | none => .bad
def mNotV (a : ME D) : ME D := fun env st => (a env st).bind fun d s1 => match truD s1 d with
  | some k => .ok (.v (.bool (!k))) s1
  | none => .bad
def mIf {α : Type} (c : ME Bool) (a b : ME α) : ME α := fun env st => (c env st).bind fun k s1 => if k = true then a env s1 else b env s1
def SW (X : Cx) (E : XK) (e : Expr) (m : ME Bool) : Prop := PW X e (tOf X.K E relB m)
variable {na nb nc : ME Bool}
theorem SW.st (h : SW X E a na) : ST X E a na := L2.PW.pt h
theorem sw_and1 (ha : ST X E a na) : SW X E (.BoolOp .And [a] pos) na := pw_and1 ha
theorem sw_or1 (ha : ST X E a na) : SW X E (.BoolOp .Or [a] pos) na := pw_or1 ha
theorem sw_and (ha : ST X E a na) (hb : SW X E (.BoolOp .And (b :: rest) pos) nb) : SW X E (.BoolOp .And (a :: b :: rest) pos) (mAndT na nb) := by
  refine PW.mono (pw_and ha hb) fun σ H Q ⟨g, env, st, re, rs, h⟩ => ⟨g, env, st, re, rs, Post.bind h fun g1 H1 k s1 k' s rs1 rk h1 => ?_⟩
  cases rk
  cases k with
  | true => exact ⟨g1, env, s1, re.step s, rs1, h1⟩
  | false => exact Post.atB rs1 h1
theorem sw_or (ha : ST X E a na) (hb : SW X E (.BoolOp .Or (b :: rest) pos) nb) : SW X E (.BoolOp .Or (a :: b :: rest) pos) (mOrT na nb) := by
  refine PW.mono (pw_or ha hb) fun σ H Q ⟨g, env, st, re, rs, h⟩ => ⟨g, env, st, re, rs, Post.bind h fun g1 H1 k s1 k' s rs1 rk h1 => ?_⟩
  cases rk
  cases k with
  | true => exact Post.atB rs1 h1
  | false => exact ⟨g1, env, s1, re.step s, rs1, h1⟩
theorem st_not (ha : ST X E a na) : ST X E (.UnaryOp .Not a pos) (mNotT na) :=
  PT.mono (pt_not ha) fun σ H Q ⟨g, env, st, re, rs, h⟩ => ⟨g, env, st, re, rs, Post.bind h fun g1 H1 k s1 k' s rs1 rk h1 => by cases rk; exact Post.atB rs1 h1⟩
theorem se_one {op} (ha : SE X E a ma) : SE X E (.BoolOp op [a] pos) ma := pe_one ha
theorem se_and (ha : SE X E a ma) (hb : SE X E (.BoolOp .And (b :: rest) pos) mb) : SE X E (.BoolOp .And (a :: b :: rest) pos) (mAndV ma mb) := by
  refine PE.mono (pe_andT ha hb) fun σ H Q ⟨g, env, st, re, rs, h⟩ => ⟨g, env, st, re, rs, Post.bind h fun g1 H1 x s1 v s rs1 rx h1 => ?_⟩
  split at h1
  · rename_i e
    exact ⟨true, tru_of e rs1 rx, by rw [if_pos rfl]; exact ⟨g1, env, s1, re.step s, rs1, h1⟩⟩
  · rename_i e
    exact ⟨false, tru_of e rs1 rx, by rw [if_neg Bool.false_ne_true]; exact Post.at rs1 rx h1⟩
  · exact h1.elim
theorem se_or (ha : SE X E a ma) (hb : SE X E (.BoolOp .Or (b :: rest) pos) mb) : SE X E (.BoolOp .Or (a :: b :: rest) pos) (mOrV ma mb) := by
  refine PE.mono (pe_orT ha hb) fun σ H Q ⟨g, env, st, re, rs, h⟩ => ⟨g, env, st, re, rs, Post.bind h fun g1 H1 x s1 v s rs1 rx h1 => ?_⟩
  split at h1
  · rename_i e
    exact ⟨true, tru_of e rs1 rx, by rw [if_pos rfl]; exact Post.at rs1 rx h1⟩
  · rename_i e
    exact ⟨false, tru_of e rs1 rx, by rw [if_neg Bool.false_ne_true]; exact ⟨g1, env, s1, re.step s, rs1, h1⟩⟩
  · exact h1.elim
theorem se_not (ha : SE X E a ma) : SE X E (.UnaryOp .Not a pos) (mNotV ma) := by
  refine PE.mono (pe_notT ha) fun σ H Q ⟨g, env, st, re, rs, h⟩ => ⟨g, env, st, re, rs, Post.bind h fun g1 H1 x s1 v s rs1 rx h1 => ?_⟩
  split at h1
  · rename_i k e
    exact ⟨k, tru_of e rs1 rx, Post.at rs1 (rep_v.2.1 _) h1⟩
  · exact h1.elim
theorem se_if (hc : ST X E c nc) (ha : SE X E a ma) (hb : SE X E b mb) : SE X E (.IfExp c a b pos) (mIf nc ma mb) := by
  refine PE.mono (pe_ifExp hc ha hb) fun σ H Q ⟨g, env, st, re, rs, h⟩ => ⟨g, env, st, re, rs, Post.bind h fun g1 H1 k s1 k' s rs1 rk h1 => ?_⟩
  cases rk
  cases k with
  | true => exact ⟨g1, env, s1, re.step s, rs1, h1⟩
  | false => exact ⟨g1, env, s1, re.step s, rs1, h1⟩
/-! ### argument lists, displays -/
def mNil : ME (List D) := fun _ st => .ok [] st
def mCons (a : ME D) (r : ME (List D)) : ME (List D) := fun env st => (a env st).bind fun d s1 => (r env s1).bind fun ds s2 => .ok (d :: ds) s2
variable {es : List Expr} {e : Expr} {mas : ME (List D)}
theorem sa_nil : SA X E [] mNil := PA.mono pa_nil fun σ H Q ⟨g, env, st, re, rs, h⟩ => h g H [] (Step.refl g H) rs rfl
theorem sa_cons (ha : SE X E e ma) (hr : SA X E es mas) (hs : starEach (e :: es) X.env = (false, eval e X.env) :: starEach es X.env := by rfl) : SA X E (e :: es) (mCons ma mas) := by
  refine PA.mono (pa_cons ha hr hs) fun σ H Q ⟨g, env, st, re, rs, h⟩ => ⟨g, env, st, re, rs, Post.bind h fun g1 H1 x s1 v s rs1 rx h1 => ?_⟩
  refine ⟨g1, env, s1, re.step s, rs1, Post.bind h1 fun g2 H2 ds s2 vs s' rs2 rds h2 => ?_⟩
  exact h2 g2 H2 (v :: vs) (Step.refl g2 H2) rs2 ⟨v, vs, rfl, rx.step s', rds⟩
/-- all pure -/
def pureTs : List D → Option (List T)
  | [] => some []
  | .v t :: r => (pureTs r).map (t :: ·)
  | _ :: _ => none
theorem pure_rep {K : PySem.W.Frag} {g : G} {H : Hp} : ∀ {ds : List D} {ts : List T} {vs : List V}, pureTs ds = some ts → RepDs K g H ds vs → RepTs K g H ts vs
  | [], ts, vs, e, r => by cases e; exact r
  | .v t :: ds, ts, vs, e, ⟨v, w, e2, h1, h2⟩ => by
    unfold pureTs at e
    obtain ⟨r, e3, rfl⟩ := Option.map_eq_some_iff.mp e
    exact ⟨v, w, e2, h1, pure_rep e3 h2⟩
  | .ref _ :: _, _, _, e, _ => by cases e
  | .glo _ :: _, _, _, e, _ => by cases e
  | .ty _ :: _, _, _, e, _ => by cases e
  | .rol _ :: _, _, _, e, _ => by cases e
def mTup (m : ME (List D)) : ME D := fun env st => (m env st).bind fun ds s1 => match pureTs ds with
  | some ts => if ts.length ≤ sizeLine then .ok (.v (.tuple ts)) s1 else .bad
  | none => .bad
def mLst (m : ME (List D)) : ME D := fun env st => (m env st).bind fun ds s1 => match pureTs ds with
  | some ts => if ts.length ≤ sizeLine then .ok (.v (.list ts)) s1 else .bad
  | none => .bad
theorem se_tup {k} (h : SA X E es mas) : SE X E (.Tuple es k pos) (mTup mas) := by
  refine PE.mono (pe_tup h) fun σ H Q ⟨g, env, st, re, rs, h⟩ => ⟨g, env, st, re, rs, Post.bind h fun g1 H1 x s1 v s rs1 rx h1 => ?_⟩
  split at h1
  · rename_i ts e
    obtain ⟨hz, h1⟩ := if_bad h1
    have rt := pure_rep e rx
    have l := rt.length
    exact ⟨by omega, fun p hp => Post.newT rs1 hp rt h1⟩
  · exact h1.elim
theorem se_lst (h : SA X E es mas) : SE X E (.List es pos) (mLst mas) := by
  refine PE.mono (pe_lst h) fun σ H Q ⟨g, env, st, re, rs, h⟩ => ⟨g, env, st, re, rs, Post.bind h fun g1 H1 x s1 v s rs1 rx h1 => ?_⟩
  split at h1
  · rename_i ts e
    obtain ⟨hz, h1⟩ := if_bad h1
    have rt := pure_rep e rx
    have l := rt.length
    exact ⟨by omega, fun p hp => Post.newL rs1 hp rt h1⟩
  · exact h1.elim
/-- a list that will be changed -/
def alloc (ts : List T) (st : Sto) : R D := .ok (.ref st.length) (st ++ [.lst ts])
def mLstM (m : ME (List D)) : ME D := fun env st => (m env st).bind fun ds s1 => match pureTs ds with
  | some ts => if ts.length ≤ sizeLine then alloc ts s1 else .bad
  | none => .bad
theorem Post.newM {K : PySem.W.Frag} {g : G} {H : Hp} {st : Sto} {ts : List T} {Q : VK} {vs : List V} {p : Addr} (rs : RelS K g H st) (hp : H p = none) (r : RepTs K g H ts vs) (h : Post K E (relD K) g H Q (alloc ts st)) : Q (.ref p) (upd H p (.lst vs)) := by
  have sm : Same H (upd H p (.lst vs)) := Same.new hp
  have fr := rs.notin hp
  have s : Step g H ⟨g.ρ ++ [p], g.ex⟩ (upd H p (.lst vs)) := by
    have s0 := Step.same (g := g) sm
    exact ⟨⟨[p], rfl, fun q hq => by rw [List.mem_singleton] at hq; subst hq; exact hp⟩, ⟨[], rfl, by simp⟩, s0.keep, s0.tups, s0.frzs, s0.there⟩
  refine h ⟨g.ρ ++ [p], g.ex⟩ _ (.ref p) s ?_ ⟨p, ?_, rfl⟩
  · have rs' := rs.same sm
    refine ⟨by simp [rs.len], ?_, fun n a o h1 h2 => ?_, fun a ha => ⟨(rs'.exo a ha).1, ?_⟩⟩
    · rw [List.nodup_append]
      exact ⟨rs.nd, by simp, fun a ha b hb => by rw [List.mem_singleton] at hb; subst hb; rintro rfl; exact fr.1 ha⟩
    · have hl := rs.len
      by_cases hn : n < st.length
      · rw [List.getElem?_append_left (by omega)] at h1
        rw [List.getElem?_append_left hn] at h2
        have q := rs.obj n a o h1 h2
        cases o with
        | lst ts' =>
          obtain ⟨ws, h3, h4⟩ := q
          exact ⟨ws, sm _ _ h3, RepTs.step s _ _ h4⟩
        | dK kvs =>
          obtain ⟨ws, h3, h4, h5⟩ := q
          exact ⟨ws, sm _ _ h3, h4, RepTs.step s _ _ h5⟩
      · have e : n = st.length := by
          have := (List.getElem?_eq_some_iff.mp h2).1
          simp at this
          omega
        subst e
        rw [← rs.len, List.getElem?_append_right (Nat.le_refl _), Nat.sub_self] at h1
        rw [List.getElem?_append_right (Nat.le_refl _), Nat.sub_self] at h2
        cases h1; cases h2
        exact ⟨vs, upd_same, RepTs.step s _ _ r⟩
    · show a ∉ g.ρ ++ [p]
      intro hm
      rcases List.mem_append.mp hm with h' | h'
      · exact (rs.exo a ha).2 h'
      · rw [List.mem_singleton] at h'; subst h'; exact fr.2 ha
  · show (g.ρ ++ [p])[st.length]? = some p
    rw [← rs.len, List.getElem?_append_right (Nat.le_refl _), Nat.sub_self]; rfl
theorem se_lstM (h : SA X E es mas) : SE X E (.List es pos) (mLstM mas) := by
  refine PE.mono (pe_lst h) fun σ H Q ⟨g, env, st, re, rs, h⟩ => ⟨g, env, st, re, rs, Post.bind h fun g1 H1 x s1 v s rs1 rx h1 => ?_⟩
  split at h1
  · rename_i ts e
    obtain ⟨hz, h1⟩ := if_bad h1
    have rt := pure_rep e rx
    have l := rt.length
    exact ⟨by omega, fun p hp => Post.newM rs1 hp rt h1⟩
  · exact h1.elim
end
end PL

namespace PL
open PySem PySem.Spec L2
open PyProof.Rows hiding St
/-! ### calls of built-ins by values -/
def OpC (K : PySem.W.Frag) (E : XK) (r : List V → Hp → VK → Prop) (f : List D → Sto → R D) : Prop :=
  ∀ (g : G) (H : Hp) (st : Sto) (ds : List D) (vs : List V) (Q : VK), RelS K g H st → RepDs K g H ds vs → Post K E (relD K) g H Q (f ds st) → r vs H Q
def mCall (f : List D → Sto → R D) (as : ME (List D)) : ME D := fun env st => (as env st).bind fun ds s1 => f ds s1
section
variable {X : Cx} {E : XK} {x : Str} {p pos : Pos} {e : Expr} {es : List Expr} {mas : ME (List D)} {id T : String} {r : List V → Hp → VK → Prop} {f : List D → Sto → R D}
theorem t_call {K : PySem.W.Frag} (hf : OpC K E r f) {σ : L2.St} {H : Hp} {Q : VK} (h : tOf K E (relD K) (mCall f mas) σ H Q) : tCB r (tOf K E (fun g H ds vs => RepDs K g H ds vs) mas) σ H Q := by
  obtain ⟨g, env, st, re, rs, h⟩ := h
  exact ⟨g, env, st, re, rs, Post.bind h fun g1 H1 ds s1 vs s rs1 rd h1 => hf g1 H1 s1 ds vs Q rs1 rd h1⟩
theorem se_callB (hf : OpC X.K E r f) (hc : CallR X (.builtin id) r) (hm : X.mg x = none) (hv : bootBuiltins x = some (.builtin id)) (ha : SA X E (e :: es) mas) (hg : Gl X x := by rfl) (hn : x ≠ "__name__" := by decide) (hdb : (x == ("__debug__" : Str)) = false := by decide)
    (he : starEach (e :: es) X.env = (false, eval e X.env) :: starEach es X.env := by rfl) (hpl : (backTo pos (starEach es X.env)).any (·.1) = false := by rfl) : SE X E (.Call (.Name x p) (e :: es) [] pos) (mCall f mas) :=
  PE.mono (pe_callB hc hg hm hv ha hn hdb he hpl) fun _ _ _ h => t_call hf h
theorem se_callTy (hf : OpC X.K E r f) (hc : CallR X (.type T) r) (hm : X.mg x = none) (hv : bootBuiltins x = some (.type T)) (ha : SA X E (e :: es) mas) (hg : Gl X x := by rfl) (hn : x ≠ "__name__" := by decide) (hdb : (x == ("__debug__" : Str)) = false := by decide)
    (he : starEach (e :: es) X.env = (false, eval e X.env) :: starEach es X.env := by rfl) (hpl : (backTo pos (starEach es X.env)).any (·.1) = false := by rfl) : SE X E (.Call (.Name x p) (e :: es) [] pos) (mCall f mas) :=
  PE.mono (pe_callTy hc hg hm hv ha hn hdb he hpl) fun _ _ _ h => t_call hf h
end
section
variable {K : PySem.W.Frag} {E : XK} {g : G} {H : Hp}
theorem rep1 {d : D} {vs : List V} (h : RepDs K g H [d] vs) : ∃ v, vs = [v] ∧ RepD K g H d v := by
  obtain ⟨v, r, e, h1, h2⟩ := h
  cases h2
  exact ⟨v, e, h1⟩
theorem rep2 {d d' : D} {vs : List V} (h : RepDs K g H [d, d'] vs) : ∃ v v', vs = [v, v'] ∧ RepD K g H d v ∧ RepD K g H d' v' := by
  obtain ⟨v, r, e, h1, v', r', e', h1', h2⟩ := h
  cases h2
  subst e'
  exact ⟨v, v', e, h1, h1'⟩
/-! the functions -/
def fAbs : List D → Sto → R D
  | [.v (.int i)], st => .ok (.v (.int (if i < 0 then -i else i))) st
  | _, _ => .bad
theorem oc_abs : OpC K E (fun xs H Q => ∃ i, xs = [.int i] ∧ Q (.int (if i < 0 then -i else i)) H) fAbs := by
  intro g H st ds vs Q rs rd h
  unfold fAbs at h
  split at h
  · obtain ⟨v, rfl, r1⟩ := rep1 rd
    obtain rfl := rep_int r1
    exact ⟨_, rfl, Post.at rs (rep_v.2.2.1 _) h⟩
  · exact h.elim
def fMax2 : List D → Sto → R D
  | [.v (.int i), .v (.int j)], st => .ok (.v (.int (if j > i then j else i))) st
  | _, _ => .bad
theorem oc_max2 : OpC K E (fun xs H Q => ∃ i j, xs = [.int i, .int j] ∧ Q (.int (if j > i then j else i)) H) fMax2 := by
  intro g H st ds vs Q rs rd h
  unfold fMax2 at h
  split at h
  · obtain ⟨v, v', rfl, r1, r2⟩ := rep2 rd
    obtain rfl := rep_int r1
    obtain rfl := rep_int r2
    exact ⟨_, _, rfl, Post.at rs (rep_v.2.2.1 _) h⟩
  · exact h.elim
def fMin2 : List D → Sto → R D
  | [.v (.int i), .v (.int j)], st => .ok (.v (.int (if j < i then j else i))) st
  | _, _ => .bad
theorem oc_min2 : OpC K E (fun xs H Q => ∃ i j, xs = [.int i, .int j] ∧ Q (.int (if j < i then j else i)) H) fMin2 := by
  intro g H st ds vs Q rs rd h
  unfold fMin2 at h
  split at h
  · obtain ⟨v, v', rfl, r1, r2⟩ := rep2 rd
    obtain rfl := rep_int r1
    obtain rfl := rep_int r2
    exact ⟨_, _, rfl, Post.at rs (rep_v.2.2.1 _) h⟩
  · exact h.elim
/-- the items of a list or a tuple -/
def asSeq (st : Sto) : D → Option (List T)
  | .v (.tuple ts) => some ts
  | d => asL st d
theorem asSeq_ok {st : Sto} {d : D} {v : V} {ts : List T} (h : asSeq st d = some ts) (rs : RelS K g H st) (rd : RepD K g H d v) : ∃ a vs, v = .ref a ∧ (SqL K H a vs ∨ SqT K H a vs) ∧ RepTs K g H ts vs := by
  unfold asSeq at h
  split at h
  · cases h
    obtain ⟨a, vs, e, f, r⟩ := rep_tup rd
    exact ⟨a, vs, e, .inr f.sq, r⟩
  · obtain ⟨a, vs, e, f, r⟩ := asL_ok h rs rd
    exact ⟨a, vs, e, .inl f, r⟩
def fLen : List D → Sto → R D
  | [.v (.str x)], st => if x.length ≤ sizeLine then .ok (.v (.int x.length)) st else .bad
  | [d], st => match asSeq st d with
    | some ts => .ok (.v (.int ts.length)) st
    | none => .bad
  | _, _ => .bad
theorem oc_len : OpC K E (fun xs H Q => ∃ x n, xs = [x] ∧ LenV K x H n ∧ Q (.int n) H) fLen := by
  intro g H st ds vs Q rs rd h
  unfold fLen at h
  split at h
  · obtain ⟨hz, h⟩ := if_bad h
    obtain ⟨v, rfl, r1⟩ := rep1 rd
    obtain rfl := rep_str r1
    exact ⟨_, _, rfl, ⟨hz, rfl⟩, Post.at rs (rep_v.2.2.1 _) h⟩
  · split at h
    · rename_i ts e
      obtain ⟨v, rfl, r1⟩ := rep1 rd
      obtain ⟨a, vs, rfl, hq, r⟩ := asSeq_ok e rs r1
      have l := r.length
      refine ⟨_, ts.length, rfl, ?_, Post.at rs (rep_v.2.2.1 _) h⟩
      rcases hq with hq | hq
      · exact .inl ⟨vs, hq, l⟩
      · exact .inr ⟨vs, hq, l⟩
    · exact h.elim
  · exact h.elim
/-! isinstance -/
def tyT : T → String
  | .none => "NoneType"
  | .bool _ => "bool"
  | .int _ => "int"
  | .str _ => "str"
  | .list _ => "list"
  | .tuple _ => "tuple"
  | .dict _ => "dict"
def tyD (st : Sto) : D → Option String
  | .v t => some (tyT t)
  | .rol _ => some "list"
  | .ref n => match st[n]? with
    | some (.lst _) => some "list"
    | some (.dK _) => some "dict"
    | none => none
  | _ => none
def subTy (a n : String) : Bool := a == n || (a == "bool" && n == "int")
theorem kit_sub : ∀ a ∈ ["NoneType", "bool", "int", "str", "list", "tuple", "dict"], ∀ n ∈ ["bool", "int", "str", "list", "tuple", "dict"], kitB a n = some (subTy a n) := by decide +kernel
theorem tyT_mem (t : T) : tyT t ∈ ["NoneType", "bool", "int", "str", "list", "tuple", "dict"] := by cases t <;> simp [tyT]
theorem tyx_tup {a : Addr} {vs : List V} (h : TuL K H a vs) : TyX K H (.ref a) (.type "tuple") := by
  rcases h with h | ⟨o, h⟩ | h
  · exact .base (.tup h)
  · exact .fTuple h
  · rcases h (fun _ => none) with (h | ⟨_, h⟩) | ⟨o, its, n, hk, hc, _⟩
    · cases h
    · cases h
    · exact .kTuple hk hc
theorem tyx_rol {a : Addr} {vs : List V} (h : RoL K H a vs) : TyX K H (.ref a) (.type "list") := by
  rcases h with ⟨o, h⟩ | h
  · exact .base (.frz h)
  · rcases h (fun _ => none) with (h | ⟨_, h⟩) | ⟨o, its, n, hk, hc, _⟩
    · cases h
    · cases h
    · exact .kList hk hc
theorem tyx_of {st : Sto} {d : D} {v : V} {a : String} (e : tyD st d = some a) (rs : RelS K g H st) (rd : RepD K g H d v) : TyX K H v (.type a) ∧ a ∈ ["NoneType", "bool", "int", "str", "list", "tuple", "dict"] := by
  unfold tyD at e
  split at e
  · rename_i t
    cases e
    refine ⟨?_, tyT_mem t⟩
    cases t with
    | none => obtain rfl := rep_none rd; exact .base .non
    | bool b => obtain rfl := rep_bool rd; exact .base (.bl b)
    | int b => obtain rfl := rep_int rd; exact .base (.int b)
    | str b => obtain rfl := rep_str rd; exact .base (.str b)
    | list ts => simp only [RepD, RepT] at rd; obtain ⟨a, vs, rfl, f, _⟩ := rd; exact .base (.lst f.1)
    | tuple ts => obtain ⟨a, vs, rfl, f, _⟩ := rep_tup rd; exact tyx_tup f
    | dict kvs => simp only [RepD, RepT] at rd; obtain ⟨_, a, rfl, f, _⟩ := rd; exact .base (.dK f)
  · cases e
    obtain ⟨a, vs, rfl, f, _⟩ := rd
    exact ⟨tyx_rol f, by simp⟩
  · obtain ⟨b, e1, rfl⟩ := rd
    obtain ⟨o, e2, e3⟩ := rs.ref e1
    rw [e2] at e
    cases o with
    | lst _ => cases e; obtain ⟨vs, h, _⟩ := e3; exact ⟨.base (.lst h), by simp⟩
    | dK _ => cases e; obtain ⟨vs, h, _⟩ := e3; exact ⟨.base (.dK h), by simp⟩
  · cases e
def fIsi : List D → Sto → R D
  | [d, .ty n], st => match tyD st d with
    | some a => if n ∈ ["bool", "int", "str", "list", "tuple", "dict"] then .ok (.v (.bool (subTy a n))) st else .bad
    | none => .bad
  | _, _ => .bad
theorem oc_isi : OpC K E (rIsi K) fIsi := by
  intro g H st ds vs Q rs rd h
  unfold fIsi at h
  split at h
  · rename_i d n
    split at h
    · rename_i a e
      obtain ⟨hn, h⟩ := if_bad h
      obtain ⟨v, v', rfl, r1, r2⟩ := rep2 rd
      cases r2
      obtain ⟨ty, ha⟩ := tyx_of e rs r1
      exact ⟨v, .ty n, .type a, .type n, subTy a n, rfl, .ty n, ty, kit_ty (kit_sub a ha n hn), Post.at rs (rep_v.2.1 _) h⟩
    · exact h.elim
  · exact h.elim
/-! isinstance(x, (list, tuple)) -/
def fInt : List D → Sto → R D
  | [.v (.int i)], st => .ok (.v (.int i)) st
  | [.v (.bool b)], st => .ok (.v (.int (if b then 1 else 0))) st
  | _, _ => .bad
theorem oc_int : OpC K E (fun xs H Q => (∃ i, xs = [.int i] ∧ Q (.int i) H) ∨ ∃ k, xs = [.bl k] ∧ Q (.int (if k then 1 else 0)) H) fInt := by
  intro g H st ds vs Q rs rd h
  unfold fInt at h
  split at h
  · obtain ⟨v, rfl, r1⟩ := rep1 rd
    obtain rfl := rep_int r1
    exact .inl ⟨_, rfl, Post.at rs (rep_v.2.2.1 _) h⟩
  · obtain ⟨v, rfl, r1⟩ := rep1 rd
    obtain rfl := rep_bool r1
    exact .inr ⟨_, rfl, Post.at rs (rep_v.2.2.1 _) h⟩
  · exact h.elim
def fDivmod : List D → Sto → R D
  | [.v (.int i), .v (.int j)], st => if CDiv i j then .ok (.v (.tuple [.int (i / j), .int (i % j)])) st else .bad
  | _, _ => .bad
theorem oc_divmod : OpC K E (fun xs H Q => ∃ i j, xs = [.int i, .int j] ∧ CDiv i j ∧ ∀ p, H p = none → Q (.ref p) (upd H p (.tup [.int (i / j), .int (i % j)]))) fDivmod := by
  intro g H st ds vs Q rs rd h
  unfold fDivmod at h
  split at h
  · obtain ⟨hc, h⟩ := if_bad h
    obtain ⟨v, v', rfl, r1, r2⟩ := rep2 rd
    obtain rfl := rep_int r1
    obtain rfl := rep_int r2
    exact ⟨_, _, rfl, hc, fun p hp => Post.newT rs hp (by simp [RepTs, RepT]) h⟩
  · exact h.elim
/-! lists of ints, of bools -/
def intsT : List T → Option (List Int)
  | [] => some []
  | .int i :: r => (intsT r).map (i :: ·)
  | _ :: _ => none
def boolsT : List T → Option (List Bool)
  | [] => some []
  | .bool i :: r => (boolsT r).map (i :: ·)
  | _ :: _ => none
theorem ints_rep : ∀ {ts : List T} {ns : List Int} {vs : List V}, intsT ts = some ns → RepTs K g H ts vs → vs = ns.map V.int
  | [], _, _, e, r => by cases e; simpa [RepTs] using r
  | t :: ts, ns, vs, e, r => by
    simp only [RepTs] at r
    obtain ⟨v, w, rfl, h1, h2⟩ := r
    cases t <;> simp only [intsT] at e <;> try cases e
    obtain ⟨ms, e3, rfl⟩ := Option.map_eq_some_iff.mp e
    simp only [RepT] at h1
    rw [h1, ints_rep e3 h2]; rfl
theorem bools_rep : ∀ {ts : List T} {ns : List Bool} {vs : List V}, boolsT ts = some ns → RepTs K g H ts vs → vs = ns.map V.bl
  | [], _, _, e, r => by cases e; simpa [RepTs] using r
  | t :: ts, ns, vs, e, r => by
    simp only [RepTs] at r
    obtain ⟨v, w, rfl, h1, h2⟩ := r
    cases t <;> simp only [boolsT] at e <;> try cases e
    obtain ⟨ms, e3, rfl⟩ := Option.map_eq_some_iff.mp e
    simp only [RepT] at h1
    rw [h1, bools_rep e3 h2]; rfl
def onInts (k : List Int → Sto → R D) : List D → Sto → R D
  | [d], st => match asL st d with
    | some ts => match intsT ts with
      | some ns => k ns st
      | none => .bad
    | none => .bad
  | _, _ => .bad
def onBools (k : List Bool → Sto → R D) : List D → Sto → R D
  | [d], st => match asL st d with
    | some ts => match boolsT ts with
      | some ns => k ns st
      | none => .bad
    | none => .bad
  | _, _ => .bad
theorem on_ints {k : List Int → Sto → R D} {g : G} {H : Hp} {st : Sto} {ds : List D} {vs : List V} {Q : VK} (rs : RelS K g H st) (rd : RepDs K g H ds vs) (h : Post K E (relD K) g H Q (onInts k ds st)) :
    ∃ a ns, vs = [V.ref a] ∧ SqL K H a (ns.map V.int) ∧ Post K E (relD K) g H Q (k ns st) := by
  unfold onInts at h
  split at h
  · split at h
    · rename_i ts e
      split at h
      · rename_i ns e2
        obtain ⟨v, rfl, r1⟩ := rep1 rd
        obtain ⟨a, vs, rfl, hq, r⟩ := asL_ok e rs r1
        obtain rfl := ints_rep e2 r
        exact ⟨a, ns, rfl, hq, h⟩
      · exact h.elim
    · exact h.elim
  · exact h.elim
theorem on_bools {k : List Bool → Sto → R D} {g : G} {H : Hp} {st : Sto} {ds : List D} {vs : List V} {Q : VK} (rs : RelS K g H st) (rd : RepDs K g H ds vs) (h : Post K E (relD K) g H Q (onBools k ds st)) :
    ∃ a ns, vs = [V.ref a] ∧ SqL K H a (ns.map V.bl) ∧ Post K E (relD K) g H Q (k ns st) := by
  unfold onBools at h
  split at h
  · split at h
    · rename_i ts e
      split at h
      · rename_i ns e2
        obtain ⟨v, rfl, r1⟩ := rep1 rd
        obtain ⟨a, vs, rfl, hq, r⟩ := asL_ok e rs r1
        obtain rfl := bools_rep e2 r
        exact ⟨a, ns, rfl, hq, h⟩
      · exact h.elim
    · exact h.elim
  · exact h.elim
def fSum : List D → Sto → R D := onInts fun ns st => .ok (.v (.int ns.sum)) st
theorem oc_sum : OpC K E (rSum K) fSum := fun g H st ds vs Q rs rd h => by
  obtain ⟨a, ns, e, hq, h⟩ := on_ints rs rd h
  exact ⟨a, ns, e, hq, Post.at rs (rep_v.2.2.1 _) h⟩
def fAll : List D → Sto → R D := onBools fun bs st => .ok (.v (.bool (bs.all id))) st
def fAny : List D → Sto → R D := onBools fun bs st => .ok (.v (.bool (bs.any id))) st
theorem oc_all : OpC K E (rAll K) fAll := fun g H st ds vs Q rs rd h => by
  obtain ⟨a, ns, e, hq, h⟩ := on_bools rs rd h
  exact ⟨a, ns, e, hq, Post.at rs (rep_v.2.1 _) h⟩
theorem oc_any : OpC K E (rAny K) fAny := fun g H st ds vs Q rs rd h => by
  obtain ⟨a, ns, e, hq, h⟩ := on_bools rs rd h
  exact ⟨a, ns, e, hq, Post.at rs (rep_v.2.1 _) h⟩
def maxI : List Int → Int
  | [] => 0
  | [i] => i
  | i :: r => let m := maxI r; if m > i then m else i
def minI : List Int → Int
  | [] => 0
  | [i] => i
  | i :: r => let m := minI r; if m < i then m else i
theorem maxI_spec : ∀ ns : List Int, 0 < ns.length → maxI ns ∈ ns ∧ ∀ y ∈ ns, y ≤ maxI ns
  | [], h => by simp at h
  | [i], _ => by simp [maxI]
  | i :: j :: r, _ => by
    obtain ⟨h1, h2⟩ := maxI_spec (j :: r) (by simp)
    simp only [maxI]
    split
    · refine ⟨List.mem_cons_of_mem _ h1, fun y hy => ?_⟩
      rcases List.mem_cons.mp hy with rfl | hy
      · omega
      · exact h2 y hy
    · refine ⟨List.mem_cons_self, fun y hy => ?_⟩
      rcases List.mem_cons.mp hy with rfl | hy
      · omega
      · have := h2 y hy; omega
theorem minI_spec : ∀ ns : List Int, 0 < ns.length → minI ns ∈ ns ∧ ∀ y ∈ ns, minI ns ≤ y
  | [], h => by simp at h
  | [i], _ => by simp [minI]
  | i :: j :: r, _ => by
    obtain ⟨h1, h2⟩ := minI_spec (j :: r) (by simp)
    simp only [minI]
    split
    · refine ⟨List.mem_cons_of_mem _ h1, fun y hy => ?_⟩
      rcases List.mem_cons.mp hy with rfl | hy
      · omega
      · exact h2 y hy
    · refine ⟨List.mem_cons_self, fun y hy => ?_⟩
      rcases List.mem_cons.mp hy with rfl | hy
      · omega
      · have := h2 y hy; omega
def fMax1 : List D → Sto → R D := onInts fun ns st => if 0 < ns.length then .ok (.v (.int (maxI ns))) st else .bad
def fMin1 : List D → Sto → R D := onInts fun ns st => if 0 < ns.length then .ok (.v (.int (minI ns))) st else .bad
theorem oc_max1 : OpC K E (rMax K) fMax1 := fun g H st ds vs Q rs rd h => by
  obtain ⟨a, ns, e, hq, h⟩ := on_ints rs rd h
  obtain ⟨hn, h⟩ := if_bad h
  obtain ⟨h1, h2⟩ := maxI_spec ns hn
  refine ⟨a, ns, e, hq, hn, fun m hm hle => ?_⟩
  have : m = maxI ns := by have := hle _ h1; have := h2 m hm; omega
  rw [this]
  exact Post.at rs (rep_v.2.2.1 _) h
theorem oc_min1 : OpC K E (rMin K) fMin1 := fun g H st ds vs Q rs rd h => by
  obtain ⟨a, ns, e, hq, h⟩ := on_ints rs rd h
  obtain ⟨hn, h⟩ := if_bad h
  obtain ⟨h1, h2⟩ := minI_spec ns hn
  refine ⟨a, ns, e, hq, hn, fun m hm hle => ?_⟩
  have : m = minI ns := by have := hle _ h1; have := h2 m hm; omega
  rw [this]
  exact Post.at rs (rep_v.2.2.1 _) h
/-! tuple, list -/
def fTup : List D → Sto → R D
  | [.v (.tuple ts)], st => .ok (.v (.tuple ts)) st
  | [d], st => match asL st d with
    | some ts => .ok (.v (.tuple ts)) st
    | none => .bad
  | _, _ => .bad
theorem oc_tup : OpC K E (fun xs H Q => ∃ p ys, xs = [.ref p] ∧ ((SqL K H p ys ∧ ∀ l, H l = none → Q (.ref l) (upd H l (.tup ys))) ∨ (SqT K H p ys ∧ Q (.ref p) H))) fTup := by
  intro g H st ds vs Q rs rd h
  unfold fTup at h
  split at h
  · obtain ⟨v, rfl, r1⟩ := rep1 rd
    obtain ⟨a, vs, rfl, f, r⟩ := rep_tup r1
    exact ⟨a, vs, rfl, .inr ⟨f.sq, Post.at rs r1 h⟩⟩
  · split at h
    · rename_i ts e
      obtain ⟨v, rfl, r1⟩ := rep1 rd
      obtain ⟨a, vs, rfl, f, r⟩ := asL_ok e rs r1
      exact ⟨a, vs, rfl, .inl ⟨f, fun p hp => Post.newT rs hp r h⟩⟩
    · exact h.elim
  · exact h.elim
def fList : List D → Sto → R D
  | [d], st => match asSeq st d with
    | some ts => .ok (.v (.list ts)) st
    | none => .bad
  | _, _ => .bad
def fListM : List D → Sto → R D
  | [d], st => match asSeq st d with
    | some ts => alloc ts st
    | none => .bad
  | _, _ => .bad
theorem oc_list : OpC K E (fun xs H Q => ∃ p ys, xs = [.ref p] ∧ (SqL K H p ys ∨ SqT K H p ys) ∧ ∀ l, H l = none → Q (.ref l) (upd H l (.lst ys))) fList := by
  intro g H st ds vs Q rs rd h
  unfold fList at h
  split at h
  · split at h
    · rename_i ts e
      obtain ⟨v, rfl, r1⟩ := rep1 rd
      obtain ⟨a, vs, rfl, f, r⟩ := asSeq_ok e rs r1
      exact ⟨a, vs, rfl, f, fun p hp => Post.newL rs hp r h⟩
    · exact h.elim
  · exact h.elim
theorem oc_listM : OpC K E (fun xs H Q => ∃ p ys, xs = [.ref p] ∧ (SqL K H p ys ∨ SqT K H p ys) ∧ ∀ l, H l = none → Q (.ref l) (upd H l (.lst ys))) fListM := by
  intro g H st ds vs Q rs rd h
  unfold fListM at h
  split at h
  · split at h
    · rename_i ts e
      obtain ⟨v, rfl, r1⟩ := rep1 rd
      obtain ⟨a, vs, rfl, f, r⟩ := asSeq_ok e rs r1
      exact ⟨a, vs, rfl, f, fun p hp => Post.newM rs hp r h⟩
    · exact h.elim
  · exact h.elim
end
section
variable {X : Cx} {E : XK} {p pos : Pos} {e e2 : Expr} {mas : ME (List D)}
abbrev NoName (X : Cx) (x : Str) : Prop := X.mg x = none
theorem se_abs (hm : NoName X "abs") (ha : SA X E [e] mas) (hg : Gl X "abs" := by rfl) (he : starEach [e] X.env = (false, eval e X.env) :: starEach [] X.env := by rfl) (hpl : (backTo pos (starEach [] X.env)).any (·.1) = false := by rfl) :
    SE X E (.Call (.Name "abs" p) [e] [] pos) (mCall fAbs mas) := se_callB oc_abs call_abs hm (by decide +kernel) ha hg (he := he) (hpl := hpl)
end
end PL

namespace PL
open PySem PySem.Spec L2
open PyProof.Rows hiding St
/-! ### statements -/
inductive RS where
  | next (env : EnvD) (st : Sto) | brk (env : EnvD) (st : Sto) | cont (env : EnvD) (st : Sto)
  | ret (d : D) (st : Sto) | err (x : Exn) (st : Sto) | bad
abbrev MS := EnvD → Sto → RS
def R.toS {α : Type} : R α → (α → Sto → RS) → RS
  | .ok a st, k => k a st
  | .err x st, _ => .err x st
  | .bad, _ => .bad
@[simp] theorem R.toS_ok {α : Type} (a : α) (st : Sto) (k : α → Sto → RS) : (R.ok a st).toS k = k a st := rfl
@[simp] theorem R.toS_err {α : Type} (x : Exn) (st : Sto) (k : α → Sto → RS) : (R.err x st : R α).toS k = .err x st := rfl
@[simp] theorem R.toS_bad {α : Type} (k : α → Sto → RS) : (R.bad : R α).toS k = .bad := rfl
def PostS (K : PySem.W.Frag) (E : XK) (g : G) (H : Hp) (D : Ends) : RS → Prop
  | .next env st => ∀ g' σ' H', Step g H g' H' → RelE K g' H' σ' env → RelS K g' H' st → D.nx σ' H'
  | .brk env st => ∀ g' σ' H', Step g H g' H' → RelE K g' H' σ' env → RelS K g' H' st → D.bk σ' H'
  | .cont env st => ∀ g' σ' H', Step g H g' H' → RelE K g' H' σ' env → RelS K g' H' st → D.ct σ' H'
  | .ret d st => ∀ g' H' v, Step g H g' H' → RelS K g' H' st → RepD K g' H' d v → D.rt v H'
  | .err x st => ∀ g' H' cls od, Step g H g' H' → RelS K g' H' st → RepX K g' H' x cls od → E cls od H'
  | .bad => False
section
variable {K : PySem.W.Frag} {E : XK} {g g1 : G} {H H1 : Hp} {De De' : Ends}
theorem PostS.from {r : RS} (s : Step g H g1 H1) (h : PostS K E g H De r) : PostS K E g1 H1 De r := by
  cases r with
  | next env st => exact fun g' σ' H' s' a b => h g' σ' H' (s.trans s') a b
  | brk env st => exact fun g' σ' H' s' a b => h g' σ' H' (s.trans s') a b
  | cont env st => exact fun g' σ' H' s' a b => h g' σ' H' (s.trans s') a b
  | ret d st => exact fun g' H' v s' a b => h g' H' v (s.trans s') a b
  | err x st => exact fun g' H' c o s' a b => h g' H' c o (s.trans s') a b
  | bad => exact h
/-- an expression ahead of a statement's rest -/
theorem PostS.ofR {α β : Type} {rel : G → Hp → α → β → Prop} {Q : β → Hp → Prop} {m : R α} {k : α → Sto → RS} (h : PostS K E g H De (m.toS k))
    (f : ∀ g1 H1 a st b, Step g H g1 H1 → RelS K g1 H1 st → rel g1 H1 a b → PostS K E g1 H1 De (k a st) → Q b H1) : Post K E rel g H Q m := by
  cases m with
  | ok a st => exact fun g' H' b s hs hr => f g' H' a st b s hs hr (PostS.from s h)
  | err x st => exact h
  | bad => exact h
end
def tsOf (K : PySem.W.Frag) (E : XK) (m : MS) : TS := fun De σ H => ∃ g env st, RelE K g H σ env ∧ RelS K g H st ∧ PostS K E g H De (m env st)
def SS (X : Cx) (E : XK) (s : Stmt) (m : MS) : Prop := PS X s (tsOf X.K E m)
def SSs (X : Cx) (E : XK) (s : List Stmt) (m : MS) : Prop := PSs X s (tsOf X.K E m)
def mSkip : MS := fun env st => .next env st
def mSeq (a b : MS) : MS := fun env st => match a env st with
  | .next env' st' => b env' st'
  | r => r
def mDrop (m : ME D) : MS := fun env st => (m env st).toS fun _ s1 => .next env s1
def mRet (m : ME D) : MS := fun env st => (m env st).toS fun d s1 => .ret d s1
def mIfS (c : ME Bool) (a b : MS) : MS := fun env st => (c env st).toS fun k s1 => if k = true then a env s1 else b env s1
section
variable {X : Cx} {E : XK} {pos : Pos} {s : Stmt} {ss : List Stmt} {m m1 m2 : MS} {e : Expr} {me : ME D} {c : Expr} {mc : ME Bool}
theorem sss_nil : SSs X E [] mSkip := PSs.mono pss_nil fun De σ H ⟨g, env, st, re, rs, h⟩ => h g σ H (Step.refl g H) re rs
theorem sss_cons (h1 : SS X E s m1) (h2 : SSs X E ss m2) : SSs X E (s :: ss) (mSeq m1 m2) := by
  refine PSs.mono (pss_cons h1 h2) fun De σ H ⟨g, env, st, re, rs, h⟩ => ⟨g, env, st, re, rs, ?_⟩
  unfold mSeq at h
  cases q : m1 env st with
  | next env' st' => rw [q] at h; exact fun g' σ' H' s' a b => ⟨g', env', st', a, b, PostS.from s' h⟩
  | brk env' st' => rw [q] at h; exact h
  | cont env' st' => rw [q] at h; exact h
  | ret d st' => rw [q] at h; exact h
  | err x st' => rw [q] at h; exact h
  | bad => rw [q] at h; exact h
theorem sss_one (h1 : SS X E s m1) : SSs X E [s] m1 := pss_one h1
theorem ss_pass : SS X E (.Pass pos) mSkip := PS.mono ps_pass fun De σ H ⟨g, env, st, re, rs, h⟩ => h g σ H (Step.refl g H) re rs
theorem ss_break : SS X E (.Break pos) (fun env st => .brk env st) := PS.mono ps_break fun De σ H ⟨g, env, st, re, rs, h⟩ => h g σ H (Step.refl g H) re rs
theorem ss_continue : SS X E (.Continue pos) (fun env st => .cont env st) := PS.mono ps_continue fun De σ H ⟨g, env, st, re, rs, h⟩ => h g σ H (Step.refl g H) re rs
theorem ss_expr (he : SE X E e me) (hs : swapsWith e none pos.line X.env = pure false := by rfl) : SS X E (.Expr e pos) (mDrop me) :=
  PS.mono (ps_expr he hs) fun De σ H ⟨g, env, st, re, rs, h⟩ => ⟨g, env, st, re, rs, PostS.ofR h fun g1 H1 d s1 v s rs1 _ h1 => h1 g1 σ H1 (Step.refl g1 H1) (re.step s) rs1⟩
theorem ss_ret (he : SE X E e me) : SS X E (.Return (some e) pos) (mRet me) :=
  PS.mono (ps_ret he) fun De σ H ⟨g, env, st, re, rs, h⟩ => ⟨g, env, st, re, rs, PostS.ofR h fun g1 H1 d s1 v s rs1 rd h1 => h1 g1 H1 v (Step.refl g1 H1) rs1 rd⟩
theorem ss_retN : SS X E (.Return none pos) (fun _ st => .ret (.v .none) st) :=
  PS.mono ps_retN fun De σ H ⟨g, env, st, re, rs, h⟩ => h g H .non (Step.refl g H) rs rep_v.1
theorem ss_if {a b : List Stmt} (hc : ST X E c mc) (ha : SSs X E a m1) (hb : SSs X E b m2) : SS X E (.If c a b pos) (mIfS mc m1 m2) := by
  refine PS.mono (ps_if hc ha hb) fun De σ H ⟨g, env, st, re, rs, h⟩ => ⟨g, env, st, re, rs, PostS.ofR h fun g1 H1 k s1 k' s rs1 rk h1 => ?_⟩
  cases rk
  cases k with
  | true => exact ⟨g1, env, s1, re.step s, rs1, h1⟩
  | false => exact ⟨g1, env, s1, re.step s, rs1, h1⟩
end
/-! ### targets -/
abbrev MG := D → EnvD → Sto → R EnvD
def PostG (K : PySem.W.Frag) (g : G) (H : Hp) (ix : List Nat) (σ : L2.St) (Q : L2.St → Hp → Prop) : R EnvD → Prop
  | .ok env st => ∀ g' σ' H', Step g H g' H' → RelE K g' H' σ' env → RelS K g' H' st → (∀ i, i ∉ ix → σ'[i]? = σ[i]?) ∧ σ'.length = σ.length → Q σ' H'
  | _ => False
def tgOf (K : PySem.W.Frag) (ix : List Nat) (m : MG) : TG := fun v σ H Q => ∃ g env st d, RelE K g H σ env ∧ RelS K g H st ∧ RepD K g H d v ∧ PostG K g H ix σ Q (m d env st)
def SG (X : Cx) (e : Expr) (ix : List Nat) (m : MG) : Prop := PG X e (tgOf X.K ix m)
abbrev MGs := List T → EnvD → Sto → R EnvD
def tgsOf (K : PySem.W.Frag) (ix : List Nat) (m : MGs) : TGs := fun vs σ H Q => ∃ g env st ts, RelE K g H σ env ∧ RelS K g H st ∧ RepTs K g H ts vs ∧ PostG K g H ix σ Q (m ts env st)
def SGs (X : Cx) (es : List Expr) (ix : List Nat) (m : MGs) : Prop := PGs X es (tgsOf X.K ix m)
theorem PG.mono {X : Cx} {e : Expr} {t t' : TG} (h : PG X e t) (f : ∀ v σ H Q, t' v σ H Q → t v σ H Q) : PG X e t' :=
  ⟨fun pins s σ H v u Q I r hw => h.run pins s σ H v u Q I r (f v σ H Q hw)⟩
theorem PGs.mono {X : Cx} {e : List Expr} {t t' : TGs} (h : PGs X e t) (f : ∀ v σ H Q, t' v σ H Q → t v σ H Q) : PGs X e t' :=
  ⟨fun pins s σ H v u Q I r hw => h.run pins s σ H v u Q I r (f v σ H Q hw)⟩
theorem RelE.set {K : PySem.W.Frag} {g : G} {H : Hp} {σ : L2.St} {env : EnvD} (r : RelE K g H σ env) (i : Nat) {d : D} {v : V} (h : RepD K g H d v) : RelE K g H (σ.set i (some v)) (env.set i (some d)) := by
  refine ⟨by simp [r.len], fun j d' e => ?_⟩
  rw [List.getElem?_set] at e
  split at e
  · rename_i hij
    split at e
    · rename_i hl
      cases e
      subst hij
      exact ⟨v, by rw [List.getElem?_set, if_pos rfl, if_pos (by rw [r.len]; exact hl)], h⟩
    · cases e
  · rename_i hij
    obtain ⟨v', h1, h2⟩ := r.at_ j d' e
    exact ⟨v', by rw [List.getElem?_set, if_neg hij]; exact h1, h2⟩
def gNm (i : Nat) : MG := fun d env st => .ok (env.set i (some d)) st
def gNil : MGs := fun ts env st => match ts with
  | [] => .ok env st
  | _ => .bad
def gCons (a : MG) (b : MGs) : MGs := fun ts env st => match ts with
  | t :: r => (a (.v t) env st).bind fun env1 s1 => b r env1 s1
  | [] => .bad
def gTu (n : Nat) (a : MGs) : MG := fun d env st => match d with
  | .v (.tuple ts) => if ts.length = n then a ts env st else .bad
  | _ => .bad
section
variable {X : Cx} {E : XK} {pos : Pos} {e : Expr} {es : List Expr} {ix jx : List Nat} {ma : MG} {mb : MGs}
theorem sg_name (i : Nat) {x : Str} (hN : X.N.Nodup) (hi : X.N[i]? = some x := by rfl) (hx : Loc X.env.scope x := by first | exact .inl rfl | exact .inr rfl) (hf : X.fn x = true ∨ X.env.scope.names.lookup x = some .local := by first | exact .inl rfl | exact .inr rfl) :
    SG X (.Name x pos) [i] (gNm i) := by
  refine PG.mono (pg_name hN hi hx hf) fun v σ H Q ⟨g, env, st, d, re, rs, rd, h⟩ => ?_
  exact h g _ H (Step.refl g H) (re.set i rd) rs ⟨fun j hj => by rw [List.getElem?_set, if_neg (fun z => hj (by simp [z]))], by simp⟩
theorem sgs_nil : SGs X [] [] gNil := by
  refine PGs.mono pgs_nil fun vs σ H Q ⟨g, env, st, ts, re, rs, rt, h⟩ => ?_
  unfold gNil at h
  split at h
  · exact ⟨rt, h g σ H (Step.refl g H) re rs ⟨fun _ _ => rfl, rfl⟩⟩
  · exact h.elim
theorem sgs_cons (h1 : SG X e ix ma) (h2 : SGs X es jx mb) (hs : (assignEach (e :: es) X.env).map (·.2) = assign e X.env :: (assignEach es X.env).map (·.2) := by rfl) : SGs X (e :: es) (ix ++ jx) (gCons ma mb) := by
  refine PGs.mono (pgs_cons h1 h2 hs) fun vs σ H Q ⟨g, env, st, ts, re, rs, rt, h⟩ => ?_
  unfold gCons at h
  split at h
  · rename_i t r
    obtain ⟨v, w, rfl, r1, r2⟩ := rt
    refine ⟨v, w, rfl, g, env, st, .v t, re, rs, r1, ?_⟩
    cases q : ma (.v t) env st with
    | ok env1 s1 =>
      rw [q] at h
      intro g' σ' H' s re' rs' hk
      refine ⟨g', env1, s1, r, re', rs', RepTs.step s _ _ r2, ?_⟩
      revert h
      rw [R.bind_ok]
      cases q2 : mb r env1 s1 with
      | ok env2 s2 => exact fun h g'' σ'' H'' s2 re'' rs'' hk2 => h g'' σ'' H'' (s.trans s2) re'' rs'' ⟨fun i hi => (hk2.1 i fun z => hi (List.mem_append_right _ z)).trans (hk.1 i fun z => hi (List.mem_append_left _ z)), hk2.2.trans hk.2⟩
      | err _ _ => exact id
      | bad => exact id
    | err _ _ => rw [q] at h; exact h.elim
    | bad => rw [q] at h; exact h.elim
  · exact h.elim
theorem sg_tup {k n : Nat} (hc : X.calm = true) (h : SGs X es ix mb) (hn : (assignEach es X.env).length = n := by rfl) (hst : (assignEach es X.env).findIdx? (·.1) = none := by rfl) : SG X (.Tuple es k pos) ix (gTu n mb) := by
  refine PG.mono (pg_tup hc h hn hst) fun v σ H Q ⟨g, env, st, d, re, rs, rd, h⟩ => ?_
  unfold gTu at h
  split at h
  · rename_i ts
    by_cases hl : ts.length = n
    · rw [if_pos hl] at h
      obtain ⟨a, vs, rfl, ta, ra⟩ := rep_tup rd
      exact ⟨a, vs, rfl, ta.sq, by rw [← ra.length]; exact hl, g, env, st, ts, re, rs, ra, h⟩
    · rw [if_neg hl] at h; exact h.elim
  · exact h.elim
end
/-! ### stores into a list -/
theorem Step.write {K : PySem.W.Frag} {g : G} {H : Hp} {st : Sto} {n : Nat} {a : Addr} {o : HO} {u : HO} (rs : RelS K g H st) (ha : g.ρ[n]? = some a) (hu : H a = some u) (h1 : ∀ xs, u ≠ .tup xs) (h2 : ∀ ob w, u ≠ .frz ob w) : Step g H g (upd H a o) := by
  have ne : ∀ b w, H b = some w → w ≠ u → b ≠ a := fun b w hb hw z => by subst z; rw [hu] at hb; cases hb; exact hw rfl
  refine ⟨⟨[], by simp, by simp⟩, ⟨[], by simp, by simp⟩, fun b w hb hn => ?_, fun b xs hb => ?_, fun b ob w hb => ?_, fun b hb => ?_⟩
  · rw [upd_ne (fun z => hn (by rw [z]; exact List.mem_of_getElem? ha))]; exact hb
  · rw [upd_ne (ne b _ hb (h1 xs).symm)]; exact hb
  · rw [upd_ne (ne b _ hb (h2 ob w).symm)]; exact hb
  · unfold upd
    split
    · simp
    · exact hb
/-- the store's object n becomes o' -/
theorem RelS.write {K : PySem.W.Frag} {g : G} {H : Hp} {st : Sto} {n : Nat} {a : Addr} {o : MO} {u u' : HO} (rs : RelS K g H st) (ha : g.ρ[n]? = some a) (hu : H a = some u) (h1 : ∀ xs, u ≠ .tup xs) (h2 : ∀ ob w, u ≠ .frz ob w)
    (new : RepO K g (upd H a u') a o) : RelS K g (upd H a u') (st.set n o) := by
  have sp : Step g H g (upd H a u') := Step.write rs ha hu h1 h2
  refine ⟨by simp [rs.len], rs.nd, fun m b w hm hw => ?_, fun b hb => ⟨sp.there b (rs.exo b hb).1, (rs.exo b hb).2⟩⟩
  by_cases e : n = m
  · subst e
    rw [hm] at ha; cases ha
    rw [List.getElem?_set] at hw
    rw [if_pos rfl] at hw
    split at hw
    · cases hw; exact new
    · cases hw
  · rw [List.getElem?_set, if_neg e] at hw
    have hne : b ≠ a := fun z => by
      subst z
      have i1 := (List.getElem?_eq_some_iff.mp ha).1
      have i2 := (List.getElem?_eq_some_iff.mp hm).1
      have e1 := (List.getElem?_eq_some_iff.mp ha).2
      have e2 := (List.getElem?_eq_some_iff.mp hm).2
      exact e ((List.getElem_inj rs.nd).mp (e1.trans e2.symm))
    have q := rs.obj m b w hm hw
    cases w with
    | lst ts =>
      obtain ⟨vs, h3, h4⟩ := q
      exact ⟨vs, by rw [upd_ne hne]; exact h3, RepTs.step sp _ _ h4⟩
    | dK kvs =>
      obtain ⟨vs, h3, h4, h5⟩ := q
      exact ⟨vs, by rw [upd_ne hne]; exact h3, h4, RepTs.step sp _ _ h5⟩
/-- the list that n stands for -/
theorem RelS.lst {K : PySem.W.Frag} {g : G} {H : Hp} {st : Sto} {n : Nat} {ts : List T} (rs : RelS K g H st) {a : Addr} (ha : g.ρ[n]? = some a) (h : st[n]? = some (.lst ts)) : ∃ vs, H a = some (.lst vs) ∧ RepTs K g H ts vs := rs.obj n a _ ha h
theorem RelS.writeL {K : PySem.W.Frag} {g : G} {H : Hp} {st : Sto} {n : Nat} {ts' : List T} {vs vs' : List V} (rs : RelS K g H st) {a : Addr} (ha : g.ρ[n]? = some a) (hv : H a = some (.lst vs)) (r : RepTs K g H ts' vs') :
    Step g H g (upd H a (.lst vs')) ∧ RelS K g (upd H a (.lst vs')) (st.set n (.lst ts')) := by
  have sp : Step g H g (upd H a (.lst vs')) := Step.write rs ha hv (fun _ z => nomatch z) (fun _ _ z => nomatch z)
  exact ⟨sp, rs.write ha hv (fun _ z => nomatch z) (fun _ _ z => nomatch z) ⟨vs', upd_same, RepTs.step sp _ _ r⟩⟩
/-- o[i] = v -/
def gSb (mo mi : ME D) : MG := fun d env st => (mo env st).bind fun o s1 => (mi env s1).bind fun i s2 => match o, i, d with
  | .ref n, .v (.int k), .v t => match s2[n]? with
    | some (.lst ts) => match ixN ts.length k with
      | some j => .ok env (s2.set n (.lst (ts.set j t)))
      | none => .bad
    | _ => .bad
  | _, _, _ => .bad
/-- an expression within a target: nothing may be raised there -/
theorem PostG.ofR {K : PySem.W.Frag} {E : XK} {g : G} {H : Hp} {ix : List Nat} {σ : L2.St} {Qg : L2.St → Hp → Prop} {α β : Type} {rel : G → Hp → α → β → Prop} {Q : β → Hp → Prop} {m : R α} {k : α → Sto → R EnvD} (h : PostG K g H ix σ Qg (m.bind k))
    (f : ∀ g1 H1 a st b, Step g H g1 H1 → RelS K g1 H1 st → rel g1 H1 a b → PostG K g1 H1 ix σ Qg (k a st) → Q b H1) : Post K E rel g H Q m := by
  cases m with
  | ok a st =>
    refine fun g' H' b s hs hr => f g' H' a st b s hs hr ?_
    revert h
    rw [R.bind_ok]
    cases k a st with
    | ok env st => exact fun h g'' σ' H'' s' a b c => h g'' σ' H'' (s.trans s') a b c
    | err _ _ => exact id
    | bad => exact id
  | err x st => exact h.elim
  | bad => exact h.elim
theorem ixN_lt {n : Nat} {i : Int} {j : Nat} (h : ixN n i = some j) : j < n := (ixN_seq h).2.1
section
variable {X : Cx} {E : XK} {pos : Pos} {o i : Expr} {mo mi : ME D}
theorem sg_sub (ho : SE X E o mo) (hi : SE X E i mi) (ha : ∀ v, assign (.Subscript o i pos) X.env v = (do
      let ov ← holding [v] (eval o X.env)
      let iv ← holding [v, ov] (eval i X.env)
      standAt pos
      holding [v, ov, iv] (setItem ov iv v)
      release [v, ov, iv] []) := by intro _; rfl) : SG X (.Subscript o i pos) [] (gSb mo mi) := by
  refine PG.mono (pg_sub ho hi set_list ha) fun v σ H Q ⟨g, env, st, d, re, rs, rd, h⟩ => ⟨g, env, st, re, rs, PostG.ofR h fun g1 H1 x s1 xv t1 rs1 rx h1 => ?_⟩
  refine ⟨g1, env, s1, re.step t1, rs1, PostG.ofR h1 fun g2 H2 y s2 yv t2 rs2 ry h2 => ?_⟩
  split at h2
  · rename_i n k t
    split at h2
    · rename_i ts e
      split at h2
      · rename_i j ej
        obtain ⟨a, ea, rfl⟩ := rx.step t2
        obtain rfl := rep_int ry
        obtain ⟨vs, hv, rv⟩ := rs2.lst ea e
        have rt : RepT X.K g2 H2 t v := RepT.step (t1.trans t2) _ _ rd
        obtain ⟨w1, w2⟩ := rs2.writeL ea hv (rv.set j rt)
        exact ⟨a, vs, k, j, rfl, rfl, hv, by rw [← rv.length]; exact ej, h2 g2 σ _ w1 ((re.step t1).step (t2.trans w1)) w2 ⟨fun _ _ => rfl, rfl⟩⟩
      · exact h2.elim
    · exact h2.elim
  · exact h2.elim
end
/-! ### assignments -/
def mAsg (m : ME D) (gm : MG) : MS := fun env st => (m env st).toS fun d s1 => (gm d env s1).toS fun env' s2 => .next env' s2
theorem PostG.ofS {K : PySem.W.Frag} {E : XK} {g : G} {H : Hp} {ix : List Nat} {σ : L2.St} {De : Ends} {m : R EnvD} (ne : ∀ x s, m ≠ .err x s) (h : PostS K E g H De (m.toS fun env' s2 => .next env' s2)) : PostG K g H ix σ De.nx m := by
  cases m with
  | ok env st => exact fun g' σ' H' s a b _ => h g' σ' H' s a b
  | err x s => exact absurd rfl (ne x s)
  | bad => exact h
/-- a target that raises nothing -/
def MG.quiet (gm : MG) : Prop := ∀ d env st x s, gm d env st ≠ .err x s
def MGs.quiet (gm : MGs) : Prop := ∀ ts env st x s, gm ts env st ≠ .err x s
def ME.quiet {α : Type} (m : ME α) : Prop := ∀ env st x s, m env st ≠ .err x s
section
variable {X : Cx} {E : XK} {pos : Pos} {tg e : Expr} {me : ME D} {gm : MG} {ix : List Nat}
theorem ss_asg (he : SE X E e me) (hg : SG X tg ix gm) (q : MG.quiet gm) (hs : swapsWithSole [tg] e pos.line X.env = pure false := by rfl) (hw : swappedStores [tg] e X.env = pure none := by rfl)
    (h1 : (assignEach [tg] X.env).map (·.2) = [assign tg X.env] := by rfl) : SS X E (.Assign [tg] e pos) (mAsg me gm) :=
  PS.mono (ps_asg he hg hs hw h1) fun De σ H ⟨g, env, st, re, rs, h⟩ => ⟨g, env, st, re, rs, PostS.ofR h fun g1 H1 d s1 v s rs1 rd h2 =>
    ⟨g1, env, s1, d, re.step s, rs1, rd, PostG.ofS (fun x s => q _ _ _ _ _) h2⟩⟩
theorem q_name {i : Nat} : MG.quiet (gNm i) := fun _ _ _ _ _ h => by cases h
theorem q_nil : MGs.quiet gNil := fun ts env st x s h => by unfold gNil at h; split at h <;> cases h
theorem q_cons {a : MG} {b : MGs} (h1 : MG.quiet a) (h2 : MGs.quiet b) : MGs.quiet (gCons a b) := fun ts env st x s h => by
  unfold gCons at h
  split at h
  · rename_i t r
    cases q : a (.v t) env st with
    | ok e1 s1 => rw [q] at h; exact h2 _ _ _ _ _ h
    | err y s1 => exact h1 _ _ _ _ _ q
    | bad => rw [q] at h; cases h
  · cases h
theorem q_tu {n : Nat} {b : MGs} (h2 : MGs.quiet b) : MG.quiet (gTu n b) := fun d env st x s h => by
  unfold gTu at h
  split at h
  · split at h
    · exact h2 _ _ _ _ _ h
    · cases h
  · cases h
theorem q_var {i : Nat} : ME.quiet (mVar i) := fun env st x s h => by unfold mVar at h; split at h <;> cases h
theorem q_c {d : D} : ME.quiet (mC d) := fun env st x s h => by cases h
theorem q_sb {a b : ME D} (h1 : ME.quiet a) (h2 : ME.quiet b) : MG.quiet (gSb a b) := fun d env st x s h => by
  unfold gSb at h
  cases q : a env st with
  | ok o s1 =>
    rw [q, R.bind_ok] at h
    cases q2 : b env s1 with
    | ok i s2 =>
      rw [q2, R.bind_ok] at h
      split at h
      · split at h
        · split at h <;> cases h
        · cases h
      · cases h
    | err y s2 => exact h2 _ _ _ _ q2
    | bad => rw [q2] at h; cases h
  | err y s1 => exact h1 _ _ _ _ q
  | bad => rw [q] at h; cases h
theorem ss_set (i : Nat) {x : Str} {pos' : Pos} (he : SE X E e me) (hN : X.N.Nodup) (hi : X.N[i]? = some x := by rfl) (hx : Loc X.env.scope x := by first | exact .inl rfl | exact .inr rfl) (hs : swapsWith e (some (.Name x pos')) pos.line X.env = pure false := by rfl)
    (hf : X.fn x = true ∨ X.env.scope.names.lookup x = some .local := by first | exact .inl rfl | exact .inr rfl) : SS X E (.Assign [.Name x pos'] e pos) (mAsg me (gNm i)) :=
  PS.mono (ps_set hN hi hx he hs hf) fun De σ H ⟨g, env, st, re, rs, h⟩ => ⟨g, env, st, re, rs, PostS.ofR h fun g1 H1 d s1 v s rs1 rd h2 =>
    h2 g1 _ H1 (Step.refl g1 H1) ((re.step s).set i rd) rs1⟩
/-- a, b = x, y -/
def mPar2 (i j : Nat) (m : ME (List D)) : MS := fun env st => (m env st).toS fun ds s1 => match ds with
  | [a, b] => .next ((env.set i (some a)).set j (some b)) s1
  | _ => .bad
def mPar3 (i j k : Nat) (m : ME (List D)) : MS := fun env st => (m env st).toS fun ds s1 => match ds with
  | [a, b, c] => .next (((env.set i (some a)).set j (some b)).set k (some c)) s1
  | _ => .bad
theorem ss_par2 {i j : Nat} {x y : Str} {a b : Expr} {mas : ME (List D)} {px py pt : Pos} {kt k2 pt2} (ha : SA X E [a, b] mas) (hc : X.calm = true) (hN : X.N.Nodup) (hi : X.N[i]? = some x := by rfl) (hj : X.N[j]? = some y := by rfl) (hij : i ≠ j := by decide)
    (hx : X.env.scope.names.lookup x = some .local := by rfl) (hy : X.env.scope.names.lookup y = some .local := by rfl)
    (hw : swappedStores [.Tuple [.Name x px, .Name y py] kt pt] (.Tuple [a, b] k2 pt2) X.env = pure (some [x, y]) := by rfl)
    (hs : swapsWithSole [.Tuple [.Name x px, .Name y py] kt pt] (.Tuple [a, b] k2 pt2) pos.line X.env = pure false := by rfl) :
    SS X E (.Assign [.Tuple [.Name x px, .Name y py] kt pt] (.Tuple [a, b] k2 pt2) pos) (mPar2 i j mas) := by
  refine PS.mono (ps_par hc hN hi hj hij hx hy ha hw hs) fun De σ H ⟨g, env, st, re, rs, h⟩ => ⟨g, env, st, re, rs, PostS.ofR h fun g1 H1 ds s1 vs s rs1 rd h2 => ?_⟩
  split at h2
  · obtain ⟨v, v', rfl, r1, r2⟩ := rep2 rd
    exact ⟨v, v', rfl, h2 g1 _ H1 (Step.refl g1 H1) (((re.step s).set i r1).set j r2) rs1⟩
  · exact h2.elim
theorem ss_par3 {i j l : Nat} {x y z : Str} {a b c : Expr} {mas : ME (List D)} {px py pz pt : Pos} {kt k2 pt2} (ha : SA X E [a, b, c] mas) (hc : X.calm = true) (hN : X.N.Nodup) (hi : X.N[i]? = some x := by rfl) (hj : X.N[j]? = some y := by rfl) (hl : X.N[l]? = some z := by rfl)
    (hij : i ≠ j := by decide) (hil : i ≠ l := by decide) (hjl : j ≠ l := by decide)
    (hx : X.env.scope.names.lookup x = some .local := by rfl) (hy : X.env.scope.names.lookup y = some .local := by rfl) (hz : X.env.scope.names.lookup z = some .local := by rfl)
    (hw : swappedStores [.Tuple [.Name x px, .Name y py, .Name z pz] kt pt] (.Tuple [a, b, c] k2 pt2) X.env = pure (some [x, y, z]) := by rfl)
    (hs : swapsWithSole [.Tuple [.Name x px, .Name y py, .Name z pz] kt pt] (.Tuple [a, b, c] k2 pt2) pos.line X.env = pure false := by rfl) :
    SS X E (.Assign [.Tuple [.Name x px, .Name y py, .Name z pz] kt pt] (.Tuple [a, b, c] k2 pt2) pos) (mPar3 i j l mas) := by
  refine PS.mono (ps_par3 hc hN hi hj hl hij hil hjl hx hy hz ha hw hs) fun De σ H ⟨g, env, st, re, rs, h⟩ => ⟨g, env, st, re, rs, PostS.ofR h fun g1 H1 ds s1 vs s rs1 rd h2 => ?_⟩
  split at h2
  · obtain ⟨v, r, e1, r1, rd2⟩ := rd
    obtain ⟨v', v'', e2, r2, r3⟩ := rep2 rd2
    subst e1 e2
    exact ⟨v, v', v'', rfl, h2 g1 _ H1 (Step.refl g1 H1) ((((re.step s).set i r1).set j r2).set l r3) rs1⟩
  · exact h2.elim
end
end PL

namespace PL
open PySem PySem.Spec L2
open PyProof.Rows hiding St
/-! ### another ground -/
structure Gen (g : G) (H : Hp) (g' : G) (H' : Hp) : Prop where
  l : ∀ a vs, H a = some (.lst vs) → Fr g a → H' a = some (.lst vs) ∧ Fr g' a
  d : ∀ a, H a = some (.dK []) → Fr g a → H' a = some (.dK []) ∧ Fr g' a
  t : ∀ a xs, H a = some (.tup xs) → H' a = some (.tup xs)
  f : ∀ a o u, H a = some (.frz o u) → H' a = some (.frz o u)
section
variable {K : PySem.W.Frag} {g g' : G} {H H' : Hp}
mutual
theorem RepT.gen (s : Gen g H g' H') : ∀ (t : T) (v : V), RepT K g H t v → RepT K g' H' t v
  | .none, _, h => by simpa [RepT] using h
  | .bool _, _, h => by simpa [RepT] using h
  | .int _, _, h => by simpa [RepT] using h
  | .str _, _, h => by simpa [RepT] using h
  | .list ts, v, h => by
    simp only [RepT] at h ⊢
    obtain ⟨a, vs, e, f, r⟩ := h
    exact ⟨a, vs, e, s.l _ _ f.1 f.2, RepTs.gen s ts vs r⟩
  | .tuple ts, v, h => by
    simp only [RepT] at h ⊢
    obtain ⟨a, vs, e, f, r⟩ := h
    refine ⟨a, vs, e, ?_, RepTs.gen s ts vs r⟩
    rcases f with f | ⟨o, f⟩ | f
    · exact .inl (s.t _ _ f)
    · exact .inr (.inl ⟨o, s.f _ _ _ f⟩)
    · exact .inr (.inr f)
  | .dict kvs, v, h => by
    simp only [RepT] at h ⊢
    obtain ⟨e, a, ev, h1, f⟩ := h
    exact ⟨e, a, ev, s.d _ h1 f⟩
theorem RepTs.gen (s : Gen g H g' H') : ∀ (ts : List T) (vs : List V), RepTs K g H ts vs → RepTs K g' H' ts vs
  | [], _, h => by simpa [RepTs] using h
  | t :: ts, vs, h => by
    simp only [RepTs] at h ⊢
    obtain ⟨v, r, e, h1, h2⟩ := h
    exact ⟨v, r, e, RepT.gen s t v h1, RepTs.gen s ts r h2⟩
end
theorem RepD.gen (s : Gen g H g' H') (hp : ∀ (n : Nat) (a : Addr), g.ρ[n]? = some a → g'.ρ[n]? = some a) : ∀ {d : D} {v : V}, RepD K g H d v → RepD K g' H' d v
  | .v _, _, h => RepT.gen s _ _ h
  | .ref n, _, ⟨a, e, h⟩ => ⟨a, hp n a e, h⟩
  | .glo _, _, h => h
  | .ty _, _, h => h
  | .rol _, _, ⟨a, vs, e, h1, h2⟩ => by
    refine ⟨a, vs, e, ?_, RepTs.gen s _ _ h2⟩
    rcases h1 with ⟨o, h1⟩ | h1
    · exact .inl ⟨o, s.f _ _ _ h1⟩
    · exact .inr h1
theorem RelE.gen {σ : L2.St} {env : EnvD} (s : Gen g H g' H') (hp : ∀ (n : Nat) (a : Addr), g.ρ[n]? = some a → g'.ρ[n]? = some a) (r : RelE K g H σ env) : RelE K g' H' σ env :=
  ⟨r.len, fun i d h => let ⟨v, h1, h2⟩ := r.at_ i d h; ⟨v, h1, h2.gen s hp⟩⟩
theorem RelS.gen {st : Sto} (s : Gen g H g' H') (hp : g'.ρ = g.ρ) (hk : ∀ a o, H a = some o → a ∈ g.ρ → H' a = some o) (he : ∀ a ∈ g'.ex, H' a ≠ none ∧ a ∉ g'.ρ) (r : RelS K g H st) : RelS K g' H' st := by
  refine ⟨by rw [hp]; exact r.len, by rw [hp]; exact r.nd, fun n a o h1 h2 => ?_, he⟩
  rw [hp] at h1
  have q := r.obj n a o h1 h2
  have hm := List.mem_of_getElem? h1
  cases o with
  | lst ts =>
    obtain ⟨vs, h3, h4⟩ := q
    exact ⟨vs, hk _ _ h3 hm, RepTs.gen s _ _ h4⟩
  | dK kvs =>
    obtain ⟨vs, h3, h4, h5⟩ := q
    exact ⟨vs, hk _ _ h3 hm, h4, RepTs.gen s _ _ h5⟩
end
/-- an object apart (at D) is written -/
theorem Gen.apart {g : G} {H : Hp} {D : Addr} {vs : List V} {o : HO} (hD : D ∈ g.ex) (hv : H D = some (.lst vs)) : Gen g H g (upd H D o) where
  l := fun a ws h f => ⟨by rw [upd_ne (fun z => f.2 (by rw [z]; exact hD))]; exact h, f⟩
  d := fun a h f => ⟨by rw [upd_ne (fun z => f.2 (by rw [z]; exact hD))]; exact h, f⟩
  t := fun a xs h => by rw [upd_ne (fun z => by subst z; rw [hv] at h; cases h)]; exact h
  f := fun a ob u h => by rw [upd_ne (fun z => by subst z; rw [hv] at h; cases h)]; exact h
/-- a fresh object is put apart -/
theorem Gen.put {g : G} {H : Hp} {D : Addr} {o : HO} (hn : H D = none) : Gen g H ⟨g.ρ, D :: g.ex⟩ (upd H D o) where
  l := fun a ws h f => ⟨by rw [upd_ne (ne_of_none h hn)]; exact h, f.1, fun z => (List.mem_cons.mp z).elim (ne_of_none h hn) f.2⟩
  d := fun a h f => ⟨by rw [upd_ne (ne_of_none h hn)]; exact h, f.1, fun z => (List.mem_cons.mp z).elim (ne_of_none h hn) f.2⟩
  t := fun a xs h => by rw [upd_ne (ne_of_none h hn)]; exact h
  f := fun a ob u h => by rw [upd_ne (ne_of_none h hn)]; exact h
/-- fewer objects are mutable -/
theorem Gen.less {g g' : G} {H : Hp} (h1 : ∀ a ∈ g'.ρ, a ∈ g.ρ) (h2 : ∀ a ∈ g'.ex, a ∈ g.ex) : Gen g H g' H :=
  ⟨fun a _ h f => ⟨h, fun z => f.1 (h1 a z), fun z => f.2 (h2 a z)⟩, fun a h f => ⟨h, fun z => f.1 (h1 a z), fun z => f.2 (h2 a z)⟩, fun _ _ h => h, fun _ _ _ h => h⟩
/-! ### what is walked -/
abbrev Chk := Option (Nat × List T)
def Chk.ok : Chk → Sto → Prop
  | none, _ => True
  | some (n, ts), st => st[n]? = some (.lst ts)
structure Walks (K : PySem.W.Frag) (g : G) (H : Hp) (J : It) (ts : List T) (c : Chk) : Prop where
  at_ : ∀ (g2 : G) (H2 : Hp) (st2 : Sto), Step g H g2 H2 → RelS K g2 H2 st2 → c.ok st2 → J.stop ts.length H2 ∧
    ∀ (i : Nat) (t : T), ts[i]? = some t → J.go i H2 ∧ ∀ x H3, J.yld i H2 x H3 → Same H2 H3 ∧ RepT K g2 H3 t x
abbrev relI (K : PySem.W.Frag) : G → Hp → (List T × Chk) → It → Prop := fun g H p J => Walks K g H J p.1 p.2
def SI (X : Cx) (E : XK) (tg e : Expr) (m : ME (List T × Chk)) : Prop := PI X tg e (tOf X.K E (relI X.K) m)
theorem PI.mono {X : Cx} {tg e : Expr} {t t' : TI} (h : PI X tg e t) (f : ∀ σ H Q, t' σ H Q → t σ H Q) : PI X tg e t' :=
  ⟨fun pins s σ H R I hw => h.run pins s σ H R I (f σ H R hw)⟩
open Classical in
noncomputable def guardS (c : Chk) (st : Sto) (r : RS) : RS := match c with
  | none => r
  | some (n, ts) => if st[n]? = some (.lst ts) then r else .bad
open Classical in
noncomputable def guardR {α : Type} (c : Chk) (st : Sto) (r : R α) : R α := match c with
  | none => r
  | some (n, ts) => if st[n]? = some (.lst ts) then r else .bad
@[simp] theorem guardS_none (st : Sto) (r : RS) : guardS none st r = r := rfl
@[simp] theorem guardR_none {α : Type} (st : Sto) (r : R α) : guardR none st r = r := rfl
theorem guardS_some {n : Nat} {ts : List T} {st : Sto} {r : RS} (h : st[n]? = some (.lst ts)) : guardS (some (n, ts)) st r = r := by
  unfold guardS; simp [h]
theorem guardR_some {α : Type} {n : Nat} {ts : List T} {st : Sto} {r : R α} (h : st[n]? = some (.lst ts)) : guardR (some (n, ts)) st r = r := by
  unfold guardR; simp [h]
theorem guardS_of {K : PySem.W.Frag} {E : XK} {g : G} {H : Hp} {De : Ends} {c : Chk} {st : Sto} {r : RS} (h : PostS K E g H De (guardS c st r)) : c.ok st ∧ PostS K E g H De r := by
  cases c with
  | none => exact ⟨trivial, h⟩
  | some p =>
    obtain ⟨n, ts⟩ := p
    unfold guardS at h
    simp only at h
    split at h
    · exact ⟨by assumption, h⟩
    · exact h.elim
theorem guardR_of {K : PySem.W.Frag} {E : XK} {α β : Type} {rel : G → Hp → α → β → Prop} {g : G} {H : Hp} {Q : β → Hp → Prop} {c : Chk} {st : Sto} {r : R α} (h : Post K E rel g H Q (guardR c st r)) : c.ok st ∧ Post K E rel g H Q r := by
  cases c with
  | none => exact ⟨trivial, h⟩
  | some p =>
    obtain ⟨n, ts⟩ := p
    unfold guardR at h
    simp only at h
    split at h
    · exact ⟨by assumption, h⟩
    · exact h.elim
/-! ### for -/
noncomputable def forGo (c : Chk) (gm : MG) (b : MS) : List T → EnvD → Sto → RS
  | [], env, st => guardS c st (.next env st)
  | t :: ts, env, st => guardS c st ((gm (.v t) env st).toS fun env1 s1 => match b env1 s1 with
    | .next e s => forGo c gm b ts e s
    | .cont e s => forGo c gm b ts e s
    | .brk e s => .next e s
    | r => r)
noncomputable def mFor (mi : ME (List T × Chk)) (gm : MG) (b : MS) : MS := fun env st => (mi env st).toS fun p s1 => forGo p.2 gm b p.1 env s1
theorem ss_for {X : Cx} {E : XK} {tg iter : Expr} {body : List Stmt} {mi : ME (List T × Chk)} {gm : MG} {ix : List Nat} {b : MS} {pos : Pos} (hp : PassesOwn (model X.prog X.w) X.A X.env X.xe) (hc : X.calm = true) (hi : SI X E tg iter mi) (hg : SG X tg ix gm) (q : MG.quiet gm) (hb : SSs X E body b)
    (hs : ∀ x, foldedSetIterable iter X.env x = pure x := by intro _; rfl) : SS X E (.For tg iter body [] pos) (mFor mi gm b) := by
  refine PS.mono (ps_for hp hc hi hg hb hs) fun De σ H ⟨g, env, st, re, rs, h⟩ => ⟨g, env, st, re, rs, PostS.ofR h fun g1 H1 p s1 J s0 rs1 wk h1 => ?_⟩
  obtain ⟨ts, c⟩ := p
  have h1 : PostS X.K E g1 H1 De (forGo c gm b ts env s1) := h1
  refine ⟨fun i m σ H => m = ts.length - i ∧ i ≤ ts.length ∧ ∃ g2 env2 st2, Step g1 H1 g2 H ∧ RelE X.K g2 H σ env2 ∧ RelS X.K g2 H st2 ∧ PostS X.K E g2 H De (forGo c gm b (ts.drop i) env2 st2),
    ⟨ts.length, rfl, Nat.zero_le _, g1, env, s1, Step.refl g1 H1, re.step s0, rs1, h1⟩, ?_⟩
  rintro i m σ H ⟨rfl, hi, g2, env2, st2, s2, re2, rs2, h2⟩
  by_cases hlt : i < ts.length
  · rw [List.drop_eq_getElem_cons hlt] at h2
    unfold forGo at h2
    obtain ⟨ck, h3⟩ := guardS_of h2
    obtain ⟨go, yl⟩ := (wk.at_ g2 H st2 s2 rs2 ck).2 i _ (List.getElem?_eq_getElem hlt)
    refine .inr ⟨go, fun σ' H' => ∃ g3 env3 st3, Step g1 H1 g3 H' ∧ RelE X.K g3 H' σ' env3 ∧ RelS X.K g3 H' st3 ∧ PostS X.K E g3 H' De (forGo c gm b (ts.drop (i + 1)) env3 st3), fun σ' H' ⟨g3, e3, t3, a1, a2, a3, a4⟩ => ⟨ts.length - (i + 1), by omega, rfl, hlt, g3, e3, t3, a1, a2, a3, a4⟩, fun x H' hy => ?_⟩
    obtain ⟨sm, rt⟩ := yl x H' hy
    have sm' : Step g2 H g2 H' := Step.same sm
    refine ⟨g2, env2, st2, .v ts[i], re2.step sm', rs2.same sm, rt, ?_⟩
    cases qg : gm (.v ts[i]) env2 st2 with
    | err y s => exact absurd qg (q _ _ _ _ _)
    | bad => rw [qg] at h3; exact h3
    | ok env3 st3 =>
      rw [qg, R.toS_ok] at h3
      intro g' σ' H'' s3 re3 rs3 _
      refine ⟨g', env3, st3, re3, rs3, ?_⟩
      have s4 := sm'.trans s3
      cases qb : b env3 st3 with
      | next e s =>
        rw [qb] at h3
        exact fun g4 σ4 H4 s5 re4 rs4 => ⟨g4, e, s, (s2.trans s4).trans s5, re4, rs4, PostS.from (s4.trans s5) h3⟩
      | cont e s =>
        rw [qb] at h3
        exact fun g4 σ4 H4 s5 re4 rs4 => ⟨g4, e, s, (s2.trans s4).trans s5, re4, rs4, PostS.from (s4.trans s5) h3⟩
      | brk e s =>
        rw [qb] at h3
        exact fun g4 σ4 H4 s5 re4 rs4 => h3 g4 σ4 H4 (s4.trans s5) re4 rs4
      | ret d s =>
        rw [qb] at h3
        exact fun g4 H4 v s5 rs4 rd => h3 g4 H4 v (s4.trans s5) rs4 rd
      | err y s =>
        rw [qb] at h3
        exact fun g4 H4 cl od s5 rs4 rd => h3 g4 H4 cl od (s4.trans s5) rs4 rd
      | bad => rw [qb] at h3; exact h3
  · have e : i = ts.length := by omega
    subst e
    rw [List.drop_length] at h2
    unfold forGo at h2
    obtain ⟨ck, h3⟩ := guardS_of h2
    exact .inl ⟨(wk.at_ g2 H st2 s2 rs2 ck).1, h3 g2 σ H (Step.refl g2 H) re2 rs2⟩
/-! ### list comprehensions -/
def R.bindN {α β : Type} : R α → (α → Sto → R β) → R β
  | .ok a st, k => k a st
  | _, _ => .bad
@[simp] theorem R.bindN_ok {α β : Type} (a : α) (st : Sto) (k : α → Sto → R β) : (R.ok a st).bindN k = k a st := rfl
@[simp] theorem R.bindN_bad {α β : Type} (k : α → Sto → R β) : (R.bad : R α).bindN k = .bad := rfl
def wipeD (env : EnvD) : List Nat → EnvD
  | [] => env
  | v :: vs => (wipeD env vs).set v none
noncomputable def lcGo (c : Chk) (gm : MG) (cond : ME Bool) (elt : ME D) (env : EnvD) : List T → Sto → R (List T)
  | [], st => guardR c st (.ok [] st)
  | t :: ts, st => guardR c st ((gm (.v t) env st).bindN fun env1 s1 => (cond env1 s1).bindN fun k s2 =>
    if k = true then (elt env1 s2).bindN fun d s3 => match d with
      | .v y => (lcGo c gm cond elt env ts s3).bindN fun ys s4 => .ok (y :: ys) s4
      | _ => .bad
    else lcGo c gm cond elt env ts s2)
noncomputable def mLc (mi : ME (List T × Chk)) (gm : MG) (cond : ME Bool) (elt : ME D) (vs : List Nat) : ME (List T) := fun env st => (mi env st).bind fun p s1 =>
  if p.1.length ≤ sizeLine then lcGo p.2 gm cond elt (wipeD env vs) p.1 s1 else .bad
def frzL (m : ME (List T)) : ME D := fun env st => (m env st).bind fun ts s1 => .ok (.v (.list ts)) s1
def ownL (m : ME (List T)) : ME D := fun env st => (m env st).bind fun ts s1 => alloc ts s1
theorem Post.bindN {K : PySem.W.Frag} {E : XK} {α β α' β' : Type} {rel : G → Hp → α → β → Prop} {rel' : G → Hp → α' → β' → Prop} {g gA : G} {H HA : Hp} {Q : β → Hp → Prop} {Q' : β' → Hp → Prop} {m : R α} {k : α → Sto → R α'}
    (h : Post K E rel' gA HA Q' (m.bindN k)) (f : ∀ g1 H1 a st b, Step g H g1 H1 → RelS K g1 H1 st → rel g1 H1 a b → Post K E rel' gA HA Q' (k a st) → Q b H1) : Post K E0 rel g H Q m := by
  cases m with
  | ok a st => exact fun g' H' b s hs hr => f g' H' a st b s hs hr h
  | err x st => exact h.elim
  | bad => exact h
theorem RelE.wipe {K : PySem.W.Frag} {g : G} {H : Hp} {σ : L2.St} {env : EnvD} (r : RelE K g H σ env) : ∀ vs : List Nat, RelE K g H (wipe σ vs) (wipeD env vs)
  | [] => r
  | v :: vs => by
    have ih := r.wipe vs
    refine ⟨by simp [L2.wipe, wipeD, ih.len], fun j d e => ?_⟩
    simp only [wipeD, List.getElem?_set] at e
    split at e
    · split at e <;> cases e
    · rename_i hne
      obtain ⟨w, h1, h2⟩ := ih.at_ j d e
      exact ⟨w, by simp only [L2.wipe, List.getElem?_set]; rw [if_neg hne]; exact h1, h2⟩
theorem wipe_eq {σ σ' : L2.St} (hl : σ'.length = σ.length) : ∀ {vs : List Nat}, (∀ i, i ∉ vs → σ'[i]? = (wipe σ vs)[i]?) → wipe σ' vs = wipe σ vs := by
  intro vs h
  have key : ∀ (vs : List Nat) (τ : L2.St) (i : Nat), (L2.wipe τ vs)[i]? = if i ∈ vs then (if i < τ.length then some none else none) else τ[i]? := by
    intro vs
    induction vs with
    | nil => intro τ i; simp [L2.wipe]
    | cons v vs ih =>
      intro τ i
      simp only [L2.wipe, List.getElem?_set, L2.wipe_length]
      by_cases e : v = i
      · subst e; simp
      · rw [if_neg e, ih τ i]
        have : i ≠ v := fun z => e z.symm
        simp [this]
  apply List.ext_getElem?
  intro i
  rw [key, key, hl]
  by_cases hi : i ∈ vs
  · simp [hi]
  · have := h i hi
    rw [key] at this
    simp [hi] at this ⊢
    exact this
abbrev finF : List T → Sto → R D := fun ts s => .ok (.v (.list ts)) s
/-- how a comprehension's list is handed on -/
structure Fin (fin : List T → Sto → R D) : Prop where
  go : ∀ {K : PySem.W.Frag} {E : XK} {g1 g2 : G} {H1 H : Hp} {st : Sto} {ts : List T} {vs : List V} {D : Addr} {Q : VK}, Post K E (relD K) g1 H1 Q (fin ts st) → Step g1 H1 g2 H → RelS K g2 H st → (∀ a ∈ g1.ex, H1 a ≠ none) → H1 D = none → D ∈ g2.ex → H D = some (.lst vs) → RepTs K g2 H ts vs → Q (.ref D) H
theorem Step.less {g g' : G} {H H' : Hp} (s : Step g H g' H') : Step g H ⟨g'.ρ, g.ex⟩ H' := ⟨s.pre, ⟨[], rfl, by simp⟩, s.keep, s.tups, s.frzs, s.there⟩
theorem fin_frz : Fin finF where
  go := by
    intro K E g1 g2 H1 H st ts vs D Q h s rs hx hn hD hv r
    obtain ⟨u, e, _⟩ := s.ex
    have sub : ∀ a ∈ g1.ex, a ∈ g2.ex := fun a ha => by rw [e]; exact List.mem_append_right _ ha
    have ge : Gen g2 H ⟨g2.ρ, g1.ex⟩ H := Gen.less (fun _ z => z) sub
    refine h ⟨g2.ρ, g1.ex⟩ H (.ref D) s.less (rs.gen ge rfl (fun _ _ z _ => z) fun a ha => rs.exo a (sub a ha)) ?_
    show RepT _ _ _ _ _
    simp only [RepT]
    exact ⟨D, vs, rfl, ⟨hv, (rs.exo D hD).2, fun z => hx D z hn⟩, RepTs.gen ge _ _ r⟩
theorem fin_own : Fin alloc where
  go := by
    intro K E g1 g2 H1 H st ts vs D Q h s rs hx hn hD hv r
    obtain ⟨u, e, _⟩ := s.ex
    have sub : ∀ a ∈ g1.ex, a ∈ g2.ex := fun a ha => by rw [e]; exact List.mem_append_right _ ha
    have nD : D ∉ g2.ρ := (rs.exo D hD).2
    have nx : D ∉ g1.ex := fun z => hx D z hn
    have ge : Gen g2 H ⟨g2.ρ ++ [D], g1.ex⟩ H := by
      have ne : ∀ a, Fr g2 a → Fr ⟨g2.ρ ++ [D], g1.ex⟩ a := fun a f => ⟨fun z => (List.mem_append.mp z).elim f.1 fun z => f.2 (by rw [List.mem_singleton] at z; rw [z]; exact hD), fun z => f.2 (sub a z)⟩
      exact ⟨fun a _ h f => ⟨h, ne a f⟩, fun a h f => ⟨h, ne a f⟩, fun _ _ h => h, fun _ _ _ h => h⟩
    obtain ⟨t, e1, f1⟩ := s.pre
    refine h ⟨g2.ρ ++ [D], g1.ex⟩ H (.ref D) ⟨⟨t ++ [D], by rw [e1, List.append_assoc], fun p hp => (List.mem_append.mp hp).elim (f1 p) fun z => by rw [List.mem_singleton] at z; rw [z]; exact hn⟩, ⟨[], rfl, by simp⟩, s.keep, s.tups, s.frzs, s.there⟩ ?_ ?_
    · refine ⟨by simp [rs.len], ?_, fun n a o h1 h2 => ?_, fun a ha => ⟨(rs.exo a (sub a ha)).1, fun z => ?_⟩⟩
      · rw [List.nodup_append]
        exact ⟨rs.nd, by simp, fun a ha b hb => by rw [List.mem_singleton] at hb; subst hb; rintro rfl; exact nD ha⟩
      · have hl := rs.len
        by_cases hn : n < st.length
        · rw [List.getElem?_append_left (by omega)] at h1
          rw [List.getElem?_append_left hn] at h2
          have q := rs.obj n a o h1 h2
          cases o with
          | lst ts' => obtain ⟨ws, h3, h4⟩ := q; exact ⟨ws, h3, RepTs.gen ge _ _ h4⟩
          | dK kvs => obtain ⟨ws, h3, h4, h5⟩ := q; exact ⟨ws, h3, h4, RepTs.gen ge _ _ h5⟩
        · have e : n = st.length := by
            have := (List.getElem?_eq_some_iff.mp h2).1
            simp at this
            omega
          subst e
          rw [← rs.len, List.getElem?_append_right (Nat.le_refl _), Nat.sub_self] at h1
          rw [List.getElem?_append_right (Nat.le_refl _), Nat.sub_self] at h2
          cases h1; cases h2
          exact ⟨vs, hv, RepTs.gen ge _ _ r⟩
      · rcases List.mem_append.mp z with z | z
        · exact (rs.exo a (sub a ha)).2 z
        · rw [List.mem_singleton] at z; exact nx (by rw [← z]; exact ha)
    · refine ⟨D, ?_, rfl⟩
      show (g2.ρ ++ [D])[st.length]? = some D
      rw [← rs.len, List.getElem?_append_right (Nat.le_refl _), Nat.sub_self]; rfl
theorem t_lc {K : PySem.W.Frag} {E : XK} {mi : ME (List T × Chk)} {gm : MG} {ix : List Nat} {cond : ME Bool} {elt : ME D} {vs : List Nat} {fin : List T → Sto → R D} (fn : Fin fin) (q : MG.quiet gm) (hix : ∀ i ∈ ix, i ∈ vs) {σ : L2.St} {H : Hp} {Q : VK}
    (h : tOf K E (relD K) (fun env st => (mLc mi gm cond elt vs env st).bind fin) σ H Q) :
    tLc (tOf K E (relI K) mi) (tgOf K ix gm) (tOf K E0 relB cond) (tOf K E0 (relD K) elt) vs σ H Q := by
  obtain ⟨g, env, st, re, rs, h⟩ := h
  refine ⟨g, env, st, re, rs, ?_⟩
  have h0 : (mLc mi gm cond elt vs env st).bind fin = (mi env st).bind fun p s1 => (if p.1.length ≤ sizeLine then lcGo p.2 gm cond elt (wipeD env vs) p.1 s1 else .bad).bind fin := by
    unfold mLc
    cases mi env st <;> rfl
  have h' : Post K E (relD K) g H Q ((mLc mi gm cond elt vs env st).bind fin) := h
  rw [h0] at h'
  refine Post.bind h' fun g1 H1 p s1 J s0 rs1 wk h1 D hD => ?_
  obtain ⟨ts, c⟩ := p
  have hz : ts.length ≤ sizeLine ∧ Post K E (relD K) g1 H1 Q ((lcGo c gm cond elt (wipeD env vs) ts s1).bind fin) := by
    have h1 : Post K E (relD K) g1 H1 Q ((if ts.length ≤ sizeLine then lcGo c gm cond elt (wipeD env vs) ts s1 else .bad).bind fin) := h1
    by_cases hc : ts.length ≤ sizeLine
    · rw [if_pos hc] at h1; exact ⟨hc, h1⟩
    · rw [if_neg hc] at h1; exact h1.elim
  obtain ⟨hz, h1⟩ := hz
  have hx1 : ∀ a ∈ g1.ex, H1 a ≠ none := fun a ha => (rs1.exo a ha).1
  have gp : Gen g1 H1 ⟨g1.ρ, D :: g1.ex⟩ (upd H1 D (.lst [])) := Gen.put hD
  have nD : D ∉ g1.ρ := (rs1.notin hD).1
  refine ⟨fun i m H => m = ts.length - i ∧ i ≤ ts.length ∧ ∃ g2 st2 acc accT, Step g1 H1 g2 H ∧ D ∈ g2.ex ∧ H D = some (.lst acc) ∧ RepTs K g2 H accT acc ∧ accT.length ≤ i ∧ RelE K g2 H (wipe σ vs) (wipeD env vs) ∧ RelS K g2 H st2 ∧
      Post K E (relD K) g1 H1 Q ((lcGo c gm cond elt (wipeD env vs) (ts.drop i) st2).bind fun ys s => fin (accT ++ ys) s),
    ⟨ts.length, rfl, Nat.zero_le _, ⟨g1.ρ, D :: g1.ex⟩, s1, [], [], ?_, List.mem_cons_self, upd_same, rfl, Nat.le_refl _, ((re.step s0).wipe vs).gen gp (fun _ _ z => z), ?_, h1⟩, ?_⟩
  · have sn : Step g1 H1 g1 (upd H1 D (.lst [])) := Step.new hD
    exact ⟨⟨[], by simp, by simp⟩, ⟨[D], rfl, fun p hp => by rw [List.mem_singleton] at hp; rw [hp]; exact hD⟩, sn.keep, sn.tups, sn.frzs, sn.there⟩
  · refine rs1.gen gp rfl (fun a o ha hm => by rw [upd_ne (ne_of_none ha hD)]; exact ha) fun a ha => ?_
    rcases List.mem_cons.mp ha with rfl | ha
    · exact ⟨by rw [upd_same]; simp, nD⟩
    · exact ⟨(Step.new (g := g1) (o := .lst []) hD).there a (hx1 a ha), (rs1.exo a ha).2⟩
  rintro i m H ⟨rfl, hi, g2, st2, acc, accT, s2, hx2, hDv, racc, hacc, re2, rs2, h2⟩
  by_cases hlt : i < ts.length
  · rw [List.drop_eq_getElem_cons hlt] at h2
    unfold lcGo at h2
    have h3 : c.ok st2 ∧ Post K E (relD K) g1 H1 Q (((gm (.v ts[i]) (wipeD env vs) st2).bindN fun env1 s1 => (cond env1 s1).bindN fun k s2 =>
        if k = true then (elt env1 s2).bindN fun d s3 => match d with
          | .v y => (lcGo c gm cond elt (wipeD env vs) (ts.drop (i + 1)) s3).bindN fun ys s4 => .ok (y :: ys) s4
          | _ => .bad
        else lcGo c gm cond elt (wipeD env vs) (ts.drop (i + 1)) s2).bind fun ys s => fin (accT ++ ys) s) := by
      cases c with
      | none => exact ⟨trivial, h2⟩
      | some p =>
        obtain ⟨n, us⟩ := p
        unfold guardR at h2
        simp only at h2
        split at h2
        · exact ⟨by assumption, h2⟩
        · exact h2.elim
    obtain ⟨ck, h3⟩ := h3
    obtain ⟨go, yl⟩ := (wk.at_ g2 H st2 s2 rs2 ck).2 i _ (List.getElem?_eq_getElem hlt)
    refine .inr ⟨go, fun H' => ∃ g3 st3 acc accT, Step g1 H1 g3 H' ∧ D ∈ g3.ex ∧ H' D = some (.lst acc) ∧ RepTs K g3 H' accT acc ∧ accT.length ≤ i + 1 ∧ RelE K g3 H' (wipe σ vs) (wipeD env vs) ∧ RelS K g3 H' st3 ∧
      Post K E (relD K) g1 H1 Q ((lcGo c gm cond elt (wipeD env vs) (ts.drop (i + 1)) st3).bind fun ys s => fin (accT ++ ys) s), fun H' ⟨g3, t3, a0, aT, a1, a2, a3, a4, a5, a6, a7, a8⟩ => ⟨ts.length - (i + 1), by omega, rfl, hlt, g3, t3, a0, aT, a1, a2, a3, a4, a5, a6, a7, a8⟩, fun x H' hy => ?_⟩
    obtain ⟨sm, rt⟩ := yl x H' hy
    have sm' : Step g2 H g2 H' := Step.same sm
    refine ⟨g2, wipeD env vs, st2, .v ts[i], re2.step sm', rs2.same sm, rt, ?_⟩
    cases qg : gm (.v ts[i]) (wipeD env vs) st2 with
    | err y s => exact absurd qg (q _ _ _ _ _)
    | bad => rw [qg] at h3; exact h3
    | ok env3 st3 =>
      rw [qg, R.bindN_ok] at h3
      intro g' σ' H'' s3 re3 rs3 hk
      have hw : wipe σ' vs = wipe σ vs := wipe_eq (by rw [hk.2, L2.wipe_length]) fun i hi => hk.1 i fun z => hi (hix i z)
      refine ⟨hw, g', env3, st3, re3, rs3, ?_⟩
      have h4 : Post K E (relD K) g1 H1 Q ((cond env3 st3).bindN fun k s2 => (if k = true then (elt env3 s2).bindN fun d s3 => match d with
          | .v y => (lcGo c gm cond elt (wipeD env vs) (ts.drop (i + 1)) s3).bindN fun ys s4 => .ok (y :: ys) s4
          | _ => .bad
        else lcGo c gm cond elt (wipeD env vs) (ts.drop (i + 1)) s2).bind fun ys s => fin (accT ++ ys) s) := by
        revert h3
        cases cond env3 st3 <;> intro h3 <;> exact h3
      have s4 := s2.trans (sm'.trans s3)
      have up : ∀ {ga gb : G} {Ha Hb : Hp}, Step ga Ha gb Hb → RelS K ga Ha st2 → D ∈ ga.ex → D ∈ gb.ex := fun {ga gb Ha Hb} s _ hm => by
        obtain ⟨u, e, _⟩ := s.ex
        rw [e]; exact List.mem_append_right _ hm
      have hx3 : D ∈ g'.ex := up (sm'.trans s3) rs2 hx2
      have hD3 : H'' D = some (.lst acc) := (sm'.trans s3).keep D _ hDv (rs2.exo D hx2).2
      have rw3 : RelE K g' H'' (wipe σ vs) (wipeD env vs) := re2.step (sm'.trans s3)
      have ra3 := RepTs.step (sm'.trans s3) _ _ racc
      refine Post.bindN h4 fun g4 H4 k s5 k' t4 rs4 rk h5 => ?_
      cases rk
      have hx4 : D ∈ g4.ex := by
        obtain ⟨u, e, _⟩ := t4.ex
        rw [e]; exact List.mem_append_right _ hx3
      have hD4 : H4 D = some (.lst acc) := t4.keep D _ hD3 (rs3.exo D hx3).2
      have ra4 := RepTs.step t4 _ _ ra3
      cases k with
      | false =>
        rw [if_neg Bool.false_ne_true]
        rw [if_neg Bool.false_ne_true] at h5
        exact ⟨g4, s5, acc, accT, s4.trans t4, hx4, hD4, ra4, by omega, rw3.step t4, rs4, h5⟩
      | true =>
        rw [if_pos rfl]
        rw [if_pos rfl] at h5
        refine ⟨g4, env3, s5, re3.step t4, rs4, ?_⟩
        have h6 : Post K E (relD K) g1 H1 Q ((elt env3 s5).bindN fun d s3 => (match d with
          | .v y => (lcGo c gm cond elt (wipeD env vs) (ts.drop (i + 1)) s3).bindN fun ys s4 => .ok (y :: ys) s4
          | _ => .bad).bind fun ys s => fin (accT ++ ys) s) := by
          revert h5
          cases elt env3 s5 <;> intro h5 <;> exact h5
        refine Post.bindN h6 fun g5 H5 d s6 yv t5 rs5 rd h7 => ?_
        have hx5 : D ∈ g5.ex := by
          obtain ⟨u, e, _⟩ := t5.ex
          rw [e]; exact List.mem_append_right _ hx4
        have hD5 : H5 D = some (.lst acc) := t5.keep D _ hD4 (rs4.exo D hx4).2
        have ra5 := RepTs.step t5 _ _ ra4
        have lacc := ra5.length
        refine ⟨acc, hD5, by omega, ?_⟩
        cases d with
        | v y =>
          have ga : Gen g5 H5 g5 (upd H5 D (.lst (acc ++ [yv]))) := Gen.apart hx5 hD5
          have s7 := (s4.trans t4).trans t5
          have s8 : Step g1 H1 g5 (upd H5 D (.lst (acc ++ [yv]))) := by
            refine ⟨s7.pre, s7.ex, fun a o ha hn => ?_, fun a xs ha => ?_, fun a ob u ha => ?_, fun a ha => ?_⟩
            · rw [upd_ne (ne_of_none ha hD)]; exact s7.keep a o ha hn
            · rw [upd_ne (ne_of_none ha hD)]; exact s7.tups a xs ha
            · rw [upd_ne (ne_of_none ha hD)]; exact s7.frzs a ob u ha
            · unfold upd
              split
              · simp
              · exact s7.there a ha
          refine ⟨g5, s6, acc ++ [yv], accT ++ [y], s8, hx5, upd_same, RepTs.gen ga _ _ (ra5.append (.one rd)), by simp; omega, ((rw3.step t4).step t5).gen ga (fun _ _ z => z), ?_, ?_⟩
          · refine rs5.gen ga rfl (fun a o ha hm => ?_) fun a ha => ?_
            · rw [upd_ne (fun z => (rs5.exo D hx5).2 (by rw [← z]; exact hm))]; exact ha
            · refine ⟨?_, (rs5.exo a ha).2⟩
              unfold upd
              split
              · simp
              · exact (rs5.exo a ha).1
          · revert h7
            cases lcGo c gm cond elt (wipeD env vs) (ts.drop (i + 1)) s6 with
            | ok ys s => intro h7; simpa using h7
            | err x s => intro h7; exact h7.elim
            | bad => exact id
        | ref _ => exact h7.elim
        | glo _ => exact h7.elim
        | ty _ => exact h7.elim
        | rol _ => exact h7.elim
  · have e : i = ts.length := by omega
    subst e
    rw [List.drop_length] at h2
    unfold lcGo at h2
    have h3 : c.ok st2 ∧ Post K E (relD K) g1 H1 Q (fin accT st2) := by
      cases c with
      | none => exact ⟨trivial, by simpa using h2⟩
      | some p =>
        obtain ⟨n, us⟩ := p
        unfold guardR at h2
        simp only at h2
        split at h2
        · exact ⟨by assumption, by simpa using h2⟩
        · exact h2.elim
    exact .inl ⟨(wk.at_ g2 H st2 s2 rs2 h3.1).1, fn.go h3.2 s2 rs2 hx1 hD hx2 hDv racc⟩
end PL

namespace PL
open PySem PySem.Spec L2
open PyProof.Rows hiding St
/-! ### comprehensions as expressions -/
def STs (X : Cx) (ifs : List Expr) (m : ME Bool) : Prop := PTs X ifs (tOf X.K E0 relB m)
theorem PTs.mono {X : Cx} {e : List Expr} {t t' : TT} (h : PTs X e t) (f : ∀ σ H Q, t' σ H Q → t σ H Q) : PTs X e t' :=
  ⟨fun pins s σ H Q I hw => h.run pins s σ H Q I (f σ H Q hw)⟩
def mYes : ME Bool := fun _ st => .ok true st
theorem sts_nil {X : Cx} : STs X [] mYes := PTs.mono pts_nil fun σ H Q ⟨g, env, st, re, rs, h⟩ => h g H true (Step.refl g H) rs rfl
theorem sts_one {X : Cx} {c : Expr} {m : ME Bool} (h : ST X E0 c m) : STs X [c] m := pts_one h
section
variable {X : Cx} {E : XK} {elt tg iter : Expr} {ifs : List Expr} {scope : Scope} {own : List (Str × Nat)} {pos : Pos} {mi : ME (List T × Chk)} {gm : MG} {ix : List Nat} {cond : ME Bool} {me : ME D}
theorem se_lcG {fin : List T → Sto → R D} (fn : Fin fin) (hc : X.calm = true) (hN : X.N.Nodup) (hi : SI X E tg iter mi) (ok : BlkOk X.N X.env.scope scope own)
    (hg : ∀ (s : Shared) (H : Hp) (C : Addr) (cl : List (Str × Addr)) (fp : List Addr), SG (X.blk s H scope (compEnvC scope cl C X.env) fp) tg ix gm) (q : MG.quiet gm) (hix : ∀ i ∈ ix, i ∈ own.map (·.2))
    (ht : ∀ (s : Shared) (H : Hp) (C : Addr) (cl : List (Str × Addr)) (fp : List Addr), STs (X.blk s H scope (compEnvC scope cl C X.env) fp) ifs cond)
    (he : ∀ (s : Shared) (H : Hp) (C : Addr) (cl : List (Str × Addr)) (fp : List Addr), SE (X.blk s H scope (compEnvC scope cl C X.env) fp) E0 elt me) (hs : ∀ x, foldedSetIterable iter X.env x = pure x := by intro _; rfl) :
    SE X E (.ListComp elt [⟨tg, iter, ifs, 0⟩] scope pos) (fun env st => (mLc mi gm cond me (own.map (·.2)) env st).bind fin) :=
  PE.mono (pe_lc (g := tgOf X.K ix gm) (tt := tOf X.K E0 relB cond) (te := tOf X.K E0 (relD X.K) me) hc hN hi ok hg ht he hs) fun _ _ _ h => t_lc fn q hix h
theorem ss_setLcG {fin : List T → Sto → R D} (fn : Fin fin) (i : Nat) {y : Str} {py spos : Pos} (hc : X.calm = true) (hN : X.N.Nodup) (hi : SI X E tg iter mi) (ok : BlkOk X.N X.env.scope scope own)
    (hg : ∀ (s : Shared) (H : Hp) (C : Addr) (cl : List (Str × Addr)) (fp : List Addr), SG (X.blk s H scope (compEnvC scope cl C X.env) fp) tg ix gm) (q : MG.quiet gm) (hix : ∀ i ∈ ix, i ∈ own.map (·.2))
    (ht : ∀ (s : Shared) (H : Hp) (C : Addr) (cl : List (Str × Addr)) (fp : List Addr), STs (X.blk s H scope (compEnvC scope cl C X.env) fp) ifs cond)
    (he : ∀ (s : Shared) (H : Hp) (C : Addr) (cl : List (Str × Addr)) (fp : List Addr), SE (X.blk s H scope (compEnvC scope cl C X.env) fp) E0 elt me)
    (hsw : swapsWith (.ListComp elt [⟨tg, iter, ifs, 0⟩] scope pos) (some (.Name y py)) spos.line X.env = pure true) (hy : X.N[i]? = some y := by rfl) (hyl : X.env.scope.names.lookup y = some .local := by rfl) (hs : ∀ x, foldedSetIterable iter X.env x = pure x := by intro _; rfl) :
    SS X E (.Assign [.Name y py] (.ListComp elt [⟨tg, iter, ifs, 0⟩] scope pos) spos) (mAsg (fun env st => (mLc mi gm cond me (own.map (·.2)) env st).bind fin) (gNm i)) := by
  refine PS.mono (ps_setLc (g := tgOf X.K ix gm) (tt := tOf X.K E0 relB cond) (te := tOf X.K E0 (relD X.K) me) hc hN hy hyl hsw hi ok hg ht he hs) fun De σ H ⟨g, env, st, re, rs, h⟩ => ?_
  exact t_lc (K := X.K) (E := E) fn q hix ⟨g, env, st, re, rs, PostS.ofR h fun g1 H1 d s1 v s rs1 rd h2 => h2 g1 _ H1 (Step.refl g1 H1) ((re.step s).set i rd) rs1⟩
end
/-! ### while -/
def whGo (c : ME Bool) (b : MS) : Nat → EnvD → Sto → RS
  | 0, _, _ => .bad
  | n + 1, env, st => (c env st).toS fun k s1 => if k = true then match b env s1 with
      | .next e s => whGo c b n e s
      | .cont e s => whGo c b n e s
      | .brk e s => .next e s
      | r => r
    else .next env s1
def mWhile (n : Nat) (c : ME Bool) (b : MS) : MS := fun env st => whGo c b n env st
theorem ss_while {X : Cx} {E : XK} {c : Expr} {body : List Stmt} {mc : ME Bool} {b : MS} {pos : Pos} (n : Nat) (hp : PassesOwn (model X.prog X.w) X.A X.env X.xe) (hc : ST X E c mc) (hb : SSs X E body b) : SS X E (.While c body [] pos) (mWhile n mc b) := by
  refine PS.mono (ps_while hp hc hb) fun De σ H ⟨g, env, st, re, rs, h⟩ => ?_
  refine ⟨fun m σ H => ∃ g2 env2 st2, RelE X.K g2 H σ env2 ∧ RelS X.K g2 H st2 ∧ PostS X.K E g2 H De (whGo mc b m env2 st2), ⟨n, g, env, st, re, rs, h⟩, ?_⟩
  rintro m σ H ⟨g2, env2, st2, re2, rs2, h2⟩
  cases m with
  | zero => exact h2.elim
  | succ m =>
    unfold whGo at h2
    refine ⟨g2, env2, st2, re2, rs2, PostS.ofR h2 fun g3 H3 k s3 k' t3 rs3 rk h3 => ?_⟩
    cases rk
    cases k with
    | false =>
      rw [if_neg Bool.false_ne_true] at h3 ⊢
      exact h3 g3 σ H3 (Step.refl g3 H3) (re2.step t3) rs3
    | true =>
      rw [if_pos rfl] at h3 ⊢
      refine ⟨fun σ' H' => ∃ g4 env4 st4, RelE X.K g4 H' σ' env4 ∧ RelS X.K g4 H' st4 ∧ PostS X.K E g4 H' De (whGo mc b m env4 st4), fun σ' H' h4 => ⟨m, Nat.lt_succ_self m, h4⟩, g3, env2, s3, re2.step t3, rs3, ?_⟩
      revert h3
      cases b env2 s3 with
      | next e s => exact fun h3 g4 σ4 H4 s5 re4 rs4 => ⟨g4, e, s, re4, rs4, PostS.from s5 h3⟩
      | cont e s => exact fun h3 g4 σ4 H4 s5 re4 rs4 => ⟨g4, e, s, re4, rs4, PostS.from s5 h3⟩
      | brk e s => exact fun h3 g4 σ4 H4 s5 re4 rs4 => h3 g4 σ4 H4 s5 re4 rs4
      | ret d s => exact id
      | err x s => exact id
      | bad => exact id
/-! ### a def of the text -/
def spF (K : PySem.W.Frag) (F : List D → Sto → R D) (vs : List V) (H : Hp) (Q : VK) (E : XK) : Prop :=
  ∃ g st ds, RelS K g H st ∧ RepDs K g H ds vs ∧ Post K E (relD K) g H Q (F ds st)
structure FnG (P : Program) (w : World) (K : PySem.W.Frag) (mg : Str → Option Value) (base : Heap) (k : Nat) (f : Addr) (fd : FuncData) (ps : List Str) (F : List D → Sto → R D) : Prop where
  run : ∀ (A : Around) (outer : List Env) (s : Shared) (H : Hp) (args : Args) (us : List Value) (vs : List V) (Q : VK) (E : XK), Room k A → A.guards = some [] → Env0 P w K mg base A outer s H → BindsTo s fd args (ps.zip us) → Vals vs us → vs.length = ps.length →
    spF K F vs H Q E → codeAny (model P w) A (.call (.ref f) args) (CR (L2.CX P w) outer P w H s Q E) s
theorem FnG.mono {P : Program} {w : World} {K : PySem.W.Frag} {mg : Str → Option Value} {base : Heap} {j k : Nat} {f : Addr} {fd : FuncData} {ps : List Str} {F : List D → Sto → R D} (h : FnG P w K mg base j f fd ps F) (hk : j ≤ k) : FnG P w K mg base k f fd ps F :=
  ⟨fun A outer s H args us vs Q E hr => h.run A outer s H args us vs Q E (hr.mono hk)⟩
theorem FnG.of_eq {P : Program} {w : World} {K : PySem.W.Frag} {mg : Str → Option Value} {base : Heap} {k : Nat} {f : Addr} {fd : FuncData} {ps : List Str} {F F' : List D → Sto → R D} (h : FnG P w K mg base k f fd ps F) (e : F = F') : FnG P w K mg base k f fd ps F' := e ▸ h
/-- what is handed back: the objects made meanwhile are no longer the store's -/
def fin (n : Nat) (st : Sto) : D → R D
  | .ref m => if m < n then .ok (.ref m) (st.take n) else match st[m]? with
    | some (.lst ts) => .ok (.v (.list ts)) (st.take n)
    | _ => .bad
  | d => .ok d (st.take n)
/-- the same, a new object of the store's handed back -/
def finM (n : Nat) (st : Sto) : D → R D := fun d => .ok d st
def outS (fn : Nat → Sto → D → R D) (n : Nat) : RS → R D
  | .ret d st => fn n st d
  | .next _ st => fn n st (.v .none)
  | .err x st => .err x (st.take n)
  | _ => .bad
def runB (fn : Nat → Sto → D → R D) (nn : Nat) (m : MS) (ds : List D) (st : Sto) : R D := outS fn st.length (m (ds.map some ++ List.replicate (nn - ds.length) none) st)
section
variable {K : PySem.W.Frag} {E : XK} {g g' : G} {H H' : Hp} {st st' : Sto}
theorem back_rho (s : Step g H g' H') : g'.ρ.take g.ρ.length = g.ρ := by
  obtain ⟨t, e, _⟩ := s.pre
  rw [e, List.take_left' rfl]
theorem back_gen (s : Step g H g' H') : Gen g' H' g H' := by
  obtain ⟨t, e, _⟩ := s.pre
  obtain ⟨u, e2, _⟩ := s.ex
  exact Gen.less (fun a ha => by rw [e]; exact List.mem_append_left _ ha) (fun a ha => by rw [e2]; exact List.mem_append_right _ ha)
theorem back_step (s : Step g H g' H') : Step g H g H' := ⟨⟨[], by simp, by simp⟩, ⟨[], by simp, by simp⟩, s.keep, s.tups, s.frzs, s.there⟩
theorem back_S (rs : RelS K g H st) (s : Step g H g' H') (rs' : RelS K g' H' st') : RelS K g H' (st'.take st.length) := by
  obtain ⟨t, e, _⟩ := s.pre
  obtain ⟨u, e2, _⟩ := s.ex
  have hl : st.length ≤ st'.length := by rw [← rs.len, ← rs'.len, e, List.length_append]; omega
  refine ⟨by rw [List.length_take, rs.len]; omega, rs.nd, fun n a o h1 h2 => ?_, fun a ha => ?_⟩
  · rw [List.getElem?_take] at h2
    split at h2
    · have h3 : g'.ρ[n]? = some a := by rw [e, List.getElem?_append_left (List.getElem?_eq_some_iff.mp h1).1]; exact h1
      have q := rs'.obj n a o h3 h2
      cases o with
      | lst ts => obtain ⟨vs, h4, h5⟩ := q; exact ⟨vs, h4, RepTs.gen (back_gen s) _ _ h5⟩
      | dK kvs => obtain ⟨vs, h4, h5, h6⟩ := q; exact ⟨vs, h4, h5, RepTs.gen (back_gen s) _ _ h6⟩
    · cases h2
  · have := rs'.exo a (by rw [e2]; exact List.mem_append_right _ ha)
    exact ⟨this.1, (rs.exo a ha).2⟩
/-- fin at a return -/
structure FinOut (fn : Nat → Sto → D → R D) : Prop where
  go : ∀ {K : PySem.W.Frag} {E : XK} {g g' : G} {H H' : Hp} {st st' : Sto} {d : D} {v : V} {Q : VK}, RelS K g H st → Step g H g' H' → RelS K g' H' st' → RepD K g' H' d v → Post K E (relD K) g H Q (fn st.length st' d) → Q v H'
theorem fo_fin : FinOut fin where
  go := by
    intro K E g g' H H' st st' d v Q rs s rs' rd h
    have bs := back_S rs s rs'
    cases d with
    | v t => exact h g H' v (back_step s) bs (RepT.gen (back_gen s) _ _ rd)
    | glo a => exact h g H' v (back_step s) bs rd
    | ty n => exact h g H' v (back_step s) bs rd
    | rol ts =>
      obtain ⟨a, vs, e, h1, h2⟩ := rd
      exact h g H' v (back_step s) bs ⟨a, vs, e, h1, RepTs.gen (back_gen s) _ _ h2⟩
    | ref m =>
      obtain ⟨a, e, rfl⟩ := rd
      obtain ⟨t, e1, f1⟩ := s.pre
      simp only [fin] at h
      by_cases hm : m < st.length
      · rw [if_pos hm] at h
        refine h g H' _ (back_step s) bs ⟨a, ?_, rfl⟩
        rw [e1, List.getElem?_append_left (by rw [rs.len]; exact hm)] at e
        exact e
      · rw [if_neg hm] at h
        obtain ⟨o, e2, e3⟩ := rs'.ref e
        rw [e2] at h
        cases o with
        | dK _ => exact h.elim
        | lst ts =>
          obtain ⟨vs, e4, e5⟩ := e3
          refine h g H' _ (back_step s) bs ?_
          show RepT _ _ _ _ _
          simp only [RepT]
          refine ⟨a, vs, rfl, ⟨e4, fun z => ?_, fun z => ?_⟩, RepTs.gen (back_gen s) _ _ e5⟩
          · obtain ⟨i, hi⟩ := List.getElem?_of_mem z
            have hi1 := (List.getElem?_eq_some_iff.mp hi).1
            have hi2 : g'.ρ[i]? = some a := by rw [e1, List.getElem?_append_left hi1]; exact hi
            have q1 := (List.getElem?_eq_some_iff.mp hi2)
            have q2 := (List.getElem?_eq_some_iff.mp e)
            have : i = m := (List.getElem_inj rs'.nd).mp (q1.2.trans q2.2.symm)
            rw [rs.len] at hi1
            omega
          · obtain ⟨u, e6, _⟩ := s.ex
            exact (rs'.exo a (by rw [e6]; exact List.mem_append_right _ z)).2 (List.mem_of_getElem? e)
theorem fo_finM : FinOut finM where
  go := by
    intro K E g g' H H' st st' d v Q rs s rs' rd h
    exact h g' H' v s rs' rd
end
section
variable {P : Program} {w : World} {K : PySem.W.Frag} {mg : Str → Option Value} {base : Heap} {x qual : Str} {params : Arguments} {body : List Stmt} {scope : Scope} {dvs : List V} {kws : List (Str × V)} {f : Addr} {fd : FuncData}
theorem reps_start {K : PySem.W.Frag} {g : G} {H : Hp} {N ps : List Str} {ds : List D} {vs : List V} (rd : RepDs K g H ds vs) (hl : vs.length = ps.length) (hp : ps.length ≤ N.length) : RelE K g H (L2.start N vs) (ds.map some ++ List.replicate (N.length - ds.length) none) := by
  have hlen : ∀ {ds : List D} {vs : List V}, RepDs K g H ds vs → ds.length = vs.length := by
    intro ds
    induction ds with
    | nil => intro vs h; cases h; rfl
    | cons d ds ih => intro vs h; obtain ⟨v, r, rfl, _, h2⟩ := h; simp [ih h2]
  have l1 := hlen rd
  refine ⟨by unfold L2.start; simp; omega, fun i d e => ?_⟩
  have hget : ∀ {ds : List D} {vs : List V} {i : Nat} {d : D}, RepDs K g H ds vs → ds[i]? = some d → ∃ v, vs[i]? = some v ∧ RepD K g H d v := by
    intro ds
    induction ds with
    | nil => intro vs i d h e; simp at e
    | cons d ds ih =>
      intro vs i d' h e
      obtain ⟨v, r, rfl, h1, h2⟩ := h
      cases i with
      | zero => simp at e; subst e; exact ⟨v, rfl, h1⟩
      | succ i => simpa using ih h2 (i := i) (d := d') (by simpa using e)
  by_cases hi : i < ds.length
  · rw [List.getElem?_append_left (by simpa using hi), List.getElem?_map] at e
    obtain ⟨d', e1, e2⟩ := Option.map_eq_some_iff.mp e
    cases e2
    obtain ⟨v, h1, h2⟩ := hget rd e1
    refine ⟨v, ?_, h2⟩
    unfold L2.start
    rw [List.getElem?_append_left (by simp; omega), List.getElem?_map, h1]; rfl
  · rw [List.getElem?_append_right (by simpa using hi), List.getElem?_replicate] at e
    split at e <;> cases e
abbrev bodyCx (P : Program) (w : World) (K : PySem.W.Frag) (mg : Str → Option Value) (base : Heap) (N : List Str) (qual : Str) (scope : Scope) (f : Addr) (cd : Value) (A : Around) (outer : List Env) (s : Shared) (H : Hp) (E : XK) : Cx := cxOf (L2.CX P w) P w K mg base N qual scope f cd A outer s H E
theorem body_takes {N : List Str} {cd : Value} {A : Around} {outer : List Env} {s : Shared} {H : Hp} {E : XK} : Takes (bodyCx P w K mg base N qual scope f cd A outer s H E) (fun cls d _ H => E cls d H) := takes_of rfl rfl rfl rfl
theorem body_passes {N : List Str} {cd : Value} {A : Around} {outer : List Env} {s : Shared} {H : Hp} {E : XK} : Passes (L2.CX P w) (bodyCx P w K mg base N qual scope f cd A outer s H E) E := passes_call body_takes fun _ _ _ _ h => h
theorem body_own {N : List Str} {cd : Value} {A : Around} {outer : List Env} {s : Shared} {H : Hp} {E : XK} : PassesOwn (model P w) (bodyCx P w K mg base N qual scope f cd A outer s H E).A (bodyCx P w K mg base N qual scope f cd A outer s H E).env (bodyCx P w K mg base N qual scope f cd A outer s H E).xe := passes_of (X := bodyCx P w K mg base N qual scope f cd A outer s H E) rfl
/-- a def by its body -/
theorem fn_body {N ps : List Str} {k : Nat} {m : MS} {fn : Nat → Sto → D → R D} (F : FunD K x qual params body scope dvs kws f fd) (S : FnScope N ps scope) (fo : FinOut fn)
    (hb : ∀ (cdv : Value) (A : Around) (outer : List Env) (s : Shared) (H : Hp) (E : XK), Room k (A.deeper (envOfC qual scope s.heap.objs.size f cdv)) → (A.deeper (envOfC qual scope s.heap.objs.size f cdv)).guards = some [] →
      SSs (bodyCx P w K mg base N qual scope f cdv A outer s H E) E body m) : FnG P w K mg base (k + 1) f fd ps (runB fn N.length m) := by
  obtain ⟨oc, od, dV, kV, doc, pm, an, cdv, ct, osl, rfl, lk, hcd, _, _⟩ := F.ex
  refine ⟨fun A outer s H args us vs Q E hr hgd e0 hbi rv hl hsp => ?_⟩
  have KX : K.In s.heap := e0.mod.kin.keeps fun b o e => (e0.bs b o e).1
  have lim : s.heap.NoLimit := e0.mod.nolimit.keeps fun b o e => (e0.bs b o e).1
  refine codeAny_call_function hr.depth (KX _ _ lk) rfl S.co S.gen rfl (PySem.W.codeRec_of KX hcd) (hbi _ _ _ _ ?_)
  refine wpAny_newFunctionEnv_cells S.kind (fun y hy => (S.par y.1 (List.of_mem_zip hy).1).elim .inl fun z => .inr ⟨z, PySem.W.cellsFrom_some _ _ _ (.inl z)⟩) fun env he s1 ic => ?_
  subst he
  refine ⟨lim.keeps ic.toInCall.keep, codeAny_func ?_⟩
  have hd : SSs (bodyCx P w K mg base N qual scope f cdv A outer s H E) E body m := hb cdv A outer s H E (hr.deeper _) hgd
  have hpl : ps.length ≤ N.length := by have := congrArg List.length S.pre; rw [List.length_take] at this; omega
  obtain ⟨g, st, ds, rs, rd, hpost⟩ := hsp
  have I : Inv (bodyCx P w K mg base N qual scope f cdv A outer s H E) [] (L2.start N vs) H s1 := inv_start S hr.hd e0 hl rv ic
  have body := hd.run [] s1 (L2.start N vs) H { nx := fun _ H' => Q .non H', rt := Q } I ⟨g, _, st, reps_start rd hl hpl, rs, by
    revert hpost
    unfold runB
    cases m (ds.map some ++ List.replicate (N.length - ds.length) none) st with
    | next env' st' => exact fun h g' σ' H' s' _ rs' => fo.go rs s' rs' rep_v.1 h
    | brk _ _ => exact fun h => h.elim
    | cont _ _ => exact fun h => h.elim
    | ret d st' => exact fun h g' H' v s' rs' rd' => fo.go rs s' rs' rd' h
    | err y st' =>
      refine fun h g' H' cl odd s' rs' rx => h g H' cl odd (back_step s') (back_S rs s' rs') ?_
      obtain ⟨h1, h2⟩ := rx
      refine ⟨h1, h2.imp id fun ⟨d, fs, a1, a2, a3, a4, a5, a6⟩ => ⟨d, fs, a1, a2, a3, RepTs.gen (back_gen s') _ _ a4, fun z => a5 ?_, a6⟩⟩
      obtain ⟨t, e, _⟩ := s'.pre
      rw [e]; exact List.mem_append_left _ z
    | bad => exact fun h => h.elim⟩
  refine wpAny_mono body (fun fl s' hs => ?_) fun e s' hs => hs
  cases fl with
  | ret u => obtain ⟨v, σ', H', J, r2, q⟩ := hs; exact ⟨v, H', J.os, J.bare, J.base, J.hok, r2, q⟩
  | next => obtain ⟨σ', H', J, q⟩ := hs; exact ⟨.non, H', J.os, J.bare, J.base, J.hok, rfl, q⟩
  | brk => obtain ⟨_, _, _, q⟩ := hs; exact q.elim
  | cont => obtain ⟨_, _, _, q⟩ := hs; exact q.elim
end
/-! ### its calls -/
def mFn (n : Nat) (F : List D → Sto → R D) (as : ME (List D)) (dd : List D) : ME D := fun env st => (as env st).bind fun ds s1 => if (ds ++ dd).length = n then F (ds ++ dd) s1 else .bad
theorem RepDs.len {K : PySem.W.Frag} {g : G} {H : Hp} : ∀ {ds : List D} {vs : List V}, RepDs K g H ds vs → ds.length = vs.length
  | [], _, h => by cases h; rfl
  | d :: ds, _, ⟨v, r, e, _, h2⟩ => by subst e; simp [RepDs.len h2]
theorem RepDs.app {K : PySem.W.Frag} {g : G} {H : Hp} : ∀ {ds es : List D} {vs ws : List V}, RepDs K g H ds vs → RepDs K g H es ws → RepDs K g H (ds ++ es) (vs ++ ws)
  | [], _, _, _, h, k => by cases h; exact k
  | d :: ds, _, _, _, ⟨v, r, e, h1, h2⟩, k => by subst e; exact ⟨v, _, rfl, h1, RepDs.app h2 k⟩
section
variable {X : Cx} {E : XK} {k : Nat} {f : Addr} {fd : FuncData} {ps : List Str} {F : List D → Sto → R D} {dvs : List V} {dsv : List Value} {dd : List D} {x : Str} {p pos : Pos} {e : Expr} {es : List Expr} {mas : ME (List D)}
theorem run_fnG {pins : List (Addr × Obj)} {σ : L2.St} {H : Hp} {s : Shared} {Q : VK} {us us0 : List Value} {kw : List (Str × Value)} {vs : List V} (Fn : FnG X.prog X.w X.K X.mg X.base k f fd ps F) (hr : Room k X.A) (hgd : X.A.guards = some []) (hx : Passes (L2.CX X.prog X.w) X E)
    (hb : BindsTo s fd ⟨us0, kw⟩ (ps.zip us)) (I : Inv X pins σ H s) (r : Vals vs us) (hl : vs.length = ps.length) (h : spF X.K F vs H Q E) : wpAny (model X.prog X.w) X.A (call (.ref f) us0 kw) (EP X pins σ Q) X.xe s := by
  refine wpAny_call (codeAny_mono (Fn.run X.A X.stack s H ⟨us0, kw⟩ us vs Q E hr hgd I.env0 hb r hl h) fun r s' hq => ?_)
  match r, hq with
  | .error e, hq => exact hx pins σ H s e s' I hq
  | .ok (.ret u), hq => exact I.after hq
theorem se_fn (Fn : FnG X.prog X.w X.K X.mg X.base k f fd ps F) (hr : Room k X.A) (hgd : X.A.guards = some []) (hm : X.mg x = some (.ref f)) (kp : PySem.W.keepIn X.K (.ref f) = true) (hb : Binds X.K fd ps dsv) (hd : Vals dvs dsv) (hdd : ∀ g H, RepDs X.K g H dd dvs)
    (hx : Passes (L2.CX X.prog X.w) X E) (ha : SA X E (e :: es) mas) (hg : Gl X x := by rfl) (hdb : (x == ("__debug__" : Str)) = false := by decide) (he : starEach (e :: es) X.env = (false, eval e X.env) :: starEach es X.env := by rfl) (hpl : (backTo pos (starEach es X.env)).any (·.1) = false := by rfl) :
    SE X E (.Call (.Name x p) (e :: es) [] pos) (mFn ps.length F mas dd) := by
  refine ⟨fun pins s σ H Q I ⟨g, env, st, re, rs, h⟩ => ?_⟩
  refine wpAny_Call_Name_kw (ld_glob I hg hm ?_ hdb)
  refine PySem.W.callWith_K (h₀ := X.base) I.ok.mod.kin kp (thn (ha.run pos pins s σ H (fun vs H1 => (vs ++ dvs).length = ps.length ∧ spF X.K F (vs ++ dvs) H1 Q E) I ⟨g, env, st, re, rs, Post.bind h fun g1 H1 ds s1 vs t rs1 rd h1 => ?_⟩) fun us s1 ⟨vs, H1, I1, r, hl, q⟩ => ⟨I1.kIn, ?_⟩) he hpl
  · have rdd := rd.app (hdd g1 H1)
    obtain ⟨hl, h1⟩ := if_bad h1
    exact ⟨by rw [← rdd.len]; exact hl, g1, s1, ds ++ dd, rs1, rdd, h1⟩
  · have r2 := r.append hd
    exact run_fnG (us := us ++ dsv) Fn hr hgd hx (hb s1 us I1.kIn (by rw [← r2.length]; exact hl)) I1 r2 hl q
theorem se_fn0 (Fn : FnG X.prog X.w X.K X.mg X.base k f fd ps F) (hr : Room k X.A) (hgd : X.A.guards = some []) (hm : X.mg x = some (.ref f)) (kp : PySem.W.keepIn X.K (.ref f) = true) (hb : Binds X.K fd ps dsv) (hd : Vals dvs dsv) (hdd : ∀ g H, RepDs X.K g H dd dvs)
    (hx : Passes (L2.CX X.prog X.w) X E) (hg : Gl X x := by rfl) (hdb : (x == ("__debug__" : Str)) = false := by decide) : SE X E (.Call (.Name x p) [] [] pos) (mFn ps.length F mNil dd) := by
  refine ⟨fun pins s σ H Q I ⟨g, env, st, re, rs, h⟩ => ?_⟩
  refine wpAny_Call_Name_kw (ld_glob I hg hm ?_ hdb)
  have h : Post X.K E (relD X.K) g H Q (if ([] ++ dd).length = ps.length then F ([] ++ dd) st else .bad) := h
  obtain ⟨hl, h1⟩ := if_bad h
  have rdd := hdd g H
  have hl2 : dvs.length = ps.length := by rw [← rdd.len]; exact hl
  exact PySem.W.callWith_K0 I.kIn kp (run_fnG (us := dsv) (us0 := []) Fn hr hgd hx (hb s [] I.kIn (by rw [List.nil_append, ← hd.length]; exact hl2)) I hd hl2 ⟨g, st, dd, rs, rdd, h1⟩)
/-! by keywords -/
def pickL {α : Type} (perm : List Nat) (xs : List α) : List α := perm.filterMap (xs[·]?)
def mFnK (n : Nat) (perm : List Nat) (F : List D → Sto → R D) (as ks : ME (List D)) (m0 m1 : Nat) : ME D := fun env st => (as env st).bind fun ds s1 => (ks env s1).bind fun zs s2 => if ds.length = m0 ∧ zs.length = m1 ∧ (pickL perm (ds ++ zs)).length = n then F (pickL perm (ds ++ zs)) s2 else .bad
structure KB (K : PySem.W.Frag) (fd : FuncData) (ps ks : List Str) (n : Nat) (perm : List Nat) : Prop where
  to : ∀ (s : Shared) (us ws : List Value), K.In s.heap → us.length = n → ws.length = ks.length → BindsTo s fd ⟨us, ks.zip ws⟩ (ps.zip (pickL perm (us ++ ws)))
theorem vals_pick {vs : List V} {us : List Value} (r : Vals vs us) : ∀ perm : List Nat, Vals (pickL perm vs) (pickL perm us)
  | [] => .nil
  | j :: perm => by
    have ih := vals_pick r perm
    have hl := r.length
    show Vals ((j :: perm).filterMap _) ((j :: perm).filterMap _)
    rw [List.filterMap_cons, List.filterMap_cons]
    cases e : vs[j]? with
    | none => rw [r.none_of e]; exact ih
    | some v => obtain ⟨u, e2, r2⟩ := r.get e; rw [e2]; exact .cons r2 ih
theorem reps_pick {K : PySem.W.Frag} {g : G} {H : Hp} {ds : List D} {vs : List V} (r : RepDs K g H ds vs) : ∀ perm : List Nat, RepDs K g H (pickL perm ds) (pickL perm vs) := by
  have hget : ∀ {ds : List D} {vs : List V}, RepDs K g H ds vs → ∀ i : Nat, (ds[i]? = none ∧ vs[i]? = none) ∨ ∃ d v, ds[i]? = some d ∧ vs[i]? = some v ∧ RepD K g H d v := by
    intro ds
    induction ds with
    | nil => intro vs h i; cases h; exact .inl ⟨rfl, rfl⟩
    | cons d ds ih =>
      intro vs h i
      obtain ⟨v, r, rfl, h1, h2⟩ := h
      cases i with
      | zero => exact .inr ⟨d, v, rfl, rfl, h1⟩
      | succ i => simpa using ih h2 i
  intro perm
  induction perm with
  | nil => exact (rfl : _ = _)
  | cons j perm ih =>
    show RepDs K g H ((j :: perm).filterMap _) ((j :: perm).filterMap _)
    rw [List.filterMap_cons, List.filterMap_cons]
    rcases hget r j with ⟨e1, e2⟩ | ⟨d, v, e1, e2, r1⟩
    · rw [e1, e2]; exact ih
    · rw [e1, e2]; exact ⟨v, _, rfl, r1, ih⟩
def SK (X : Cx) (E : XK) (ks : List Keyword) (m : ME (List D)) : Prop := PK X ks (tOf X.K E (fun g H ds vs => RepDs X.K g H ds vs) m)
theorem PK.mono {X : Cx} {ks : List Keyword} {t t' : TA} (h : PK X ks t) (f : ∀ σ H Q, t' σ H Q → t σ H Q) : PK X ks t' :=
  ⟨fun pos pins s σ H Q I hw => h.run pos pins s σ H Q I (f σ H Q hw)⟩
theorem sk_nil : SK X E [] mNil := PK.mono pk_nil fun σ H Q ⟨g, env, st, re, rs, h⟩ => h g H [] (Step.refl g H) rs rfl
theorem sk_cons {nm : Option Str} {kpos : Pos} {kws : List Keyword} {ma : ME D} (ha : SE X E e ma) (hr : SK X E kws mas) : SK X E (⟨nm, e, kpos⟩ :: kws) (mCons ma mas) := by
  refine PK.mono (pk_cons ha hr) fun σ H Q ⟨g, env, st, re, rs, h⟩ => ⟨g, env, st, re, rs, Post.bind h fun g1 H1 x s1 v s rs1 rx h1 => ?_⟩
  refine ⟨g1, env, s1, re.step s, rs1, Post.bind h1 fun g2 H2 ds s2 vs s' rs2 rds h2 => ?_⟩
  exact h2 g2 H2 (v :: vs) (Step.refl g2 H2) rs2 ⟨v, vs, rfl, rx.step s', rds⟩
variable {kws : List Keyword} {mks : ME (List D)} {ks : List Str} {n : Nat} {perm : List Nat}
theorem se_fnK (Fn : FnG X.prog X.w X.K X.mg X.base k f fd ps F) (hr : Room k X.A) (hgd : X.A.guards = some []) (hm : X.mg x = some (.ref f)) (kp : PySem.W.keepIn X.K (.ref f) = true) (hb : KB X.K fd ps ks n perm)
    (hx : Passes (L2.CX X.prog X.w) X E) (ha : SA X E (e :: es) mas) (hk : SK X E kws mks) (hg : Gl X x := by rfl) (hall : (backToKw pos (keywordEach kws X.env)).all (·.1.isSome) = true := by rfl) (hks : (backToKw pos (keywordEach kws X.env)).filterMap (·.1) = ks := by rfl)
    (hdb : (x == ("__debug__" : Str)) = false := by decide) (he : starEach (e :: es) X.env = (false, eval e X.env) :: starEach es X.env := by rfl)
    (hpl : ((backTo pos (starEach (e :: es) X.env)).any (·.1) || (backToKw pos (keywordEach kws X.env)).any (·.1.isNone)) = false := by rfl) :
    SE X E (.Call (.Name x p) (e :: es) kws pos) (mFnK ps.length perm F mas mks n ks.length) := by
  refine ⟨fun pins s σ H Q I ⟨g, env, st, re, rs, h⟩ => ?_⟩
  refine wpAny_Call_Name_kw (ld_glob I hg hm ?_ hdb)
  refine PySem.W.callWith_KW (h₀ := X.base) I.ok.mod.kin kp hall (thn (ha.run pos pins s σ H (fun vs H1 => tOf X.K E (fun g H ds vs => RepDs X.K g H ds vs) mks σ H1 fun zs H2 => vs.length = n ∧ zs.length = ks.length ∧ (pickL perm (vs ++ zs)).length = ps.length ∧ spF X.K F (pickL perm (vs ++ zs)) H2 Q E) I
    ⟨g, env, st, re, rs, Post.bind h fun g1 H1 ds s1 vs t rs1 rd h1 => ⟨g1, env, s1, re.step t, rs1, Post.bind h1 fun g2 H2 zs s2 ws t2 rs2 rz h2 => ?_⟩⟩) fun us s1 ⟨vs, H1, I1, r, q⟩ => ?_) hpl he
  · obtain ⟨⟨l1, l2, l3⟩, h2⟩ := if_bad h2
    have ra := reps_pick ((RepDs.step t2 rd).app rz) perm
    exact ⟨by rw [← rd.len]; exact l1, by rw [← rz.len]; exact l2, by rw [← ra.len]; exact l3, g2, s2, _, rs2, ra, h2⟩
  · refine thn (hk.run pos pins s1 σ H1 _ I1 q) fun ws s2 ⟨zs, H2, I2, rz, l1, l2, l3, q2⟩ => ⟨I2.kIn, ?_⟩
    rw [hks]
    exact run_fnG (us0 := us) (kw := ks.zip ws) Fn hr hgd hx (hb.to s2 us ws I2.kIn (by rw [← r.length]; exact l1) (by rw [← rz.length]; exact l2)) I2 (vals_pick (r.append rz) perm) l3 q2
theorem se_fnK0 (Fn : FnG X.prog X.w X.K X.mg X.base k f fd ps F) (hr : Room k X.A) (hgd : X.A.guards = some []) (hm : X.mg x = some (.ref f)) (kp : PySem.W.keepIn X.K (.ref f) = true) (hb : KB X.K fd ps ks 0 perm)
    (hx : Passes (L2.CX X.prog X.w) X E) (hk : SK X E kws mks) (hg : Gl X x := by rfl) (hall : (backToKw pos (keywordEach kws X.env)).all (·.1.isSome) = true := by rfl) (hks : (backToKw pos (keywordEach kws X.env)).filterMap (·.1) = ks := by rfl)
    (hdb : (x == ("__debug__" : Str)) = false := by decide) (hpl : ((backTo pos (starEach [] X.env)).any (·.1) || (backToKw pos (keywordEach kws X.env)).any (·.1.isNone)) = false := by rfl) :
    SE X E (.Call (.Name x p) [] kws pos) (mFnK ps.length perm F mNil mks 0 ks.length) := by
  refine ⟨fun pins s σ H Q I ⟨g, env, st, re, rs, h⟩ => ?_⟩
  refine wpAny_Call_Name_kw (ld_glob I hg hm ?_ hdb)
  have h : Post X.K E (relD X.K) g H Q ((mks env st).bind fun zs s2 => if ([] : List D).length = 0 ∧ zs.length = ks.length ∧ (pickL perm ([] ++ zs)).length = ps.length then F (pickL perm ([] ++ zs)) s2 else .bad) := h
  refine PySem.W.callWith_KW0 (h₀ := X.base) I.ok.mod.kin kp hall (thn (hk.run pos pins s σ H (fun zs H2 => zs.length = ks.length ∧ (pickL perm zs).length = ps.length ∧ spF X.K F (pickL perm zs) H2 Q E) I ⟨g, env, st, re, rs, Post.bind h fun g2 H2 zs s2 ws t2 rs2 rz h2 => ?_⟩) fun ws s2 ⟨zs, H2, I2, rz, l2, l3, q2⟩ => ⟨I2.kIn, ?_⟩) hpl
  · obtain ⟨⟨_, l2, l3⟩, h2⟩ := if_bad h2
    have ra := reps_pick rz perm
    exact ⟨by rw [← rz.len]; exact l2, by rw [← ra.len]; exact l3, g2, s2, _, rs2, ra, h2⟩
  · rw [hks]
    exact run_fnG (us0 := []) (kw := ks.zip ws) Fn hr hgd hx (hb.to s2 [] ws I2.kIn rfl (by rw [← rz.length]; exact l2)) I2 (vals_pick rz perm) l3 q2
end
end PL

namespace PL
open PySem PySem.Spec L2
open PyProof.Rows hiding St
/-- the abstract heap at the law's entry: the script alone, as it stands -/
def scriptH (a : Addr) (ob : Obj) (xs : List V) : Hp := fun b => if b = a then some (.frz ob (.lst xs)) else none
theorem rep_ints {K : PySem.W.Frag} {g : G} {H : Hp} : ∀ ns : List Int, RepTs K g H (ns.map PyData.int) (ns.map V.int)
  | [] => (rfl : _ = _)
  | n :: ns => ⟨.int n, _, rfl, by simp [RepT], rep_ints ns⟩
theorem rel_nil {K : PySem.W.Frag} {H : Hp} : RelS K ⟨[], []⟩ H [] :=
  ⟨rfl, by simp, fun n a o h _ => by simp at h, fun a h => by cases h⟩
section
variable {P : Program} {w : World} {K : PySem.W.Frag} {mg mb : Str → Option Value} {k : Nat} {fa a : Addr} {fd : FuncData} {x : Str} {F : List D → Sto → R D} {s : Shared} {vs : List Value} {ns : List Int}
/-- the run of the law's def from an abstract heap Hh, under which the ground g0 is laid -/
theorem law_from {g0 : Heap} {Hh : Hp} (Fn : FnG P w K mg g0 k fa fd [x] F) (hM : Mod K mg g0) (hb0 : ∀ b o, g0.get? b = some o → s.heap.get? b = some o ∧ Hh b = none) (hsz : g0.objs.size ≤ s.heap.objs.size) (hok : HOk P w Hh s.heap) (hg : s.gens = #[])
    (hbi : BindsTo s fd ⟨[.ref a], []⟩ [(x, .ref a)]) (hr : Room k callerA) (hro : RoL K Hh a (ns.map V.int)) (hF : ∃ st, F [.rol (ns.map PyData.int)] [] = .ok (.v (.bool true)) st)
    (keep : ∀ b o, s.heap.get? b = some o → Hh b = none ∨ ∃ ob xs, Hh b = some (.frz ob (.lst xs))) :
    codeAny (model P w) callerA (.call (.ref fa) ⟨[.ref a], []⟩) (fun r s' => r = .ok (.ret (.bool true)) ∧ OldK s.heap s'.heap ∧ s'.os = s.os ∧ AllBare s'.gens) s := by
  have e0 : Env0 P w K mg g0 callerA [] s Hh := ⟨rfl, hM, hb0, hsz, trivial, fun b hb => absurd (show b ∈ ([] : List Addr) from hb) (by simp), hok, .of_eq hg⟩
  obtain ⟨st, hF⟩ := hF
  refine codeAny_mono (Fn.run callerA [] s Hh ⟨[.ref a], []⟩ [.ref a] [.ref a] (fun v _ => v = .bl true) (fun _ _ _ => False) hr rfl e0 hbi (.cons rfl .nil) rfl ⟨⟨[], []⟩, [], [.rol (ns.map PyData.int)], rel_nil, ⟨.ref a, [], rfl, ⟨a, _, rfl, hro, rep_ints ns⟩, rfl⟩, ?_⟩) fun r s' h => ?_
  · rw [hF]
    exact fun g' H' v _ _ rd => rep_bool rd
  · match r, h with
    | .error e, h =>
      obtain ⟨_, _, _, _, _, _, _, _, _, _, _, _, z⟩ := h
      exact z.elim
    | .ok (.ret u), h =>
      obtain ⟨v, H', hos, bare, un, hok', rv, q⟩ := h
      have q' : v = .bl true := q
      subst q'
      obtain rfl : u = Value.bool true := rv
      refine ⟨rfl, OldK.of_keep fun b o e => ?_, hos, bare⟩
      rcases keep b o e with n | ⟨ob, xs, z⟩
      · exact un.keep b o e n (fun m => absurd (show b ∈ ([] : List Addr) from m) (by simp)) (by simp)
      · have e1 := (hok b _ z).1
        have e2 := (hok' b _ (un.frzs b ob _ z)).1
        rw [e] at e1; cases e1
        exact e2
theorem law_PL (KX : K.In s.heap) (hns : s.heap.Ns mainGlobals mg) (hb : s.heap.Ns builtinsNs mb) (hbb : ∀ x : Str, x ≠ "__name__" → mb x = bootBuiltins x) (hlim : s.heap.NoLimit) (hg : s.gens = #[])
    (ha : s.heap.get? a = some { cls := .type "list", data := .seq vs.toArray }) (hi : IntsAre vs ns) (hl : ns.length ≤ sizeLine) (hr : Room k callerA)
    (Fn : ∀ base : Heap, K.In base → base.Ns mainGlobals mg → FnG P w K mg base k fa fd [x] F) (hbi : ∀ (s : Shared) (u : Value), BindsTo s fd ⟨[u], []⟩ [(x, u)])
    (hF : ∃ st, F [.rol (ns.map PyData.int)] [] = .ok (.v (.bool true)) st) :
    codeAny (model P w) callerA (.call (.ref fa) ⟨[.ref a], []⟩) (fun r s' => r = .ok (.ret (.bool true)) ∧ OldK s.heap s'.heap ∧ s'.os = s.os ∧ AllBare s'.gens) s := by
  have rv := vals_ints hi
  have lv := hi.length
  have base : ∀ Hh : Hp, (∀ b, Hh b ≠ none → b = a) → (Hh a ≠ none → K.lookup a = none) → HOk P w Hh s.heap → RoL K Hh a (ns.map V.int) → (∀ b, Hh b = none ∨ ∃ ob xs, Hh b = some (.frz ob (.lst xs))) →
      codeAny (model P w) callerA (.call (.ref fa) ⟨[.ref a], []⟩) (fun r s' => r = .ok (.ret (.bool true)) ∧ OldK s.heap s'.heap ∧ s'.os = s.os ∧ AllBare s'.gens) s := by
    intro Hh only inK hok hro all
    have dictFree : ∀ {b : Addr} {o : Obj} {es : Array DictEntry} {ep : Nat}, s.heap.get? b = some o → o.data = .dict es ep → Hh b = none := by
      intro b o es ep e d
      cases q : Hh b with
      | none => rfl
      | some u =>
        obtain rfl := only b (by rw [q]; simp)
        rw [ha] at e; cases e; cases d
    have ns' : ∀ {b : Addr} {m : Str → Option Value}, s.heap.Ns b m → (hidT s.heap Hh).Ns b m := fun ⟨o, es, ep, e, d, r⟩ => ⟨o, es, ep, hidT_get e (dictFree e d), d, r⟩
    have kin : K.In (hidT s.heap Hh) := fun b o e => hidT_get (KX b o e) (by
      cases q : Hh b with
      | none => rfl
      | some u =>
        obtain rfl := only b (by rw [q]; simp)
        rw [inK (by rw [q]; simp)] at e; cases e)
    obtain ⟨mc, c1, c2⟩ := hlim
    exact law_from (Fn _ kin (ns' hns)) ⟨kin, ns' hns, ⟨mb, ns' hb, hbb⟩, ⟨mc, ns' c1, c2⟩⟩ (fun b o e => of_hidT e) (Nat.le_of_eq (hidT_size _ _)) hok hg (hbi s (.ref a)) hr hro hF fun b o _ => all b
  by_cases hk : K.lookup a = none
  · refine base (scriptH a { cls := .type "list", data := .seq vs.toArray } (ns.map V.int)) (fun b hb => ?_) (fun _ => hk) (fun b u e => ?_) (.inl ⟨_, if_pos rfl⟩) fun b => ?_
    · by_cases e : b = a
      · exact e
      · exact absurd (if_neg e) hb
    · unfold scriptH at e
      split at e
      · rename_i eb
        cases e; subst eb
        exact ⟨ha, by rw [List.length_map]; exact hl, vs, _, rv, ha⟩
      · cases e
    · unfold scriptH
      split
      · exact .inr ⟨_, _, rfl⟩
      · exact .inl rfl
  · obtain ⟨o, ho⟩ := Option.ne_none_iff_exists'.mp hk
    have e := KX a o ho
    rw [ha] at e; cases e
    refine base (fun _ => none) (fun b z => absurd rfl z) (fun z => absurd rfl z) (fun b u e => by cases e) (.inr fun H' => .inr ⟨_, vs.toArray, _, ho, rfl, rfl, rfl, by rw [List.size_toArray, lv]; exact hl, by simpa using rv⟩) fun b => .inl rfl
end
theorem walk_PL {l : PySem.W.OpenLaw} {n k : Nat} {q : Program} {loose : List Str} {XP : (Str → Option Value) → Heap → Prop} {YP : World → Heap → Prop} {d : DefRec} {x : Str} (hn : l.most = some n) (hn2 : n ≤ sizeLine) (hdf : d.params.defaults = []) (hr : Room k callerA)
    (Fn : ∀ (w : World) (mg : Str → Option Value) (fa : Addr) (h : Heap), YP w h → h.Ns mainGlobals mg → mg d.name = some (.ref fa) → ∃ (K : PySem.W.Frag) (fd : FuncData) (F : List D → Sto → R D), K.In h ∧ (∀ (s : Shared) (u : Value), BindsTo s fd ⟨[u], []⟩ [(x, u)]) ∧
      (∀ ns : List Int, ns.length ≤ n → ∃ st, F [.rol (ns.map PyData.int)] [] = .ok (.v (.bool true)) st) ∧ ∀ base : Heap, K.In base → base.Ns mainGlobals mg → FnG l.prog w K mg base k fa fd [x] F) :
    PySem.W.WalkO q loose XP YP l.row.toRowW d [] (fun f vs => PySem.call f vs) :=
  Att.attach_call hn hdf fun w s₀ s₁ mg mb fa o pm cd doc a vs ns G Y ho hd hcd hmg hobj hints hlen hg => by
    obtain ⟨K, fd, F, KX, hb, hF, hG⟩ := Fn w mg fa _ Y G.T.g hmg
    exact law_PL KX G.T.g G.T.b G.T.builtins G.T.nolimit hg hobj hints (Nat.le_trans hlen hn2) hr hG hb (hF ns hlen)
end PL

namespace PL
open PySem PySem.Spec L2
open PyProof.Rows hiding St
/-! ### subscripts -/
def cpsS (z : Str) (i : Int) : Option T := (atI z.cps.toList i).map fun c => .str ⟨#[c]⟩
def opIx (x y : D) (st : Sto) : R D := match x, y with
  | .v (.str z), .v (.int i) => match cpsS z i with
    | some t => if z.length ≤ sizeLine then .ok (.v t) st else .bad
    | none => .bad
  | x, .v (.int i) => match asSeq st x with
    | some ts => match atI ts i with
      | some t => .ok (.v t) st
      | none => .bad
    | none => .bad
  | _, _ => .bad
theorem RepTs.atI {K : PySem.W.Frag} {g : G} {H : Hp} {ts : List T} {vs : List V} (r : RepTs K g H ts vs) {i : Int} {t : T} (e : L2.atI ts i = some t) : ∃ v, L2.atI vs i = some v ∧ RepT K g H t v := by
  unfold L2.atI at e ⊢
  rw [← r.length]
  cases q : ixN ts.length i with
  | none => rw [q] at e; cases e
  | some j =>
    rw [q] at e
    exact r.get e
theorem os_ix {K : PySem.W.Frag} {E : XK} : OpS K E (rIx K) opIx := by
  intro g H st x y v u Q rs rx ry h
  unfold opIx at h
  split at h
  · split at h
    · rename_i t e
      obtain ⟨hz, h⟩ := if_bad h
      obtain rfl := rep_str rx
      obtain rfl := rep_int ry
      obtain ⟨c, e1, rfl⟩ := Option.map_eq_some_iff.mp e
      exact .inr (.inr ⟨_, _, c, rfl, rfl, hz, e1, Post.at rs (rep_v.2.2.2 _) h⟩)
    · exact h.elim
  · split at h
    · rename_i ts e1
      split at h
      · rename_i t e2
        obtain rfl := rep_int ry
        obtain ⟨a, vs, rfl, hq, r⟩ := asSeq_ok e1 rs rx
        obtain ⟨w, e3, rw'⟩ := r.atI e2
        rcases hq with hq | hq
        · exact .inl ⟨a, vs, _, w, rfl, rfl, hq, e3, Post.at (d := .v t) rs rw' h⟩
        · exact .inr (.inl ⟨a, vs, _, w, rfl, rfl, hq, e3, Post.at (d := .v t) rs rw' h⟩)
      · exact h.elim
    · exact h.elim
  · exact h.elim
section
variable {X : Cx} {E : XK} {pos p2 : Pos} {a b : Expr} {ma mb : ME D}
theorem se_ix (ha : SE X E a ma) (hb : SE X E b mb) (hs : PlainIx b := by intro _ _; rfl) : SE X E (.Subscript a b pos) (mBin opIx ma mb) := PE.mono (pe_ix ix_seq ha hb hs) fun _ _ _ h => t_bin os_ix h
/-! ### slices -/
abbrev MO' := EnvD → Sto → R (Option Int)
abbrev relO : G → Hp → Option Int → Option Int → Prop := fun _ _ b c => b = c
def toOf (K : PySem.W.Frag) (E : XK) (m : MO') : TO := tOf K E relO m
def SO (X : Cx) (E : XK) (e : Option Expr) (m : MO') : Prop := PO X e (toOf X.K E m)
theorem PO.mono {e : Option Expr} {t t' : TO} (h : PO X e t) (f : ∀ σ H Q, t' σ H Q → t σ H Q) : PO X e t' :=
  ⟨fun pins s σ H Q I hw => h.run pins s σ H Q I (f σ H Q hw)⟩
def mNoP : MO' := fun _ st => .ok none st
def mPart (m : ME D) : MO' := fun env st => (m env st).bind fun d s1 => match d with
  | .v (.int i) => .ok (some i) s1
  | _ => .bad
theorem so_none : SO X E none mNoP := PO.mono po_none fun σ H Q ⟨g, env, st, re, rs, h⟩ => h g H _ (Step.refl g H) rs rfl
theorem so_some (ha : SE X E a ma) : SO X E (some a) (mPart ma) := by
  refine PO.mono (po_some ha) fun σ H Q ⟨g, env, st, re, rs, h⟩ => ⟨g, env, st, re, rs, Post.bind h fun g1 H1 d s1 v s rs1 rd h1 => ?_⟩
  split at h1
  · obtain rfl := rep_int rd
    exact ⟨_, rfl, h1 g1 H1 _ (Step.refl g1 H1) rs1 rfl⟩
  · exact h1.elim
def cutT {α : Type} (xs : List α) (lo hi : Option Int) : List α := (xs.drop (HT.sIx xs.length 0 lo)).take (HT.sIx xs.length xs.length hi - HT.sIx xs.length 0 lo)
theorem cutT_all {α : Type} {xs : List α} {lo hi : Option Int} (h : HT.sIx xs.length 0 lo = 0 ∧ HT.sIx xs.length xs.length hi = xs.length) : cutT xs lo hi = xs := by
  unfold cutT
  rw [h.1, h.2]; simp
theorem RepTs.cut {K : PySem.W.Frag} {g : G} {H : Hp} {ts : List T} {vs : List V} (r : RepTs K g H ts vs) (lo hi : Option Int) : RepTs K g H (cutT ts lo hi) (cutV vs lo hi) := by
  unfold cutT cutV
  rw [r.length]
  exact (r.drop _).take _
def opSl (x : D) (lo hi : Option Int) (st : Sto) : R D := match x with
  | .v (.str z) => if z.length ≤ sizeLine then .ok (.v (.str (cutS z lo hi))) st else .bad
  | .v (.tuple ts) => .ok (.v (.tuple (cutT ts lo hi))) st
  | x => match asL st x with
    | some ts => .ok (.v (.list (cutT ts lo hi))) st
    | none => .bad
def mSlice (a : ME D) (l h : MO') : ME D := fun env st => (a env st).bind fun x s1 => (l env s1).bind fun lo s2 => (h env s2).bind fun hi s3 => opSl x lo hi s3
variable {lo hi : Option Expr} {ml mh : MO'}
abbrev rSlAll (K : PySem.W.Frag) : V → Option Int → Option Int → Hp → VK → Prop := fun x l h H Q => rSlA K x l h H Q ∨ (rSlL K x l h H Q ∨ rSlS x l h H Q)
theorem se_slice (ha : SE X E a ma) (hl : SO X E lo ml) (hh : SO X E hi mh) : SE X E (.Subscript a (.Slice lo hi none p2) pos) (mSlice ma ml mh) := by
  refine PE.mono (pe_slice (r := rSlAll X.K) (sl_tupA.or (sl_list.or sl_str)) ha hl hh) fun σ H Q ⟨g, env, st, re, rs, h⟩ => ⟨g, env, st, re, rs, Post.bind h fun g1 H1 x s1 v t1 rs1 rx h1 => ?_⟩
  refine ⟨g1, env, s1, re.step t1, rs1, Post.bind h1 fun g2 H2 l s2 l' t2 rs2 rl h2 => ?_⟩
  cases rl
  refine ⟨g2, env, s2, (re.step t1).step t2, rs2, Post.bind h2 fun g3 H3 u s3 u' t3 rs3 ru h3 => ?_⟩
  cases ru
  have rx3 := (rx.step t2).step t3
  unfold opSl at h3
  split at h3
  · obtain ⟨hz, h3⟩ := if_bad h3
    obtain rfl := rep_str rx3
    exact .inr (.inr ⟨_, rfl, hz, Post.at rs3 (rep_v.2.2.2 _) h3⟩)
  · obtain ⟨b, vs, rfl, tb, rb⟩ := rep_tup rx3
    refine .inl ⟨b, vs, rfl, tb.sq, fun hw => ?_, fun _ p hp => Post.newT rs3 hp (rb.cut _ _) h3⟩
    rw [← rb.length] at hw
    rw [cutT_all hw] at h3
    exact Post.at rs3 rx3 h3
  · split at h3
    · rename_i ts e
      obtain ⟨b, vs, rfl, tb, rb⟩ := asL_ok e rs3 rx3
      exact .inr (.inl ⟨b, vs, rfl, tb, fun p hp => Post.newL rs3 hp (rb.cut _ _) h3⟩)
    · exact h3.elim
end
/-! ### turned round: x[::-1] -/
section
variable {prog : Program} {w : World} {A : Around} {E : Value → Shared → Prop} {s : Shared}
theorem turn_adjust (n : Nat) : Builtin.Slice.sliceAdjust none none (-1) (n : Int) = ((n : Int) - 1, -1) := by
  unfold Builtin.Slice.sliceAdjust
  simp
theorem turn_places (n : Nat) : Builtin.Slice.slicePlaces ((n : Int) - 1) (-1) (-1) = n := by
  unfold Builtin.Slice.slicePlaces
  have h1 : ¬ ((-1 : Int) > 0) := by omega
  simp only [h1, if_false]
  by_cases h : ((n : Int) - 1) > -1
  · simp only [h, if_true]
    show ((((n : Int) - 1 - -1 - 1) / 1 + 1).toNat) = n
    rw [Int.ediv_one]; omega
  · simp only [h, if_false]; omega
theorem turn_applied {sl : Addr} {t : Tok} {n : Nat} {Q : Int × Int × Nat → Shared → Prop} (hs : s.heap.IsSliceOf sl .none .none (.int (-1) t))
    (h : Q ((n : Int) - 1, -1, n) s) : wpAny (model prog w) A (Builtin.Slice.sliceApplied (.ref sl) (pure (n : Int))) Q E s := by
  obtain ⟨os, hos, hcs, hds⟩ := id hs
  unfold Builtin.Slice.sliceApplied Builtin.Slice.sliceFields
  refine wpAny_bind (wpAny_bind (wpAny_field hos hds (x := .none) rfl (wpAny_bind (wpAny_field hos hds (x := .none) rfl (wpAny_bind (wpAny_field hos hds (x := .int (-1) t) rfl (wpAny_pure ?_)))))))
  refine wpAny_bind (HT.slicePart_ (.int (-1) t) ?_)
  show wpAny _ _ (if ((-1 : Int) == 0) = true then _ else _) _ _ s
  rw [if_neg (by decide)]
  refine wpAny_bind (HT.slicePart_ .none (wpAny_bind (HT.slicePart_ .none (wpAny_bind (wpAny_pure ?_)))))
  show wpAny _ _ (match Builtin.Slice.sliceAdjust none none (-1) (n : Int) with | (lo, hi) => pure (lo, (-1 : Int), Builtin.Slice.slicePlaces lo hi (-1))) _ _ s
  rw [turn_adjust n]
  show wpAny _ _ (pure ((n : Int) - 1, (-1 : Int), Builtin.Slice.slicePlaces ((n : Int) - 1) (-1) (-1))) _ _ s
  rw [turn_places]
  exact wpAny_pure h
theorem turn_pick (xs : List Value) : ((List.range xs.length).filterMap fun (m : Nat) => xs.toArray[(((xs.length : Int) - 1) + (m : Int) * (-1)).toNat]?) = xs.reverse := by
  have h : ∀ n : Nat, n ≤ xs.length → ((List.range n).filterMap fun (m : Nat) => xs.toArray[(((xs.length : Int) - 1) + (m : Int) * (-1)).toNat]?) = xs.reverse.take n := by
    intro n
    induction n with
    | zero => intro _; simp
    | succ n ih =>
      intro hn
      rw [List.range_succ, List.filterMap_append, ih (by omega)]
      have e : (((xs.length : Int) - 1) + (n : Int) * (-1)).toNat = xs.length - 1 - n := by omega
      have hi : xs.length - 1 - n < xs.length := by omega
      have hr : n < xs.reverse.length := by simp; omega
      rw [List.take_succ, List.getElem?_eq_getElem hr, List.getElem_reverse]
      simp only [List.filterMap_cons, List.filterMap_nil, e, List.getElem?_toArray, List.getElem?_eq_getElem hi]
      rfl
  rw [h xs.length (Nat.le_refl _)]
  exact List.take_of_length_le (by simp)
theorem getItem_turned {t sl : Addr} {k : Tok} {items : List Value} {Q : Value → Shared → Prop} (ht : IsTup s.heap t items.toArray) (hs : s.heap.IsSliceOf sl .none .none (.int (-1) k))
    (h : Q (.ref s.heap.objs.size) { s with heap := s.heap.push { cls := .type "tuple", data := .seq items.reverse.toArray } })
    (hsz : items.length ≤ sizeLine) : wpAny (model prog w) A (getItem (.ref t) (.ref sl)) Q E s := by
  have htake : sizeOk (.seq items.reverse.toArray) := by
    show items.reverse.toArray.size ≤ sizeLine
    simpa using hsz
  obtain ⟨os, hos, hcs, hds⟩ := id hs
  have hTs : s.TypeIs (.ref sl) "slice" := ⟨os, hos, hcs⟩
  unfold getItem
  try with_reducible refine wpAny_holding ?_
  first | refine wpAny_bind (wpAny_pure ?_) | skip
  refine wpAny_bind (wpAny_sequenceKey ht.typeIs (by decide) ?_)
  refine wpAny_bind (wpAny_callSpecial?_slot (name := Str.ofString "__getitem__") ht.typeIs PyProof.Rows.slot_tuple_getitem
    (wpAny_call_entry PyProof.Rows.slot_tuple_getitem ht.typeIs PyProof.Rows.entry_tuple_getitem ?_ (PyProof.Rows.args_tuple_getitem _ _)))
  show wpAny _ _ (Builtin.Tuple.tupleItemsOf (.ref t) >>= _) _ _ s
  refine wpAny_bind (PyProof.Rows.tupleItemsOf_ ht ?_)
  refine wpAny_bind (wpAny_typeOf hTs ?_)
  rw [if_pos (by decide)]
  refine wpAny_bind (turn_applied hs ?_)
  have hno : ¬ ((((items.toArray.size : Int) - 1) == 0 && (-1 : Int) == 1 && items.toArray.size == items.toArray.size) = true) := by
    simp
  show wpAny _ _ (if (((items.toArray.size : Int) - 1) == 0 && (-1 : Int) == 1 && items.toArray.size == items.toArray.size) = true then _ else _) _ _ s
  have ep : ((List.range items.toArray.size).filterMap fun (m : Nat) => items.toArray[(((items.toArray.size : Int) - 1) + (m : Int) * (-1)).toNat]?) = items.reverse := by
    have := turn_pick items
    simpa using this
  rw [if_neg hno]
  rw [ep]
  first
    | exact wpAny_bind (m := Builtin.Tuple.tupleExact _) (wpAny_newObj_type (wpAny_pure ⟨_, rfl, wpAny_pure h⟩) htake)
    | exact wpAny_bind (m := Builtin.Tuple.tupleExact _) (wpAny_newObj_type (wpAny_bind (wpAny_pure (wpAny_pure ⟨_, rfl, wpAny_pure h⟩))) htake)
    | exact wpAny_bind (wpAny_bind (m := Builtin.Tuple.tupleExact _) (wpAny_newObj_type (wpAny_pure (wpAny_pure ⟨_, rfl, wpAny_pure h⟩)) htake))
    | exact wpAny_bind (wpAny_bind (m := Builtin.Tuple.tupleExact _) (wpAny_newObj_type (wpAny_pure ⟨_, rfl, wpAny_pure h⟩) htake))
end
def opRev (x : D) (st : Sto) : R D := match x with
  | .v (.tuple ts) => .ok (.v (.tuple ts.reverse)) st
  | x => match asL st x with
    | some ts => .ok (.v (.list ts.reverse)) st
    | none => .bad
def tTurn (K : PySem.W.Frag) (te : TE) : TE := fun σ H Q => te σ H fun x H1 => (∃ a xs, x = .ref a ∧ SqL K H1 a xs ∧ ∀ p, H1 p = none → Q (.ref p) (upd H1 p (.lst xs.reverse))) ∨ (∃ a xs, x = .ref a ∧ SqT K H1 a xs ∧ ∀ p, H1 p = none → Q (.ref p) (upd H1 p (.tup xs.reverse)))
theorem pe_turn {X : Cx} {e : Expr} {te : TE} {k : Nat} {p1 p2 p3 pos : Pos} (he : PE X e te) : PE X (.Subscript e (.Slice none none (some (.UnaryOp .USub (.Constant (.int 1) k p1) p2)) p3) pos) (tTurn X.K te) := by
  refine ⟨fun pins s σ H Q I h => ?_⟩
  refine Subscript_ (thn (he.run pins s σ H _ I h) fun v s1 ⟨x, H1, I1, r1, q1⟩ => ?_)
  have hst : PO X (some (.UnaryOp .USub (.Constant (.int 1) k p1) p2)) (tPart (tUn (rU fun i => .int (-i)) (tC (.int 1)))) := po_some (pe_un un_neg pe_int)
  refine wpAny_Slice (thn (po_none.run pins s1 σ H1 (fun o H2 => o = none ∧ H2 = H1) I1 ⟨rfl, rfl⟩) fun vl s2 ⟨l, H2, I2, pl, el, e2⟩ => ?_)
  subst el e2
  refine thn (po_none.run pins s2 σ H2 (fun o H3 => o = none ∧ H3 = H2) I2 ⟨rfl, rfl⟩) fun vu s3 ⟨u, H3, I3, pu, eu, e3⟩ => ?_
  subst eu e3
  refine thn (hst.run pins s3 σ H3 (fun o H4 => o = some (-1) ∧ H4 = H3) I3 ⟨1, rfl, -1, rfl, rfl, rfl⟩) fun vs s4 ⟨o, H4, I4, ps, eo, e4⟩ => ?_
  subst eo e4
  cases pl
  cases pu
  cases ps with
  | int _ tk =>
  have I5 : Inv X pins σ H4 { s4 with heap := s4.heap.push { cls := .type "slice", data := .fields #[.none, .none, .int (-1) tk] } } := I4.kept (t' := s4.toks) fun b ob q => Heap.get?_push_of_some _ q
  rcases q1 with ⟨a, xs, ex, hx, q⟩ | ⟨a, xs, ex, hx, q⟩
  · subst ex
    cases r1
    obtain ⟨its, r, ht, hz⟩ := I5.list hx
    have hlen := r.length
    show wpAny (model X.prog X.w) X.A (subscriptTail e (.Slice none none (some (.UnaryOp .USub (.Constant (.int 1) k p1) p2)) p3) (.ref a) (.ref s4.heap.objs.size)) (EP X pins σ Q) X.xe { s4 with heap := s4.heap.push { cls := .type "slice", data := .fields #[.none, .none, .int (-1) tk] } }
    refine tail_any (ops := [.ref a, .ref s4.heap.objs.size]) ht.isList.typeIs (PySem.slot_list_getitem.lookup) ?_ (by with_unfolding_all rfl)
    refine wpAny_getItem_list_slice ht.isList (Heap.IsSliceOf.new _ .none .none (.int (-1) tk)) .none .none (.int (-1) tk) (by decide) ?_ (by rw [List.size_toArray]; omega)
    rw [PySem.W.krv_pick]
    refine ⟨.ref _, _, I5.laid (t' := s4.toks) (o := .lst xs.reverse) (fun b ob q => Heap.get?_push_of_some _ q) (Nat.le_refl _) ?_, rfl, q _ (I5.hok.fresh (Nat.le_refl _))⟩
    exact ⟨by rw [List.length_reverse]; exact hz, _, 0, r.reverse, Heap.get?_push_size _ rfl⟩
  · subst ex
    cases r1
    obtain ⟨its, r, ht, hz⟩ := I5.tuple hx
    have hlen := r.length
    show wpAny (model X.prog X.w) X.A (subscriptTail e (.Slice none none (some (.UnaryOp .USub (.Constant (.int 1) k p1) p2)) p3) (.ref a) (.ref s4.heap.objs.size)) (EP X pins σ Q) X.xe { s4 with heap := s4.heap.push { cls := .type "slice", data := .fields #[.none, .none, .int (-1) tk] } }
    refine tail_any (ops := [.ref a, .ref s4.heap.objs.size]) ht.typeIs PyProof.Rows.slot_tuple_getitem.lookup ?_ (by with_unfolding_all rfl)
    refine getItem_turned ht (Heap.IsSliceOf.new _ .none .none (.int (-1) tk)) ?_ (by omega)
    refine ⟨.ref _, _, I5.laid (t' := s4.toks) (o := .tup xs.reverse) (fun b ob q => Heap.get?_push_of_some _ q) (Nat.le_refl _) ?_, rfl, q _ (I5.hok.fresh (Nat.le_refl _))⟩
    exact ⟨by rw [List.length_reverse]; exact hz, _, r.reverse, IsTup.new _ _⟩
theorem se_turn {X : Cx} {E : XK} {e : Expr} {me : ME D} {k : Nat} {p1 p2 p3 pos : Pos} (he : SE X E e me) : SE X E (.Subscript e (.Slice none none (some (.UnaryOp .USub (.Constant (.int 1) k p1) p2)) p3) pos) (mUn opRev me) := by
  refine PE.mono (pe_turn he) fun σ H Q ⟨g, env, st, re, rs, h⟩ => ⟨g, env, st, re, rs, Post.bind h fun g1 H1 x s1 v s rs1 rx h1 => ?_⟩
  unfold opRev at h1
  split at h1
  · obtain ⟨b, vs, rfl, tb, rb⟩ := rep_tup rx
    exact .inr ⟨b, vs, rfl, tb.sq, fun p hp => Post.newT rs1 hp rb.reverse h1⟩
  · split at h1
    · rename_i ts e
      obtain ⟨b, vs, rfl, tb, rb⟩ := asL_ok e rs1 rx
      exact .inl ⟨b, vs, rfl, tb, fun p hp => Post.newL rs1 hp rb.reverse h1⟩
    · exact h1.elim
/-! ### in, not in -/
section
variable {X : Cx} {E : XK} {pos : Pos} {a b : Expr} {ma mb : ME D}
/-- the items of a list or a tuple as data: is it a tuple? -/
def rInB (K : PySem.W.Frag) (neg : Bool) : R2 := fun x y H Q => ∃ d ds, Dp K H x d ∧ (Dp K H y (.list ds) ∧ SeqAt.shaped (.list ds) = true ∨ Dp K H y (.tuple ds) ∧ SeqAt.shaped (.tuple ds) = true) ∧ SeqAt.shaped d = true ∧ Q (.bl (if neg then !ds.any (fun z => PyData.eqv z d) else ds.any fun z => PyData.eqv z d)) H
theorem op_inB (hu : X.A.units + 65 < cLine) : OpR X (compareOp .In) (rInB X.K false) := by
  intro pins s σ H x y v u Q I rx ry h
  obtain ⟨d, ds, hd, he, sd, q⟩ := h
  obtain ⟨as, r1⟩ := Dp.reads I d x v hd rx
  rcases he with ⟨he, se⟩ | ⟨he, se⟩
  · obtain ⟨bs, r2⟩ := Dp.reads I (.list ds) y u he ry
    exact SeqAt.in_list_reads r2 r1 (SeqAt.canLay_of_shaped se) (SeqAt.canLay_of_shaped sd) (room_in_shaped sd hu) ⟨.bl _, H, I, rfl, q⟩
  · obtain ⟨bs, r2⟩ := Dp.reads I (.tuple ds) y u he ry
    exact SeqAt.in_tuple_reads r2 r1 (SeqAt.canLay_of_shaped se) (SeqAt.canLay_of_shaped sd) (room_in_shaped sd hu) ⟨.bl _, H, I, rfl, q⟩
theorem op_ninB (hu : X.A.units + 65 < cLine) : OpR X (compareOp .NotIn) (rInB X.K true) := by
  intro pins s σ H x y v u Q I rx ry h
  obtain ⟨d, ds, hd, he, sd, q⟩ := h
  obtain ⟨as, r1⟩ := Dp.reads I d x v hd rx
  rcases he with ⟨he, se⟩ | ⟨he, se⟩
  · obtain ⟨bs, r2⟩ := Dp.reads I (.list ds) y u he ry
    exact SeqAt.notIn_list_reads r2 r1 (SeqAt.canLay_of_shaped se) (SeqAt.canLay_of_shaped sd) (room_in_shaped sd hu) ⟨.bl _, H, I, rfl, q⟩
  · obtain ⟨bs, r2⟩ := Dp.reads I (.tuple ds) y u he ry
    exact SeqAt.notIn_tuple_reads r2 r1 (SeqAt.canLay_of_shaped se) (SeqAt.canLay_of_shaped sd) (room_in_shaped sd hu) ⟨.bl _, H, I, rfl, q⟩
def opInB (neg : Bool) (x y : D) (st : Sto) : R D := match toT st x, toT st y with
  | some t, some (.list ds) => if SeqAt.shaped t = true ∧ SeqAt.shaped (.list ds) = true then .ok (.v (.bool (if neg then !ds.any (fun z => PyData.eqv z t) else ds.any fun z => PyData.eqv z t))) st else .bad
  | some t, some (.tuple ds) => if SeqAt.shaped t = true ∧ SeqAt.shaped (.tuple ds) = true then .ok (.v (.bool (if neg then !ds.any (fun z => PyData.eqv z t) else ds.any fun z => PyData.eqv z t))) st else .bad
  | _, _ => .bad
abbrev opIn := opInB false
abbrev opNin := opInB true
theorem os_inB {K : PySem.W.Frag} {neg : Bool} : OpS K E (rInB K neg) (opInB neg) := by
  intro g H st x y v u Q rs rx ry h
  unfold opInB at h
  split at h
  · rename_i t ds e1 e2
    obtain ⟨⟨h1, h2⟩, h⟩ := if_bad h
    exact ⟨t, ds, toT_dp e1 rs rx h1, .inl ⟨toT_dp e2 rs ry h2, h2⟩, h1, Post.at rs (rep_v.2.1 _) h⟩
  · rename_i t ds e1 e2
    obtain ⟨⟨h1, h2⟩, h⟩ := if_bad h
    exact ⟨t, ds, toT_dp e1 rs rx h1, .inr ⟨toT_dp e2 rs ry h2, h2⟩, h1, Post.at rs (rep_v.2.1 _) h⟩
  · exact h.elim
theorem se_in (hu : X.A.units + 65 < cLine) (ha : SE X E a ma) (hb : SE X E b mb) (hm : behindInMarks .In b = false := by with_unfolding_all rfl) : SE X E (.Compare a [.In] [b] pos) (mBin opIn ma mb) := PE.mono (pe_cmpR (op_inB hu) ha hb hm) fun _ _ _ h => t_bin os_inB h
theorem se_nin (hu : X.A.units + 65 < cLine) (ha : SE X E a ma) (hb : SE X E b mb) (hm : behindInMarks .NotIn b = false := by with_unfolding_all rfl) : SE X E (.Compare a [.NotIn] [b] pos) (mBin opNin ma mb) := PE.mono (pe_cmpR (op_ninB hu) ha hb hm) fun _ _ _ h => t_bin os_inB h
theorem st_in (hu : X.A.units + 65 < cLine) (ha : SE X E a ma) (hb : SE X E b mb) (hm : behindInMarks .In b = false := by with_unfolding_all rfl) : ST X E (.Compare a [.In] [b] pos) (mCmpT opIn ma mb) := st_cmp os_inB (op_inB hu) ha hb hm
theorem st_nin (hu : X.A.units + 65 < cLine) (ha : SE X E a ma) (hb : SE X E b mb) (hm : behindInMarks .NotIn b = false := by with_unfolding_all rfl) : ST X E (.Compare a [.NotIn] [b] pos) (mCmpT opNin ma mb) := st_cmp os_inB (op_ninB hu) ha hb hm
end
end PL

namespace PL
open PySem PySem.Spec L2
open PyProof.Rows hiding St
/-! ### methods of lists -/
def OpM (K : PySem.W.Frag) (E : XK) (r : V → List V → Hp → VK → Prop) (f : D → List D → Sto → R D) : Prop :=
  ∀ (g : G) (H : Hp) (st : Sto) (x : D) (v : V) (ds : List D) (vs : List V) (Q : VK), RelS K g H st → RepD K g H x v → RepDs K g H ds vs → Post K E (relD K) g H Q (f x ds st) → r v vs H Q
def mMeth (f : D → List D → Sto → R D) (o : ME D) (as : ME (List D)) : ME D := fun env st => (o env st).bind fun x s1 => match asL s1 x with
  | some _ => (as env s1).bind fun ds s2 => f x ds s2
  | none => .bad
section
variable {X : Cx} {E : XK} {o e : Expr} {es : List Expr} {mo : ME D} {mas : ME (List D)} {name : Str} {apos cpos : Pos} {id : String} {r : V → List V → Hp → VK → Prop} {f : D → List D → Sto → R D}
theorem se_bm (hf : OpM X.K E r f) (slot : Slot "list" name id) (hty : typeOf (.builtin id) = pure (.type "method_descriptor")) (hm : MtR X id r) (ho : SE X E o mo) (ha : SA X E (e :: es) mas)
    (hbase : attributeBase o name X.env (eval o X.env) = eval o X.env := by rfl)
    (hfew : ((backTo cpos (starEach (e :: es) X.env)).all (fun x => !x.1) && (backToKw cpos (keywordEach [] X.env)).all (fun x => x.1.isSome)
      && decide ((e :: es).length + ([] : List Keyword).length + (if ([] : List Keyword).isEmpty then 0 else 1) < 30)) = true := by rfl)
    (hline : (apos.endLine == cpos.line) = true := by rfl) (hs : starEach (e :: es) X.env = (false, eval e X.env) :: starEach es X.env := by rfl) (hplain : (backTo cpos (starEach es X.env)).any (·.1) = false := by rfl) :
    SE X E (.Call (.Attribute o name apos) (e :: es) [] cpos) (mMeth f mo mas) := by
  refine PE.mono (pe_bm PySem.F.plainAttrs_list slot hty hm ho ha hbase hfew hline hs hplain) fun σ H Q ⟨g, env, st, re, rs, h⟩ => ⟨g, env, st, re, rs, Post.bind h fun g1 H1 x s1 v s rs1 rx h1 => ?_⟩
  split at h1
  · rename_i ts ex
    obtain ⟨a, vs, rfl, hq, _⟩ := asL_ok ex rs1 rx
    refine ⟨.inl ⟨rfl, vs, hq⟩, g1, env, s1, re.step s, rs1, Post.bind h1 fun g2 H2 ds s2 ws s' rs2 rd h2 => ?_⟩
    exact hf g2 H2 s2 x _ ds ws Q rs2 (rx.step s') rd h2
  · exact h1.elim
theorem se_bm0 (hf : OpM X.K E r f) (slot : Slot "list" name id) (hty : typeOf (.builtin id) = pure (.type "method_descriptor")) (hm : MtR X id r) (ho : SE X E o mo)
    (hbase : attributeBase o name X.env (eval o X.env) = eval o X.env := by rfl) (hline : (apos.endLine == cpos.line) = true := by rfl) :
    SE X E (.Call (.Attribute o name apos) [] [] cpos) (mMeth f mo mNil) := by
  refine PE.mono (pe_bm0 PySem.F.plainAttrs_list slot hty hm ho hbase hline) fun σ H Q ⟨g, env, st, re, rs, h⟩ => ⟨g, env, st, re, rs, Post.bind h fun g1 H1 x s1 v s rs1 rx h1 => ?_⟩
  split at h1
  · rename_i ts ex
    obtain ⟨a, vs, rfl, hq, _⟩ := asL_ok ex rs1 rx
    exact ⟨.inl ⟨rfl, vs, hq⟩, hf g1 H1 s1 x _ [] [] Q rs1 rx rfl h1⟩
  · exact h1.elim
end
/-- on the store's list -/
def onRef (k : Nat → List T → Sto → R D) (x : D) (st : Sto) : R D := match x with
  | .ref n => match st[n]? with
    | some (.lst ts) => k n ts st
    | _ => .bad
  | _ => .bad
section
variable {K : PySem.W.Frag} {E : XK} {g : G} {H : Hp} {st : Sto} {x : D} {v : V} {Q : VK} {k : Nat → List T → Sto → R D}
theorem on_ref (rs : RelS K g H st) (rx : RepD K g H x v) (h : Post K E (relD K) g H Q (onRef k x st)) : ∃ n a ts vs, x = .ref n ∧ v = .ref a ∧ g.ρ[n]? = some a ∧ st[n]? = some (.lst ts) ∧ H a = some (.lst vs) ∧ RepTs K g H ts vs ∧ Post K E (relD K) g H Q (k n ts st) := by
  unfold onRef at h
  split at h
  · rename_i n
    split at h
    · rename_i ts e
      obtain ⟨a, ea, rfl⟩ := rx
      obtain ⟨vs, hv, r⟩ := rs.lst ea e
      exact ⟨n, a, ts, vs, rfl, rfl, ea, e, hv, r, h⟩
    · exact h.elim
  · exact h.elim
/-- an end at a written list -/
theorem Post.wr {n : Nat} {a : Addr} {ts' : List T} {vs vs' : List V} {d : D} {u : V} (rs : RelS K g H st) (ha : g.ρ[n]? = some a) (hv : H a = some (.lst vs)) (r : RepTs K g H ts' vs') (ru : RepD K g H d u)
    (h : Post K E (relD K) g H Q (.ok d (st.set n (.lst ts')))) : Q u (upd H a (.lst vs')) := by
  obtain ⟨w1, w2⟩ := rs.writeL ha hv r
  exact h g _ u w1 w2 (ru.step w1)
def fAppend (x : D) (ds : List D) (st : Sto) : R D := match ds with
  | [.v t] => onRef (fun n ts st => if ts.length < sizeLine then .ok (.v .none) (st.set n (.lst (ts ++ [t]))) else .bad) x st
  | _ => .bad
theorem om_append : OpM K E rAppend fAppend := by
  intro g H st x v ds vs Q rs rx rd h
  unfold fAppend at h
  split at h
  · rename_i t
    obtain ⟨w, rfl, rw'⟩ := rep1 rd
    obtain ⟨n, a, ts, vs, rfl, rfl, ea, e, hv, r, h⟩ := on_ref rs rx h
    obtain ⟨hz, h⟩ := if_bad h
    exact ⟨a, vs, w, rfl, rfl, hv, by rw [← r.length]; exact hz, Post.wr rs ea hv (r.append (.one rw')) rep_v.1 h⟩
  · exact h.elim
def fExtend (x : D) (ds : List D) (st : Sto) : R D := match ds with
  | [d] => match asLt st d with
    | some us => onRef (fun n ts st => if ts.length + us.length ≤ sizeLine then .ok (.v .none) (st.set n (.lst (ts ++ us))) else .bad) x st
    | none => .bad
  | _ => .bad
theorem om_extend : OpM K E rExtend fExtend := by
  intro g H st x v ds vs Q rs rx rd h
  unfold fExtend at h
  split at h
  · split at h
    · rename_i us eu
      obtain ⟨w, rfl, rw'⟩ := rep1 rd
      obtain ⟨b, ws, rfl, hb, rb⟩ := asLt_ok eu rs rw'
      obtain ⟨n, a, ts, vs, rfl, rfl, ea, e, hv, r, h⟩ := on_ref rs rx h
      obtain ⟨hz, h⟩ := if_bad h
      have la := r.length
      have lb := rb.length
      exact ⟨a, b, vs, ws, rfl, rfl, hv, hb, by omega, Post.wr rs ea hv (r.append rb) rep_v.1 h⟩
    · exact h.elim
  · exact h.elim
theorem RepTs.dropLast {ts : List T} {vs : List V} (r : RepTs K g H ts vs) : RepTs K g H ts.dropLast vs.dropLast := by
  rw [List.dropLast_eq_take, List.dropLast_eq_take, r.length]
  exact r.take _
def fPop (x : D) (ds : List D) (st : Sto) : R D := match ds with
  | [] => onRef (fun n ts st => match ts[ts.length - 1]? with
    | some t => .ok (.v t) (st.set n (.lst ts.dropLast))
    | none => .bad) x st
  | [.v (.int i)] => onRef (fun n ts st => match ixN ts.length i with
    | some j => match ts[j]? with
      | some t => if -(2 ^ 63) ≤ i ∧ i < 2 ^ 63 then .ok (.v t) (st.set n (.lst (ts.eraseIdx j))) else .bad
      | none => .bad
    | none => .bad) x st
  | _ => .bad
abbrev rPops : V → List V → Hp → VK → Prop := fun x xs H Q => rPop x xs H Q ∨ rPopAt x xs H Q
theorem mt_pops {X : Cx} : MtR X "list.pop" rPops := MtR.or mt_pop mt_popAt
theorem om_pop : OpM K E rPops fPop := by
  intro g H st x v ds vs Q rs rx rd h
  unfold fPop at h
  split at h
  · cases rd
    obtain ⟨n, a, ts, vs, rfl, rfl, ea, e, hv, r, h⟩ := on_ref rs rx h
    split at h
    · rename_i t et
      obtain ⟨w, ew, rw'⟩ := r.get et
      exact .inl ⟨a, vs, w, rfl, rfl, hv, by rw [← r.length]; exact ew, Post.wr rs ea hv r.dropLast (d := .v t) rw' h⟩
    · exact h.elim
  · obtain ⟨w, rfl, rw'⟩ := rep1 rd
    obtain rfl := rep_int rw'
    obtain ⟨n, a, ts, vs, rfl, rfl, ea, e, hv, r, h⟩ := on_ref rs rx h
    split at h
    · rename_i j ej
      split at h
      · rename_i t et
        obtain ⟨⟨h1, h2⟩, h⟩ := if_bad h
        obtain ⟨w, ew, rw'⟩ := r.get et
        refine .inr ⟨a, vs, _, j, w, rfl, rfl, hv, h1, h2, by rw [← r.length]; exact (ixN_seq ej).1, ew, Post.wr rs ea hv (r.eraseIdx j) (d := .v t) rw' h⟩
      · exact h.elim
    · exact h.elim
  · exact h.elim
def fReverse (x : D) (ds : List D) (st : Sto) : R D := match ds with
  | [] => onRef (fun n ts st => .ok (.v .none) (st.set n (.lst ts.reverse))) x st
  | _ => .bad
theorem om_reverse : OpM K E rReverse fReverse := by
  intro g H st x v ds vs Q rs rx rd h
  unfold fReverse at h
  split at h
  · cases rd
    obtain ⟨n, a, ts, vs, rfl, rfl, ea, e, hv, r, h⟩ := on_ref rs rx h
    exact ⟨a, vs, rfl, rfl, hv, Post.wr rs ea hv r.reverse rep_v.1 h⟩
  · exact h.elim
/-! count, index -/
def rCountD (K : PySem.W.Frag) : V → List V → Hp → VK → Prop := fun x xs H Q => ∃ (a : Addr) (y : V) (d : PyData) (ds : List PyData), x = V.ref a ∧ xs = [y] ∧ Dp K H (V.ref a) (.list ds) ∧ Dp K H y d ∧
  SeqAt.shaped (.list ds) = true ∧ SeqAt.shaped d = true ∧ Q (.int ((ds.countP fun z => PyData.eqv z d : Nat) : Int)) H
mutual
theorem plain_lay : ∀ t : T, t.canLay0 = true → t.plain = true
  | .none, _ => rfl
  | .bool _, _ => rfl
  | .int _, _ => rfl
  | .str _, _ => rfl
  | .list ts, h => by simp only [PyData.canLay0] at h; simp only [PyData.plain]; exact plain_lays ts h
  | .tuple ts, h => by simp only [PyData.canLay0] at h; simp only [PyData.plain]; exact plain_lays ts h
  | .dict _, h => by simp [PyData.canLay0] at h
theorem plain_lays : ∀ ts : List T, PyData.canLayAll0 ts = true → PyData.plainAll ts = true
  | [], _ => rfl
  | t :: ts, h => by
    simp only [PyData.canLayAll0, Bool.and_eq_true] at h
    simp only [PyData.plainAll, Bool.and_eq_true]
    exact ⟨plain_lay t h.1, plain_lays ts h.2⟩
end
theorem mt_countD {X : Cx} (hu : X.A.units + 65 < cLine) : MtR X "list.count" (rCountD X.K) := by
  intro pins s σ H x xs v us Q I rx rxs h
  obtain ⟨a, y, d, ds, rfl, rfl, hl, hy, sl, sd, q⟩ := h
  cases rx
  obtain ⟨uy, rfl, ry⟩ := Vals.one rxs
  obtain ⟨bs, r1⟩ := Dp.reads I d y uy hy ry
  cases hl with
  | lst hs ha =>
    obtain ⟨its, rv, pl, hlen⟩ := I.list hs
    obtain ⟨as, r2⟩ := Dp.readsAll I ds _ its ha rv
    have l1 : PyData.canLayAll0 ds = true := by have := SeqAt.canLay_of_shaped sl; simpa only [PyData.canLay0] using this
    exact SeqAt.count_list_data (as := as) pl.isList (by simpa using r2) r1 (plain_lays ds l1) (plain_lay d (SeqAt.canLay_of_shaped sd)) (room_in_shaped sd hu) ⟨.int _, H, I.tok _, ⟨_, rfl⟩, q⟩
def fCount (x : D) (ds : List D) (st : Sto) : R D := match ds with
  | [d] => match asL st x, toT st d with
    | some ts, some t => if SeqAt.shaped (.list ts) = true ∧ SeqAt.shaped t = true then .ok (.v (.int ((ts.countP fun z => PyData.eqv z t : Nat) : Int))) st else .bad
    | _, _ => .bad
  | _ => .bad
theorem asL_dp {d : D} {v : V} {ts : List T} (e : asL st d = some ts) (rs : RelS K g H st) (r : RepD K g H d v) (l : SeqAt.shaped (.list ts) = true) : ∃ a, v = .ref a ∧ Dp K H (.ref a) (.list ts) := by
  obtain ⟨a, vs, rfl, f, r'⟩ := asL_ok e rs r
  have l0 := SeqAt.canLay_of_shaped l
  simp only [PyData.canLay0] at l0
  exact ⟨a, rfl, .lst f (dps_of _ _ r' l0)⟩
theorem om_count : OpM K E (rCountD K) fCount := by
  intro g H st x v ds vs Q rs rx rd h
  unfold fCount at h
  split at h
  · split at h
    · rename_i ts t e1 e2
      obtain ⟨⟨h1, h2⟩, h⟩ := if_bad h
      obtain ⟨w, rfl, rw'⟩ := rep1 rd
      obtain ⟨a, rfl, hd⟩ := asL_dp e1 rs rx h1
      exact ⟨a, w, t, ts, rfl, rfl, hd, toT_dp e2 rs rw' h2, h1, h2, Post.at rs (rep_v.2.2.1 _) h⟩
    · exact h.elim
  · exact h.elim
def fIndex (x : D) (ds : List D) (st : Sto) : R D := match ds with
  | [d] => match asL st x, toT st d with
    | some ts, some t => if SeqAt.shaped (.list ts) = true ∧ SeqAt.shaped t = true then match ts.findIdx? (fun z => PyData.eqv z t) with
      | some j => .ok (.v (.int (j : Nat))) st
      | none => .bad
      else .bad
    | _, _ => .bad
  | _ => .bad
theorem om_index : OpM K E (rIndexD K) fIndex := by
  intro g H st x v ds vs Q rs rx rd h
  unfold fIndex at h
  split at h
  · split at h
    · rename_i ts t e1 e2
      obtain ⟨⟨h1, h2⟩, h⟩ := if_bad h
      split at h
      · rename_i j ej
        obtain ⟨w, rfl, rw'⟩ := rep1 rd
        obtain ⟨a, rfl, hd⟩ := asL_dp e1 rs rx h1
        rw [List.findIdx?_eq_some_iff_getElem] at ej
        obtain ⟨hj, hp, hn⟩ := ej
        refine ⟨a, w, t, ts, j, ts[j], rfl, rfl, hd, toT_dp e2 rs rw' h2, h1, h2, List.getElem?_eq_getElem hj, hp, fun m z hm hz => ?_, Post.at rs (rep_v.2.2.1 _) h⟩
        have hml : m < ts.length := by omega
        rw [List.getElem?_eq_getElem hml] at hz
        cases hz
        simpa using hn m hm
      · exact h.elim
    · exact h.elim
  · exact h.elim
end
/-! ### range -/
def rgT (a b : Int) : List T := (List.range (b - a).toNat).map fun i => .int (a + (i : Nat))
theorem rep_rg {K : PySem.W.Frag} {g : G} {H : Hp} (a b : Int) : RepTs K g H (rgT a b) (rgV a b) := by
  unfold rgT rgV
  have : ∀ l : List Nat, RepTs K g H (l.map fun i => .int (a + (i : Nat))) (l.map fun i => V.int (a + (i : Nat))) := by
    intro l
    induction l with
    | nil => exact (rfl : _ = _)
    | cons i l ih => exact ⟨_, _, rfl, by simp [RepT], ih⟩
  exact this _
instance (a b : Int) : Decidable (RgOk a b) := by unfold RgOk; infer_instance
def mRg1 (a : ME D) : ME (Int × Int) := fun env st => (a env st).bind fun d s1 => match d with
  | .v (.int n) => if RgOk 0 n then .ok (0, n) s1 else .bad
  | _ => .bad
def mRg2 (a b : ME D) : ME (Int × Int) := fun env st => (a env st).bind fun d s1 => (b env s1).bind fun e s2 => match d, e with
  | .v (.int i), .v (.int j) => if RgOk i j then .ok (i, j) s2 else .bad
  | _, _ => .bad
/-- a range as an argument -/
def SRg (X : Cx) (E : XK) (e : Expr) (m : ME (Int × Int)) : Prop := ∃ t, PRg X e t ∧ ∀ σ H (Q : Int → Int → Hp → Prop), tOf X.K E (fun _ _ p q => p = q) m σ H (fun p H => RgOk p.1 p.2 → Q p.1 p.2 H) → t σ H fun i j H => RgOk i j ∧ Q i j H
section
variable {X : Cx} {E : XK} {a b : Expr} {ma mb : ME D} {p pos : Pos} {e : Expr} {mr : ME (Int × Int)}
theorem srg_1 (hm : X.mg "range" = none) (ha : SE X E a ma) (hg : Gl X "range" := by rfl) (na : starEach [a] X.env = (false, eval a X.env) :: starEach [] X.env := by rfl) : SRg X E (.Call (.Name "range" p) [a] [] pos) (mRg1 ma) := by
  refine ⟨_, prg_1 hg hm ha na, fun σ H Q ⟨g, env, st, re, rs, h⟩ => ⟨g, env, st, re, rs, Post.bind h fun g1 H1 d s1 v s rs1 rd h1 => ?_⟩⟩
  split at h1
  · obtain ⟨hok, h1⟩ := if_bad h1
    obtain rfl := rep_int rd
    exact ⟨_, rfl, hok, h1 g1 H1 _ (Step.refl g1 H1) rs1 rfl hok⟩
  · exact h1.elim
theorem srg_2 (hm : X.mg "range" = none) (ha : SE X E a ma) (hb : SE X E b mb) (hg : Gl X "range" := by rfl) (na : starEach [a, b] X.env = (false, eval a X.env) :: starEach [b] X.env := by rfl)
    (nb : starEach [b] X.env = (false, eval b X.env) :: starEach [] X.env := by rfl) (hp : (backTo pos (starEach [b] X.env)).any (·.1) = false := by rfl) : SRg X E (.Call (.Name "range" p) [a, b] [] pos) (mRg2 ma mb) := by
  refine ⟨_, prg_2 hg hm ha hb na nb hp, fun σ H Q ⟨g, env, st, re, rs, h⟩ => ⟨g, env, st, re, rs, Post.bind h fun g1 H1 d s1 v s rs1 rd h1 => ?_⟩⟩
  refine ⟨g1, env, s1, re.step s, rs1, Post.bind h1 fun g2 H2 e s2 u s' rs2 re2 h2 => ?_⟩
  split at h2
  · obtain ⟨hok, h2⟩ := if_bad h2
    obtain rfl := rep_int (rd.step s')
    obtain rfl := rep_int re2
    exact ⟨_, _, rfl, rfl, hok, h2 g2 H2 _ (Step.refl g2 H2) rs2 rfl hok⟩
  · exact h2.elim
def mLstRg (m : ME (Int × Int)) : ME D := fun env st => (m env st).bind fun p s1 => if RgOk p.1 p.2 then .ok (.v (.list (rgT p.1 p.2))) s1 else .bad
def mLstRgM (m : ME (Int × Int)) : ME D := fun env st => (m env st).bind fun p s1 => if RgOk p.1 p.2 then alloc (rgT p.1 p.2) s1 else .bad
def mTupRg (m : ME (Int × Int)) : ME D := fun env st => (m env st).bind fun p s1 => if RgOk p.1 p.2 then .ok (.v (.tuple (rgT p.1 p.2))) s1 else .bad
theorem se_listRg (hc : X.calm = true) (hm : X.mg "list" = none) (he : SRg X E e mr) (hg : Gl X "list" := by rfl) (na : starEach [e] X.env = (false, eval e X.env) :: starEach [] X.env := by rfl) : SE X E (.Call (.Name "list" p) [e] [] pos) (mLstRg mr) := by
  obtain ⟨t, h1, h2⟩ := he
  refine PE.mono (pe_listRg hc hg hm h1 na) fun σ H Q ⟨g, env, st, re, rs, h⟩ => h2 σ H (fun i j H => ∀ q, H q = none → Q (.ref q) (upd H q (.lst (rgV i j)))) ⟨g, env, st, re, rs, Post.bind h fun g1 H1 d s1 v s rs1 rd h1 => fun _ q hq => ?_⟩
  cases rd
  obtain ⟨_, h1⟩ := if_bad h1
  exact Post.newL rs1 hq (rep_rg _ _) h1
theorem se_listRgM (hc : X.calm = true) (hm : X.mg "list" = none) (he : SRg X E e mr) (hg : Gl X "list" := by rfl) (na : starEach [e] X.env = (false, eval e X.env) :: starEach [] X.env := by rfl) : SE X E (.Call (.Name "list" p) [e] [] pos) (mLstRgM mr) := by
  obtain ⟨t, h1, h2⟩ := he
  refine PE.mono (pe_listRg hc hg hm h1 na) fun σ H Q ⟨g, env, st, re, rs, h⟩ => h2 σ H (fun i j H => ∀ q, H q = none → Q (.ref q) (upd H q (.lst (rgV i j)))) ⟨g, env, st, re, rs, Post.bind h fun g1 H1 d s1 v s rs1 rd h1 => fun _ q hq => ?_⟩
  cases rd
  obtain ⟨_, h1⟩ := if_bad h1
  exact Post.newM rs1 hq (rep_rg _ _) h1
theorem se_tupRg (hc : X.calm = true) (hm : X.mg "tuple" = none) (he : SRg X E e mr) (hg : Gl X "tuple" := by rfl) (na : starEach [e] X.env = (false, eval e X.env) :: starEach [] X.env := by rfl) : SE X E (.Call (.Name "tuple" p) [e] [] pos) (mTupRg mr) := by
  obtain ⟨t, h1, h2⟩ := he
  refine PE.mono (pe_tupRg hc hg hm h1 na) fun σ H Q ⟨g, env, st, re, rs, h⟩ => h2 σ H (fun i j H => ∀ q, H q = none → Q (.ref q) (upd H q (.tup (rgV i j)))) ⟨g, env, st, re, rs, Post.bind h fun g1 H1 d s1 v s rs1 rd h1 => fun _ q hq => ?_⟩
  cases rd
  obtain ⟨_, h1⟩ := if_bad h1
  exact Post.newT rs1 hq (rep_rg _ _) h1
/-! ### walked: a range, a list, a tuple -/
variable {tg : Expr} {mas : ME (List D)}
def mItR1 (as : ME (List D)) : ME (List T × Chk) := fun env st => (as env st).bind fun ds s1 => match ds with
  | [.v (.int j)] => if -(2 ^ 62) ≤ j ∧ j < 2 ^ 62 then .ok (rgT 0 j, none) s1 else .bad
  | _ => .bad
def mItR2 (as : ME (List D)) : ME (List T × Chk) := fun env st => (as env st).bind fun ds s1 => match ds with
  | [.v (.int i), .v (.int j)] => if -(2 ^ 62) ≤ i ∧ i < 2 ^ 62 ∧ -(2 ^ 62) ≤ j ∧ j < 2 ^ 62 then .ok (rgT i j, none) s1 else .bad
  | _ => .bad
theorem walks_rg {K : PySem.W.Frag} {g : G} {H : Hp} (i j : Int) : Walks K g H (Itr i (j - i).toNat) (rgT i j) none where
  at_ := fun g2 H2 st2 s rs _ => by
    have l : (rgT i j).length = (j - i).toNat := by simp [rgT]
    refine ⟨Nat.le_of_eq l.symm, fun k t e => ?_⟩
    obtain ⟨hk, rfl⟩ := List.getElem?_eq_some_iff.mp e
    refine ⟨l ▸ hk, fun x H3 ⟨e1, e2⟩ => ?_⟩
    subst e1 e2
    exact ⟨fun _ _ z => z, by simp [rgT, RepT]⟩
theorem si_rg1 (hm : X.mg "range" = none) (ha : SA X E [a] mas) (hg : Gl X "range" := by rfl) (hs : starEach [a] X.env = [(false, eval a X.env)] := by rfl) : SI X E tg (.Call (.Name "range" p) [a] [] pos) (mItR1 mas) := by
  refine PI.mono (pi_range1 hg hm ha hs) fun σ H Q ⟨g, env, st, re, rs, h⟩ => ⟨g, env, st, re, rs, Post.bind h fun g1 H1 ds s1 vs s rs1 rd h1 => ?_⟩
  split at h1
  · rename_i j
    obtain ⟨⟨b1, b2⟩, h1⟩ := if_bad h1
    obtain ⟨v, rfl, rv⟩ := rep1 rd
    obtain rfl := rep_int rv
    refine ⟨_, rfl, b1, b2, h1 g1 H1 _ (Step.refl g1 H1) rs1 ?_⟩
    have := walks_rg (K := X.K) (g := g1) (H := H1) 0 j
    rw [Int.sub_zero] at this
    exact this
  · exact h1.elim
theorem si_rg2 (hm : X.mg "range" = none) (ha : SA X E [a, b] mas) (hg : Gl X "range" := by rfl) (hs : starEach [a, b] X.env = [(false, eval a X.env), (false, eval b X.env)] := by rfl) (hs2 : starEach [b] X.env = [(false, eval b X.env)] := by rfl) :
    SI X E tg (.Call (.Name "range" p) [a, b] [] pos) (mItR2 mas) := by
  refine PI.mono (pi_range2 hg hm ha hs hs2) fun σ H Q ⟨g, env, st, re, rs, h⟩ => ⟨g, env, st, re, rs, Post.bind h fun g1 H1 ds s1 vs s rs1 rd h1 => ?_⟩
  split at h1
  · rename_i i j
    obtain ⟨hb, h1⟩ := if_bad h1
    obtain ⟨v, u, rfl, rv, ru⟩ := rep2 rd
    obtain rfl := rep_int rv
    obtain rfl := rep_int ru
    exact ⟨_, _, rfl, hb, h1 g1 H1 _ (Step.refl g1 H1) rs1 (walks_rg i j)⟩
  · exact h1.elim
end
/-- what is known of a walked thing: a list of the store's is to stay -/
def chkOf : D → List T → Chk
  | .ref n, ts => some (n, ts)
  | _, _ => none
def isTD : D → Bool
  | .v (.tuple _) => true
  | _ => false
/-- a list, or a tuple -/
def SqB (K : PySem.W.Frag) (H : Hp) (tp : Bool) (a : Addr) (xs : List V) : Prop := match tp with
  | true => SqT K H a xs
  | false => SqL K H a xs
/-- at each later turn the same items stand -/
theorem seq_stays {K : PySem.W.Frag} {g g2 : G} {H H2 : Hp} {st st2 : Sto} {d : D} {v : V} {ts : List T} (e : asSeq st d = some ts) (rd : RepD K g H d v) (s : Step g H g2 H2) (rs2 : RelS K g2 H2 st2) (c : (chkOf d ts).ok st2) :
    ∃ a vs, v = .ref a ∧ SqB K H2 (isTD d) a vs ∧ RepTs K g2 H2 ts vs := by
  have rd2 := rd.step s
  cases d with
  | ref n =>
    have e2 : asL st2 (.ref n) = some ts := by
      have : st2[n]? = some (.lst ts) := c
      simp [asL, asLt, this]
    exact asL_ok e2 rs2 rd2
  | v t =>
    cases t with
    | tuple t =>
      cases e
      obtain ⟨a, vs, h1, h2, h3⟩ := rep_tup rd2
      exact ⟨a, vs, h1, h2.sq, h3⟩
    | list t =>
      cases e
      exact asL_ok (st := st2) (d := .v (.list _)) rfl rs2 rd2
    | _ => simp [asSeq, asL, asLt] at e
  | rol t =>
    cases e
    exact asL_ok (st := st2) (d := .rol _) rfl rs2 rd2
  | glo _ => simp [asSeq, asL, asLt] at e
  | ty _ => simp [asSeq, asL, asLt] at e
theorem chk_now {st : Sto} {d : D} {ts : List T} (e : asSeq st d = some ts) : (chkOf d ts).ok st := by
  cases d with
  | ref n =>
    show st[n]? = some (.lst ts)
    simp only [asSeq, asL, asLt] at e
    split at e
    · cases e; assumption
    · cases e
  | _ => trivial
theorem seq_now {K : PySem.W.Frag} {g : G} {H : Hp} {st : Sto} {d : D} {v : V} {ts : List T} (e : asSeq st d = some ts) (rs : RelS K g H st) (rd : RepD K g H d v) : ∃ a vs, v = .ref a ∧ SqB K H (isTD d) a vs ∧ RepTs K g H ts vs :=
  seq_stays e rd (Step.refl g H) rs (chk_now e)
/-- any list or tuple -/
def mItS (a : ME D) : ME (List T × Chk) := fun env st => (a env st).bind fun d s1 => match asSeq s1 d with
  | some ts => .ok (ts, chkOf d ts) s1
  | none => .bad
def iSeqB (K : PySem.W.Frag) (tl : TE) : TI := fun σ H R => tl σ H fun x H1 => ∃ a, x = .ref a ∧ (((∃ xs, SqL K H1 a xs) ∧ R (Itl K a) H1) ∨ ((∃ xs, SqT K H1 a xs) ∧ R (Itt K a) H1))
theorem pi_seqB {X : Cx} {tg l : Expr} {tl : TE} (hl : PE X l tl) : PI X tg l (iSeqB X.K tl) := by
  refine ⟨fun pins s σ H R I h => ?_⟩
  refine thn (hl.run pins s σ H _ I h) fun v s1 ⟨x, H1, I1, r1, q1⟩ => ?_
  obtain ⟨a, e, ⟨⟨xs, hq⟩, q⟩ | ⟨⟨xs, hq⟩, q⟩⟩ := q1
  · subst e
    cases r1
    obtain ⟨its, rv, p, hz⟩ := I1.list hq
    exact wpAny_pyIter_list p.isList (pi_one (tk := s1.toks) I1 _ (turn_list a _) ⟨_, Heap.get?_push_size _ rfl, rfl, rfl⟩ q)
  · subst e
    cases r1
    obtain ⟨its, rv, p, hz⟩ := I1.tuple hq
    exact wpAny_pyIter_tuple (show s1.heap.IsTuple a its.toArray from p) (pi_one (tk := s1.toks) I1 _ (turn_tuple a _) ⟨_, Heap.get?_push_size _ rfl, rfl, rfl⟩ q)
theorem si_seq {X : Cx} {E : XK} {tg l : Expr} {ml : ME D} (hl : SE X E l ml) : SI X E tg l (mItS ml) := by
  refine PI.mono (pi_seqB hl) fun σ H Q ⟨g, env, st, re, rs, h⟩ => ⟨g, env, st, re, rs, Post.bind h fun g1 H1 d s1 v s rs1 rd h1 => ?_⟩
  split at h1
  · rename_i ts e
    obtain ⟨a, vs, rfl, hq, r⟩ := seq_now e rs1 rd
    refine ⟨a, rfl, ?_⟩
    cases ht : isTD d with
    | true =>
      rw [ht] at hq
      refine .inr ⟨⟨vs, hq⟩, h1 g1 H1 _ (Step.refl g1 H1) rs1 ⟨fun g2 H2 st2 s2 rs2 c => ?_⟩⟩
      obtain ⟨b, ws, e1, q2, r2⟩ := seq_stays e rd s2 rs2 c
      cases e1
      rw [ht] at q2
      refine ⟨⟨ws, q2, by rw [r2.length]; exact Nat.le_refl _⟩, fun i t et => ?_⟩
      obtain ⟨w, ew, rw'⟩ := r2.get et
      refine ⟨⟨ws, w, q2, ew⟩, fun x H3 ⟨eH, hx⟩ => ?_⟩
      subst eH
      have := hx ws q2
      rw [ew] at this
      cases this
      exact ⟨fun _ _ z => z, rw'⟩
    | false =>
      rw [ht] at hq
      refine .inl ⟨⟨vs, hq⟩, h1 g1 H1 _ (Step.refl g1 H1) rs1 ⟨fun g2 H2 st2 s2 rs2 c => ?_⟩⟩
      obtain ⟨b, ws, e1, q2, r2⟩ := seq_stays e rd s2 rs2 c
      cases e1
      rw [ht] at q2
      refine ⟨⟨ws, q2, by rw [r2.length]; exact Nat.le_refl _⟩, fun i t et => ?_⟩
      obtain ⟨w, ew, rw'⟩ := r2.get et
      refine ⟨⟨ws, w, q2, ew⟩, fun x H3 ⟨eH, hx⟩ => ?_⟩
      subst eH
      have := hx ws q2
      rw [ew] at this
      cases this
      exact ⟨fun _ _ z => z, rw'⟩
  · exact h1.elim
end PL

namespace PL
open PySem PySem.Spec L2
open PyProof.Rows hiding St
/-! ### iterators that hand out new tuples: enumerate, zip -/
def ItT (go stop : Nat → Hp → Prop) (yv : Nat → Hp → List V → Prop) : It := ⟨go, fun i H v H' => ∃ T vs, v = .ref T ∧ H T = none ∧ H' = upd H T (.tup vs) ∧ yv i H vs, stop⟩
/-- what is known at one turn -/
structure TurnAt (P : Program) (w : World) (A : Around) (I : Addr) (wr : List Addr) (tn : Nat → Heap → Prop) (i : Nat) (H : Hp) (go stop : Nat → Hp → Prop) (yv : Nat → Hp → List V → Prop) (h : Heap) : Prop where
  ex : ∃ (n : Nat) (Pt : Nat → Array Value → Prop) (St : Nat → Heap → Prop) (Mid : Nat → Addr → Heap → Prop) (fp' : List Addr), WalksT P w A I fp' wr n Pt St Mid ∧
    (∀ h', St (i + 1) h' → tn (i + 1) h') ∧ (go i H → i < n ∧ St i h ∧ ∀ vals, Pt i vals → ∃ vs, Vals vs vals.toList ∧ vs.length ≤ 3 ∧ yv i H vs) ∧ (stop i H → St n h)
theorem turn_ofT {P : Program} {w : World} {K : PySem.W.Frag} {elts : List Expr} {kk : Nat} {tpos : Pos} {I : Addr} {fp wr : List Addr} {tn : Nat → Heap → Prop} {go stop : Nat → Hp → Prop} {yv : Nat → Hp → List V → Prop} (mem : I ∈ fp) (sub : ∀ b ∈ wr, b ∈ fp)
    (obj : ∀ i h, tn i h → ∀ b ∈ fp, ∃ o, h.get? b = some o ∧ ∀ v, o.data ≠ .cell v) (keep : ∀ i h h', tn i h → (∀ b ∈ fp, ∀ o, h.get? b = some o → h'.get? b = some o) → tn i h')
    (self : ∀ (A : Around) (i : Nat) (s : Shared) (Q : Value → Shared → Prop) (E : Value → Shared → Prop), tn i s.heap → Q (.ref I) s → wpAny (model P w) A (pyIter (.ref I)) Q E s)
    (op : ∀ (X : Cx), X.prog = P → X.w = w → X.K = K → X.calm = true → ∀ (i : Nat) (pins : List (Addr × Obj)) (s : Shared) (σ : L2.St) (H : Hp), Inv X pins σ H s → tn i s.heap → (go i H ∨ stop i H) → TurnAt P w X.A I wr tn i H go stop yv s.heap) :
    Turn P w K (.Tuple elts kk tpos) (ItT go stop yv) fp I tn where
  mem := mem
  obj := obj
  keep := keep
  self := self
  item := by
    intro X hP hw hK hc i pins s σ H E Iv hf st hg
    obtain ⟨n, Pt, St, Mid, fp', W, up, h1, _⟩ := (op X hP hw hK hc i pins s σ H Iv st (.inl hg)).ex
    subst hP hw hK
    obtain ⟨hi, hs, hv⟩ := h1 hg
    have lt : ∀ b ∈ fp, b < s.heap.objs.size := fun b hb => by
      obtain ⟨o, e, _⟩ := obj i _ st b hb
      exact Heap.lt_size e
    refine W.item i s _ _ hi hs fun T vals h' tk hp hT hTup hm kp => ?_
    obtain ⟨vs, rv, hl, hy⟩ := hv vals hp
    refine ⟨_, rfl, W.go elts kk tpos i T { s with heap := h', toks := tk } _ _ hm fun h'' hs'' kp2 => ?_⟩
    have nT : T ∉ wr := W.apart i T h' hm
    have hT2 : h''.IsTuple T vals := hTup.at fun o e => kp2 T o nT e
    have I1 : Inv X pins σ (upd H T (.tup vs)) { s with heap := h'', toks := tk } := by
      refine Iv.turnedNew (ch := wr) (fun b o hb e => kp2 b o hb (kp b o hb e)) (fun b hb => hf b (sub b hb)) hT ?_
      refine ⟨Nat.le_trans hl (by decide), vals.toList, rv, ?_⟩
      have e : vals.toList.toArray = vals := by simp
      rw [e]; exact hT2
    refine ⟨.ref T, _, I1, rfl, ⟨T, vs, rfl, Iv.hok.fresh hT, rfl, hy⟩, up _ hs'', fun b hb => ?_⟩
    rw [upd_ne (Nat.ne_of_lt (Nat.lt_of_lt_of_le (lt b hb) hT))]
    exact (hf b hb).1
  done := by
    intro X hP hw hK hc i pins s σ H E Iv hf st hg
    obtain ⟨n, Pt, St, Mid, fp', W, up, _, h2⟩ := (op X hP hw hK hc i pins s σ H Iv st (.inr hg)).ex
    subst hP hw hK
    exact W.done s _ _ (h2 hg) fun h' tk kp => ⟨rfl, Iv.turnedL (ch := wr) (fun b o hb e => kp b o hb e) fun b hb => hf b (sub b hb)⟩
/-! #### lists and tuples alike -/
def IsB (h : Heap) (tp : Bool) (a : Addr) (its : Array Value) : Prop := match tp with
  | true => h.IsTuple a its
  | false => h.IsList a its
def ItB (h : Heap) (tp : Bool) (it a : Addr) (i : Nat) : Prop := match tp with
  | true => h.IsTupleIter it a i
  | false => h.IsListIter it a i
def obB (tp : Bool) (a : Addr) : Obj := match tp with
  | true => { cls := .type "tuple_iterator", data := .fields #[.ref a, .int 0 0] }
  | false => { cls := .type "list_iterator", data := .fields #[.ref a, .int 0 0] }
theorem sqB_inv {X : Cx} {pins : List (Addr × Obj)} {σ : L2.St} {H : Hp} {s : Shared} {tp : Bool} {a : Addr} {xs : List V} (I : Inv X pins σ H s) (h : SqB X.K H tp a xs) : ∃ its, Vals xs its ∧ IsB s.heap tp a its.toArray := by
  cases tp with
  | true => obtain ⟨its, rv, p, _⟩ := I.tuple h; exact ⟨its, rv, p⟩
  | false => obtain ⟨its, rv, p, _⟩ := I.list h; exact ⟨its, rv, p.isList⟩
theorem sqB_inj {X : Cx} {pins : List (Addr × Obj)} {σ : L2.St} {H : Hp} {s : Shared} {tp : Bool} {a : Addr} {xs ys : List V} (I : Inv X pins σ H s) (h : SqB X.K H tp a xs) (h' : SqB X.K H tp a ys) : ys = xs := by
  cases tp with
  | true => exact I.tuple_inj h' h
  | false => exact I.list_inj h' h
theorem isB_lt {h : Heap} {tp : Bool} {a : Addr} {its : Array Value} (p : IsB h tp a its) : a < h.objs.size := by
  cases tp with
  | true => obtain ⟨o, e, _⟩ := p; exact Heap.lt_size e
  | false => obtain ⟨o, e, _⟩ := p; exact Heap.lt_size e
theorem drawB {P : Program} {w : World} {A : Around} (hh : A.handled = none) (tp : Bool) (it a : Addr) (hne : a ≠ it) (its : Array Value) : Draws P w A it [it, a] its.size (fun i v => its[i]? = some v) (fun i h => ItB h tp it a i ∧ IsB h tp a its) := by
  cases tp with
  | true => exact Draws.tuple hh it a hne its
  | false => exact Draws.list hh it a hne its
theorem beginB (tp : Bool) (a : Addr) (its : Array Value) : Begins (.ref a) (obB tp a) fun h => IsB h tp a its := by
  cases tp with
  | true => exact begins_tuple a its
  | false => exact begins_list a its
theorem obB_it {h : Heap} {tp : Bool} {it a : Addr} (e : h.get? it = some (obB tp a)) : ItB h tp it a 0 := by
  cases tp with
  | true => exact ⟨_, e, rfl, rfl⟩
  | false => exact ⟨_, e, rfl, rfl⟩
theorem itB_at {h h' : Heap} {tp : Bool} {it a : Addr} {i : Nat} (x : ItB h tp it a i) (k : ∀ o, h.get? it = some o → h'.get? it = some o) : ItB h' tp it a i := by
  cases tp with
  | true => exact Heap.IsTupleIter.at x k
  | false => exact Heap.IsListIter.at x k
theorem itB_obj {h : Heap} {tp : Bool} {it a : Addr} {i : Nat} (x : ItB h tp it a i) : ∃ o, h.get? it = some o ∧ ∀ v, o.data ≠ .cell v := by
  cases tp with
  | true => obtain ⟨o, e, c, d⟩ := x; exact ⟨o, e, fun v z => by rw [d] at z; cases z⟩
  | false => obtain ⟨o, e, c, d⟩ := x; exact ⟨o, e, fun v z => by rw [d] at z; cases z⟩
/-! #### enumerate -/
def IteB (K : PySem.W.Frag) (tp : Bool) (a : Addr) (k0 : Int) : It := ItT (fun i H => ∃ xs x, SqB K H tp a xs ∧ xs[i]? = some x) (fun i H => ∃ xs, SqB K H tp a xs ∧ xs.length = i)
  fun i H vs => ∃ x, vs = [.int (k0 + (i : Nat)), x] ∧ ∀ xs, SqB K H tp a xs → xs[i]? = some x
theorem turn_enumB {P : Program} {w : World} {K : PySem.W.Frag} {elts : List Expr} {kk : Nat} {tpos : Pos} (tp : Bool) (a e it : Addr) (k0 : Int) :
    Turn P w K (.Tuple elts kk tpos) (IteB K tp a k0) [e, it] e (fun i h => (∃ old, IsEnum h e it (k0 + (i : Nat)) old) ∧ ItB h tp it a i ∧ e ≠ it ∧ a ≠ it ∧ a ≠ e) := by
  refine turn_ofT (wr := [e, it]) (by simp) (fun b hb => hb) (fun i h st b hb => ?_) (fun i h h' st k => ?_) (fun A i s Q E st h => let ⟨⟨_, he⟩, _⟩ := st; wpAny_pyIter_enum he h) fun X hP hw hK hc i pins s σ H I st hgs => ?_
  · obtain ⟨⟨old, he⟩, hit, _⟩ := st
    have e' : b = e ∨ b = it := by simpa using hb
    rcases e' with rfl | rfl
    · exact ⟨_, he, fun v q => nomatch q⟩
    · exact itB_obj hit
  · obtain ⟨⟨old, he⟩, hit, r⟩ := st
    exact ⟨⟨old, k e (by simp) _ he⟩, itB_at hit (fun o q => k it (by simp) o q), r⟩
  · subst hP hw hK
    have hh : X.A.in1.handled = none := I.ok.hd hc
    obtain ⟨⟨old, he⟩, hit, h1, h2, h3⟩ := st
    have hx : ∃ xs, SqB X.K H tp a xs := by
      rcases hgs with ⟨xs, _, h, _⟩ | ⟨xs, h, _⟩
      · exact ⟨xs, h⟩
      · exact ⟨xs, h⟩
    obtain ⟨xs, hx⟩ := hx
    obtain ⟨its, rv, p⟩ := sqB_inv I hx
    have l := rv.length
    refine ⟨_, _, _, _, _, WalksT.enumFrom k0 (drawB hh tp it a h2 its.toArray) e h1 (by simpa using ⟨h1, Ne.symm h3⟩) (by simp), fun h' q => ⟨q.1, q.2.1, h1, h2, h3⟩, fun ⟨ys, x, hy, ex⟩ => ?_, fun ⟨ys, hy, el⟩ => ?_⟩
    · obtain rfl := sqB_inj I hx hy
      have hl := (List.getElem?_eq_some_iff.mp ex).1
      refine ⟨by rw [List.size_toArray]; omega, ⟨⟨old, he⟩, hit, p⟩, fun vals ⟨t, u, hu, ev⟩ => ?_⟩
      subst ev
      obtain ⟨u', hu', ru⟩ := rv.get ex
      have : its.toArray[i]? = some u := hu
      rw [List.getElem?_toArray, hu'] at this
      cases this
      exact ⟨[.int (k0 + (i : Nat)), x], .cons ⟨_, rfl⟩ (.cons ru .nil), by simp, x, rfl, fun zs hz => by rw [sqB_inj I hx hz]; exact ex⟩
    · obtain rfl := sqB_inj I hx hy
      have : i = its.toArray.size := by rw [List.size_toArray]; omega
      subst this
      exact ⟨⟨old, he⟩, hit, p⟩
theorem enum_begins1 {prog : Program} {w : World} {A : Around} {E : Value → Shared → Prop} {s : Shared} {v : Value} {o : Obj} {Hb : Heap → Prop} {Q : Value → Shared → Prop} (B : Begins v o Hb) (h1 : Hb s.heap)
    (h : ∀ h', IsEnum h' (s.heap.objs.size + 1) s.heap.objs.size 0 .none → h'.get? s.heap.objs.size = some o → h'.objs.size = s.heap.objs.size + 2 →
      (∀ b o, s.heap.get? b = some o → h'.get? b = some o) → Q (.ref (s.heap.objs.size + 1)) { s with heap := h' }) :
    wpAny (model prog w) A (call (.type "enumerate") [v]) Q E s := by
  have made : Meets (Builtin.«enumerate.__new__» ⟨[.type "enumerate", v], []⟩) (fun _ R s => Hb s.heap ∧
      R (.ok (.ret (.ref (s.heap.push o).objs.size))) { s with heap := (s.heap.push o).push { cls := .type "enumerate", data := .fields #[.none, .bool false, .ref s.heap.objs.size, rawInt 0, .none, .none] } }) := by
    refine .of_wp fun prog w A R s h => ?_
    obtain ⟨hp, g, d, tk, os⟩ := s
    obtain ⟨h1, h⟩ := h
    have hsub := sub_enumerate
    have q1 : ∀ {A' : Around} {E : Value → Shared → Prop} {Q : Value → Shared → Prop}, Q (.ref hp.objs.size) ⟨hp.push o, g, d, tk, os⟩ → wpAny (model prog w) A' (pyIter v) Q E ⟨hp, g, d, tk, os⟩ :=
      fun q => B.iter prog w _ _ ⟨hp, g, d, tk, os⟩ _ h1 q
    wp_walk using q1
    refine wpAny_stack_any fun st => wpAny_pure ?_
    split
    · rename_i c _ _ _ _ _
      cases (c == Value.type "enumerate") <;> (wp_walk using q1; exact ⟨_, rfl, h⟩)
    · wp_walk using q1
      exact ⟨_, rfl, h⟩
  refine callType_new F.called_enumerate (by decide) (F.typeCall_enumerate_1 _) (F.newCall_enumerate_1 _) (fun obj => F.args_object_init_2 obj _) F.entry_enumerate_new made ⟨h1, ?_⟩
  have hz : (s.heap.push o).objs.size = s.heap.objs.size + 1 := Heap.size_push ..
  have he := Heap.get?_push_size (s.heap.push o) (o := { cls := .type "enumerate", data := .fields #[.none, .bool false, .ref s.heap.objs.size, rawInt 0, .none, .none] }) rfl
  show _ ∧ _
  rw [hz] at he ⊢
  exact ⟨⟨_, he, rfl⟩, h _ he (Heap.get?_push_of_some _ (Heap.get?_push_size _ B.free)) (by rw [Heap.size_push, hz]) fun b o x => Heap.get?_push_of_some _ (Heap.get?_push_of_some _ x)⟩
def iEnB (K : PySem.W.Frag) (ta : TA) : TI := fun σ H R => ta σ H fun vs H1 => ∃ tp a xs, vs = [.ref a] ∧ SqB K H1 tp a xs ∧ R (IteB K tp a 0) H1
def iEnB2 (K : PySem.W.Frag) (ta : TA) : TI := fun σ H R => ta σ H fun vs H1 => ∃ tp a xs k, vs = [.ref a, .int k] ∧ -(2 ^ 63) ≤ k ∧ k < 2 ^ 63 ∧ SqB K H1 tp a xs ∧ R (IteB K tp a k) H1
theorem enum_pie {X : Cx} {elts : List Expr} {kk : Nat} {tpos : Pos} {pins : List (Addr × Obj)} {σ : L2.St} {H : Hp} {s : Shared} {R : It → Hp → Prop} {tp : Bool} {a : Addr} {its : Array Value} {k : Int} {h' : Heap} (I : Inv X pins σ H s) (p : IsB s.heap tp a its)
    (he : IsEnum h' (s.heap.objs.size + 1) s.heap.objs.size k .none) (hit : h'.get? s.heap.objs.size = some (obB tp a)) (hk : ∀ b o, s.heap.get? b = some o → h'.get? b = some o) (q : R (IteB X.K tp a k) H) :
    PIE X pins σ (.Tuple elts kk tpos) R (.ref (s.heap.objs.size + 1)) { s with heap := h' } := by
  have al := isB_lt p
  refine ⟨s.heap.objs.size + 1, [s.heap.objs.size + 1, s.heap.objs.size], _, _, H, rfl, I.kept (t' := s.toks) hk, turn_enumB tp a (s.heap.objs.size + 1) s.heap.objs.size k, ⟨⟨.none, ?_⟩, obB_it hit, Nat.succ_ne_self _, Nat.ne_of_lt al, Nat.ne_of_lt (Nat.lt_succ_of_lt al)⟩, fun b hb => ?_, q⟩
  · have : k + ((0 : Nat) : Int) = k := by simp
    rw [this]; exact he
  · have hle : s.heap.objs.size ≤ b := by
      have e' : b = s.heap.objs.size + 1 ∨ b = s.heap.objs.size := by simpa using hb
      rcases e' with z | z
      · rw [z]; exact Nat.le_add_right _ _
      · rw [z]; exact Nat.le_refl _
    exact I.fpOk hle (I.hok.fresh hle)
theorem pi_enB {X : Cx} {e : Expr} {ta : TA} {p pos tpos : Pos} {elts : List Expr} {kk : Nat} (hg : Gl X "enumerate") (hm : X.mg "enumerate" = none) (ha : PA X [e] ta) (hs : starEach [e] X.env = [(false, eval e X.env)]) :
    PI X (.Tuple elts kk tpos) (.Call (.Name "enumerate" p) [e] [] pos) (iEnB X.K ta) := by
  refine ⟨fun pins s σ H R I h => ?_⟩
  refine Call_ (ld_blt I hg hm boot_enumerate (PyProof.Rows.callWith_type1 (thn (ha.run pos pins s σ H _ I h) fun us s1 ⟨vs, H1, I1, r1, q1⟩ => ?_) hs rfl))
  obtain ⟨tp, a, xs, rfl, hq, q⟩ := q1
  obtain ⟨u, rfl, r⟩ := Vals.one r1
  cases r
  obtain ⟨its, rv, p'⟩ := sqB_inv I1 hq
  exact enum_begins1 (beginB tp a its.toArray) p' fun h' he hit hsz hk => wpAny_pyIter_enum he (enum_pie I1 p' he hit hk q)
theorem pi_enB2 {X : Cx} {e e2 : Expr} {ta : TA} {p pos tpos : Pos} {elts : List Expr} {kk : Nat} (hg : Gl X "enumerate") (hm : X.mg "enumerate" = none) (ha : PA X [e, e2] ta) (hs : starEach [e, e2] X.env = (false, eval e X.env) :: starEach [e2] X.env) (hpl : (backTo pos (starEach [e2] X.env)).any (·.1) = false) :
    PI X (.Tuple elts kk tpos) (.Call (.Name "enumerate" p) [e, e2] [] pos) (iEnB2 X.K ta) := by
  refine ⟨fun pins s σ H R I h => ?_⟩
  refine Call_ (ld_blt I hg hm boot_enumerate (PyProof.Rows.callWith_type1 (thn (ha.run pos pins s σ H _ I h) fun us s1 ⟨vs, H1, I1, r1, q1⟩ => ?_) hs hpl))
  obtain ⟨tp, a, xs, k, rfl, k1, k2, hq, q⟩ := q1
  obtain ⟨u, u2, rfl, r, r2⟩ := Vals.two r1
  cases r
  obtain ⟨t, rfl⟩ := r2
  obtain ⟨its, rv, p'⟩ := sqB_inv I1 hq
  exact enum_begins (beginB tp a its.toArray) p' k1 k2 fun h' he hit hsz hk => wpAny_pyIter_enum he (enum_pie I1 p' he hit hk q)
def enT (k : Int) (ts : List T) : List T := ts.mapIdx fun i t => .tuple [.int (k + (i : Nat)), t]
theorem walks_en {K : PySem.W.Frag} {g : G} {H : Hp} {st : Sto} {d : D} {a : Addr} {ts : List T} (k : Int) (e : asSeq st d = some ts) (rd : RepD K g H d (.ref a)) : Walks K g H (IteB K (isTD d) a k) (enT k ts) (chkOf d ts) where
  at_ := fun g2 H2 st2 s2 rs2 c => by
    obtain ⟨b, ws, e1, q2, r2⟩ := seq_stays e rd s2 rs2 c
    cases e1
    refine ⟨⟨ws, q2, by simp [enT, r2.length]⟩, fun i t et => ?_⟩
    simp only [enT, List.getElem?_mapIdx] at et
    obtain ⟨u, eu, rfl⟩ := Option.map_eq_some_iff.mp et
    obtain ⟨w, ew, rw'⟩ := r2.get eu
    refine ⟨⟨ws, w, q2, ew⟩, fun x H3 ⟨T, vs, e4, hT, e5, y, e6, hy⟩ => ?_⟩
    subst e4 e5 e6
    have := hy ws q2
    rw [ew] at this
    cases this
    refine ⟨Same.new hT, rep_newT hT ⟨_, _, rfl, by simp [RepT], _, _, rfl, rw', rfl⟩⟩
def mItE (as : ME (List D)) : ME (List T × Chk) := fun env st => (as env st).bind fun ds s1 => match ds with
  | [d] => match asSeq s1 d with
    | some ts => .ok (enT 0 ts, chkOf d ts) s1
    | none => .bad
  | _ => .bad
def mItE2 (as : ME (List D)) : ME (List T × Chk) := fun env st => (as env st).bind fun ds s1 => match ds with
  | [d, .v (.int k)] => match asSeq s1 d with
    | some ts => if -(2 ^ 63) ≤ k ∧ k < 2 ^ 63 then .ok (enT k ts, chkOf d ts) s1 else .bad
    | none => .bad
  | _ => .bad
section
variable {X : Cx} {E : XK} {p pos tpos : Pos} {e e2 e3 : Expr} {elts : List Expr} {kk : Nat} {mas : ME (List D)}
theorem si_en (hm : X.mg "enumerate" = none) (ha : SA X E [e] mas) (hg : Gl X "enumerate" := by rfl) (hs : starEach [e] X.env = [(false, eval e X.env)] := by rfl) : SI X E (.Tuple elts kk tpos) (.Call (.Name "enumerate" p) [e] [] pos) (mItE mas) := by
  refine PI.mono (pi_enB hg hm ha hs) fun σ H Q ⟨g, env, st, re, rs, h⟩ => ⟨g, env, st, re, rs, Post.bind h fun g1 H1 ds s1 vs s rs1 rd h1 => ?_⟩
  split at h1
  · rename_i d
    split at h1
    · rename_i ts et
      obtain ⟨v, rfl, rv⟩ := rep1 rd
      obtain ⟨a, ws, rfl, hq, r⟩ := seq_now et rs1 rv
      exact ⟨isTD d, a, ws, rfl, hq, h1 g1 H1 _ (Step.refl g1 H1) rs1 (walks_en 0 et rv)⟩
    · exact h1.elim
  · exact h1.elim
theorem si_en2 (hm : X.mg "enumerate" = none) (ha : SA X E [e, e2] mas) (hg : Gl X "enumerate" := by rfl) (hs : starEach [e, e2] X.env = (false, eval e X.env) :: starEach [e2] X.env := by rfl) (hpl : (backTo pos (starEach [e2] X.env)).any (·.1) = false := by rfl) :
    SI X E (.Tuple elts kk tpos) (.Call (.Name "enumerate" p) [e, e2] [] pos) (mItE2 mas) := by
  refine PI.mono (pi_enB2 hg hm ha hs hpl) fun σ H Q ⟨g, env, st, re, rs, h⟩ => ⟨g, env, st, re, rs, Post.bind h fun g1 H1 ds s1 vs s rs1 rd h1 => ?_⟩
  split at h1
  · rename_i d k
    split at h1
    · rename_i ts et
      obtain ⟨⟨k1, k2⟩, h1⟩ := if_bad h1
      obtain ⟨v, u, rfl, rv, ru⟩ := rep2 rd
      obtain rfl := rep_int ru
      obtain ⟨a, ws, rfl, hq, r⟩ := seq_now et rs1 rv
      exact ⟨isTD d, a, ws, k, rfl, k1, k2, hq, h1 g1 H1 _ (Step.refl g1 H1) rs1 (walks_en k et rv)⟩
    · exact h1.elim
  · exact h1.elim
end
/-! #### zip -/
def Itz2 (K : PySem.W.Frag) (tp tq : Bool) (a b : Addr) : It := ItT (fun i H => ∃ xs ys x y, SqB K H tp a xs ∧ SqB K H tq b ys ∧ xs[i]? = some x ∧ ys[i]? = some y) (fun i H => ∃ xs ys, SqB K H tp a xs ∧ SqB K H tq b ys ∧ i = min xs.length ys.length)
  fun i H vs => ∃ x y, vs = [x, y] ∧ (∀ xs, SqB K H tp a xs → xs[i]? = some x) ∧ ∀ ys, SqB K H tq b ys → ys[i]? = some y
def Itz3 (K : PySem.W.Frag) (tp tq tr : Bool) (a b c : Addr) : It := ItT (fun i H => ∃ xs ys zs x y z, SqB K H tp a xs ∧ SqB K H tq b ys ∧ SqB K H tr c zs ∧ xs[i]? = some x ∧ ys[i]? = some y ∧ zs[i]? = some z)
  (fun i H => ∃ xs ys zs, SqB K H tp a xs ∧ SqB K H tq b ys ∧ SqB K H tr c zs ∧ i = min (min xs.length ys.length) zs.length)
  fun i H vs => ∃ x y z, vs = [x, y, z] ∧ (∀ xs, SqB K H tp a xs → xs[i]? = some x) ∧ (∀ ys, SqB K H tq b ys → ys[i]? = some y) ∧ ∀ zs, SqB K H tr c zs → zs[i]? = some z
theorem turn_zip2 {P : Program} {w : World} {K : PySem.W.Frag} {elts : List Expr} {kk : Nat} {tpos : Pos} {tp tq : Bool} {a b z TI TO i1 i2 : Addr} (S : ZipSep2 z TI TO i1 i2 [i1, a] [i2, b]) (ha : a ≠ i1) (hb : b ≠ i2) :
    Turn P w K (.Tuple elts kk tpos) (Itz2 K tp tq a b) [z, TI, TO, i1, i2] z (fun i h => IsZip h z TI TO .none ∧ IsTupOf2 h TI (.ref i1) (.ref i2) ∧ (∃ x y, IsTupOf2 h TO x y) ∧ ItB h tp i1 a i ∧ ItB h tq i2 b i) := by
  refine turn_ofT (wr := [z, TO, i1, i2]) (by simp) (fun c hc => ?_) (fun i h st c hc => ?_) (fun i h h' st k => ?_) (fun A i s Q E st h => wpAny_pyIter_zip st.1 h) fun X hP hw hK hc i pins s σ H I st hgs => ?_
  · have e' : c = z ∨ c = TO ∨ c = i1 ∨ c = i2 := by simpa using hc
    rcases e' with q | q | q | q <;> subst q <;> simp
  · obtain ⟨hz, hTI, ⟨x, y, hTO⟩, h1, h2⟩ := st
    have e' : c = z ∨ c = TI ∨ c = TO ∨ c = i1 ∨ c = i2 := by simpa using hc
    rcases e' with q | q | q | q | q
    · rw [q]; exact ⟨_, hz, fun v q => nomatch q⟩
    · rw [q]; exact ⟨_, hTI, fun v q => nomatch q⟩
    · rw [q]; exact ⟨_, hTO, fun v q => nomatch q⟩
    · rw [q]; exact itB_obj h1
    · rw [q]; exact itB_obj h2
  · obtain ⟨hz, hTI, ⟨x, y, hTO⟩, h1, h2⟩ := st
    exact ⟨k z (by simp) _ hz, k TI (by simp) _ hTI, ⟨x, y, k TO (by simp) _ hTO⟩, itB_at h1 (fun o q => k i1 (by simp) o q), itB_at h2 (fun o q => k i2 (by simp) o q)⟩
  · subst hP hw hK
    have hh : X.A.in1.handled = none := I.ok.hd hc
    obtain ⟨hz, hTI, hTO, h1, h2⟩ := st
    have hx : ∃ xs ys, SqB X.K H tp a xs ∧ SqB X.K H tq b ys := by
      rcases hgs with ⟨xs, ys, _, _, q1, q2, _⟩ | ⟨xs, ys, q1, q2, _⟩
      · exact ⟨xs, ys, q1, q2⟩
      · exact ⟨xs, ys, q1, q2⟩
    obtain ⟨xs, ys, qx, qy⟩ := hx
    obtain ⟨its, rv, p⟩ := sqB_inv I qx
    obtain ⟨its2, rv2, p2⟩ := sqB_inv I qy
    have l := rv.length
    have l2 := rv2.length
    refine ⟨_, _, _, _, _, WalksT.zipD2 S (drawB hh tp i1 a ha its.toArray) (drawB hh tq i2 b hb its2.toArray), fun h' q => ⟨q.1, q.2.1, q.2.2.1, q.2.2.2.1.1, q.2.2.2.2.1⟩, fun ⟨xs', ys', x, y, qx', qy', ex, ey⟩ => ?_, fun ⟨xs', ys', qx', qy', el⟩ => ?_⟩
    · obtain rfl := sqB_inj I qx qx'
      obtain rfl := sqB_inj I qy qy'
      have hl := (List.getElem?_eq_some_iff.mp ex).1
      have hl2 := (List.getElem?_eq_some_iff.mp ey).1
      refine ⟨by rw [List.size_toArray, List.size_toArray]; omega, ⟨hz, hTI, hTO, ⟨h1, p⟩, ⟨h2, p2⟩⟩, fun vals ⟨u, u2, hu, hu2, ev⟩ => ?_⟩
      subst ev
      obtain ⟨u', hu', ru⟩ := rv.get ex
      obtain ⟨u2', hu2', ru2⟩ := rv2.get ey
      rw [List.getElem?_toArray, hu'] at hu
      rw [List.getElem?_toArray, hu2'] at hu2
      cases hu
      cases hu2
      exact ⟨[x, y], .cons ru (.cons ru2 .nil), by simp, x, y, rfl, fun zs hz => by rw [sqB_inj I qx hz]; exact ex, fun zs hz => by rw [sqB_inj I qy hz]; exact ey⟩
    · obtain rfl := sqB_inj I qx qx'
      obtain rfl := sqB_inj I qy qy'
      have : i = min its.toArray.size its2.toArray.size := by rw [List.size_toArray, List.size_toArray]; omega
      subst this
      exact ⟨hz, hTI, hTO, ⟨h1, p⟩, ⟨h2, p2⟩⟩
theorem turn_zip3 {P : Program} {w : World} {K : PySem.W.Frag} {elts : List Expr} {kk : Nat} {tpos : Pos} {tp tq tr : Bool} {a b c z TI TO i1 i2 i3 : Addr} (S : ZipSep3 z TI TO i1 i2 i3 [i1, a] [i2, b] [i3, c]) (ha : a ≠ i1) (hb : b ≠ i2) (hc3 : c ≠ i3) :
    Turn P w K (.Tuple elts kk tpos) (Itz3 K tp tq tr a b c) [z, TI, TO, i1, i2, i3] z (fun i h => IsZip h z TI TO .none ∧ IsTupOf3 h TI (.ref i1) (.ref i2) (.ref i3) ∧ (∃ x y u, IsTupOf3 h TO x y u) ∧ ItB h tp i1 a i ∧ ItB h tq i2 b i ∧ ItB h tr i3 c i) := by
  refine turn_ofT (wr := [z, TO, i1, i2, i3]) (by simp) (fun c hc => ?_) (fun i h st c hc => ?_) (fun i h h' st k => ?_) (fun A i s Q E st h => wpAny_pyIter_zip st.1 h) fun X hP hw hK hc i pins s σ H I st hgs => ?_
  · have e' : c = z ∨ c = TO ∨ c = i1 ∨ c = i2 ∨ c = i3 := by simpa using hc
    rcases e' with q | q | q | q | q <;> subst q <;> simp
  · obtain ⟨hz, hTI, ⟨x, y, u, hTO⟩, h1, h2, h3⟩ := st
    have e' : c = z ∨ c = TI ∨ c = TO ∨ c = i1 ∨ c = i2 ∨ c = i3 := by simpa using hc
    rcases e' with q | q | q | q | q | q
    · rw [q]; exact ⟨_, hz, fun v q => nomatch q⟩
    · rw [q]; exact ⟨_, hTI, fun v q => nomatch q⟩
    · rw [q]; exact ⟨_, hTO, fun v q => nomatch q⟩
    · rw [q]; exact itB_obj h1
    · rw [q]; exact itB_obj h2
    · rw [q]; exact itB_obj h3
  · obtain ⟨hz, hTI, ⟨x, y, u, hTO⟩, h1, h2, h3⟩ := st
    exact ⟨k z (by simp) _ hz, k TI (by simp) _ hTI, ⟨x, y, u, k TO (by simp) _ hTO⟩, itB_at h1 (fun o q => k i1 (by simp) o q), itB_at h2 (fun o q => k i2 (by simp) o q), itB_at h3 (fun o q => k i3 (by simp) o q)⟩
  · subst hP hw hK
    have hh : X.A.in1.handled = none := I.ok.hd hc
    obtain ⟨hz, hTI, hTO, h1, h2, h3⟩ := st
    have hx : ∃ xs ys zs, SqB X.K H tp a xs ∧ SqB X.K H tq b ys ∧ SqB X.K H tr c zs := by
      rcases hgs with ⟨xs, ys, zs, _, _, _, q1, q2, q3, _⟩ | ⟨xs, ys, zs, q1, q2, q3, _⟩
      · exact ⟨xs, ys, zs, q1, q2, q3⟩
      · exact ⟨xs, ys, zs, q1, q2, q3⟩
    obtain ⟨xs, ys, zs, qx, qy, qz⟩ := hx
    obtain ⟨its, rv, p⟩ := sqB_inv I qx
    obtain ⟨its2, rv2, p2⟩ := sqB_inv I qy
    obtain ⟨its3, rv3, p3⟩ := sqB_inv I qz
    have l := rv.length
    have l2 := rv2.length
    have l3 := rv3.length
    refine ⟨_, _, _, _, _, WalksT.zipD3 S (drawB hh tp i1 a ha its.toArray) (drawB hh tq i2 b hb its2.toArray) (drawB hh tr i3 c hc3 its3.toArray), fun h' q => ⟨q.1, q.2.1, q.2.2.1, q.2.2.2.1.1, q.2.2.2.2.1.1, q.2.2.2.2.2.1⟩,
      fun ⟨xs', ys', zs', x, y, z, qx', qy', qz', ex, ey, ez⟩ => ?_, fun ⟨xs', ys', zs', qx', qy', qz', el⟩ => ?_⟩
    · obtain rfl := sqB_inj I qx qx'
      obtain rfl := sqB_inj I qy qy'
      obtain rfl := sqB_inj I qz qz'
      have hl := (List.getElem?_eq_some_iff.mp ex).1
      have hl2 := (List.getElem?_eq_some_iff.mp ey).1
      have hl3 := (List.getElem?_eq_some_iff.mp ez).1
      refine ⟨by rw [List.size_toArray, List.size_toArray, List.size_toArray]; omega, ⟨hz, hTI, hTO, ⟨h1, p⟩, ⟨h2, p2⟩, ⟨h3, p3⟩⟩, fun vals ⟨u, u2, u3, hu, hu2, hu3, ev⟩ => ?_⟩
      subst ev
      obtain ⟨u', hu', ru⟩ := rv.get ex
      obtain ⟨u2', hu2', ru2⟩ := rv2.get ey
      obtain ⟨u3', hu3', ru3⟩ := rv3.get ez
      rw [List.getElem?_toArray, hu'] at hu
      rw [List.getElem?_toArray, hu2'] at hu2
      rw [List.getElem?_toArray, hu3'] at hu3
      cases hu
      cases hu2
      cases hu3
      exact ⟨[x, y, z], .cons ru (.cons ru2 (.cons ru3 .nil)), by simp, x, y, z, rfl, fun zs hz => by rw [sqB_inj I qx hz]; exact ex, fun zs hz => by rw [sqB_inj I qy hz]; exact ey, fun zs hz => by rw [sqB_inj I qz hz]; exact ez⟩
    · obtain rfl := sqB_inj I qx qx'
      obtain rfl := sqB_inj I qy qy'
      obtain rfl := sqB_inj I qz qz'
      have : i = min (min its.toArray.size its2.toArray.size) its3.toArray.size := by rw [List.size_toArray, List.size_toArray, List.size_toArray]; omega
      subst this
      exact ⟨hz, hTI, hTO, ⟨h1, p⟩, ⟨h2, p2⟩, ⟨h3, p3⟩⟩
def iZ2 (K : PySem.W.Frag) (ta : TA) : TI := fun σ H R => ta σ H fun vs H1 => ∃ tp tq a b xs ys, vs = [.ref a, .ref b] ∧ SqB K H1 tp a xs ∧ SqB K H1 tq b ys ∧ R (Itz2 K tp tq a b) H1
def iZ3 (K : PySem.W.Frag) (ta : TA) : TI := fun σ H R => ta σ H fun vs H1 => ∃ tp tq tr a b c xs ys zs, vs = [.ref a, .ref b, .ref c] ∧ SqB K H1 tp a xs ∧ SqB K H1 tq b ys ∧ SqB K H1 tr c zs ∧ R (Itz3 K tp tq tr a b c) H1
theorem pi_z2 {X : Cx} {e e2 : Expr} {ta : TA} {p pos tpos : Pos} {elts : List Expr} {kk : Nat} (hg : Gl X "zip") (hm : X.mg "zip" = none) (ha : PA X [e, e2] ta)
    (hs : starEach [e, e2] X.env = (false, eval e X.env) :: starEach [e2] X.env) (hpl : (backTo pos (starEach [e2] X.env)).any (·.1) = false) :
    PI X (.Tuple elts kk tpos) (.Call (.Name "zip" p) [e, e2] [] pos) (iZ2 X.K ta) := by
  refine ⟨fun pins s σ H R I h => ?_⟩
  refine Call_ (ld_blt I hg hm PyProof.Rows.boot_zip (PyProof.Rows.callWith_type1 (thn (ha.run pos pins s σ H _ I h) fun us s1 ⟨vs, H1, I1, r1, q1⟩ => ?_) hs hpl))
  obtain ⟨tp, tq, a, b, xs, ys, rfl, hqx, hqy, q⟩ := q1
  obtain ⟨u, u2, rfl, r, r2⟩ := Vals.two r1
  cases r
  cases r2
  obtain ⟨its, rv, p1⟩ := sqB_inv I1 hqx
  obtain ⟨its2, rv2, p2⟩ := sqB_inv I1 hqy
  have la := isB_lt p1
  have lb := isB_lt p2
  refine zip_begins2 (beginB tp a its.toArray) (beginB tq b its2.toArray) p1 p2 fun h' hz hTI hTO g1 g2 hsz hk => wpAny_pyIter_zip hz ?_
  refine ⟨s1.heap.objs.size + 4, _, _, _, H1, rfl, I1.kept (t' := s1.toks) hk, turn_zip2 (zip_sep2 (fp1 := [a]) (fp2 := [b]) (by simpa using la) (by simpa using lb)) (Nat.ne_of_lt la) (Nat.ne_of_lt (Nat.lt_succ_of_lt lb)), ⟨hz, hTI, ⟨_, _, hTO⟩, obB_it g1, obB_it g2⟩, fun c hcm => ?_, q⟩
  have hle : s1.heap.objs.size ≤ c := by
    have e' : c = s1.heap.objs.size + 4 ∨ c = s1.heap.objs.size + 2 ∨ c = s1.heap.objs.size + 3 ∨ c = s1.heap.objs.size ∨ c = s1.heap.objs.size + 1 := by simpa using hcm
    rcases e' with z | z | z | z | z <;> rw [z] <;> first | exact Nat.le_add_right _ _ | exact Nat.le_refl _
  exact I1.fpOk hle (I1.hok.fresh hle)
theorem pi_z3 {X : Cx} {e e2 e3 : Expr} {ta : TA} {p pos tpos : Pos} {elts : List Expr} {kk : Nat} (hg : Gl X "zip") (hm : X.mg "zip" = none) (ha : PA X [e, e2, e3] ta)
    (hs : starEach [e, e2, e3] X.env = (false, eval e X.env) :: starEach [e2, e3] X.env) (hpl : (backTo pos (starEach [e2, e3] X.env)).any (·.1) = false) :
    PI X (.Tuple elts kk tpos) (.Call (.Name "zip" p) [e, e2, e3] [] pos) (iZ3 X.K ta) := by
  refine ⟨fun pins s σ H R I h => ?_⟩
  refine Call_ (ld_blt I hg hm PyProof.Rows.boot_zip (PyProof.Rows.callWith_type1 (thn (ha.run pos pins s σ H _ I h) fun us s1 ⟨vs, H1, I1, r1, q1⟩ => ?_) hs hpl))
  obtain ⟨tp, tq, tr, a, b, c, xs, ys, zs, rfl, hqx, hqy, hqz, q⟩ := q1
  cases r1 with
  | cons r r1 =>
  obtain ⟨u2, u3, rfl, r2, r3⟩ := Vals.two r1
  cases r
  cases r2
  cases r3
  obtain ⟨its, rv, p1⟩ := sqB_inv I1 hqx
  obtain ⟨its2, rv2, p2⟩ := sqB_inv I1 hqy
  obtain ⟨its3, rv3, p3⟩ := sqB_inv I1 hqz
  have la := isB_lt p1
  have lb := isB_lt p2
  have lc := isB_lt p3
  refine zip_begins3 (beginB tp a its.toArray) (beginB tq b its2.toArray) (beginB tr c its3.toArray) p1 p2 p3 fun h' hz hTI hTO g1 g2 g3 hsz hk => wpAny_pyIter_zip hz ?_
  refine ⟨s1.heap.objs.size + 5, _, _, _, H1, rfl, I1.kept (t' := s1.toks) hk, turn_zip3 (zip_sep3 (fp1 := [a]) (fp2 := [b]) (fp3 := [c]) (by simpa using la) (by simpa using lb) (by simpa using lc)) (Nat.ne_of_lt la) (Nat.ne_of_lt (Nat.lt_succ_of_lt lb)) (Nat.ne_of_lt (Nat.lt_add_right 2 lc)), ⟨hz, hTI, ⟨_, _, _, hTO⟩, obB_it g1, obB_it g2, obB_it g3⟩, fun c hcm => ?_, q⟩
  have hle : s1.heap.objs.size ≤ c := by
    have e' : c = s1.heap.objs.size + 5 ∨ c = s1.heap.objs.size + 3 ∨ c = s1.heap.objs.size + 4 ∨ c = s1.heap.objs.size ∨ c = s1.heap.objs.size + 1 ∨ c = s1.heap.objs.size + 2 := by simpa using hcm
    rcases e' with z | z | z | z | z | z <;> rw [z] <;> first | exact Nat.le_add_right _ _ | exact Nat.le_refl _
  exact I1.fpOk hle (I1.hok.fresh hle)
/-! zip as data -/
def zipT2 : List T → List T → List T
  | x :: xs, y :: ys => .tuple [x, y] :: zipT2 xs ys
  | _, _ => []
def zipT3 : List T → List T → List T → List T
  | x :: xs, y :: ys, z :: zs => .tuple [x, y, z] :: zipT3 xs ys zs
  | _, _, _ => []
theorem zipT2_get : ∀ (xs ys : List T) (i : Nat) (t : T), (zipT2 xs ys)[i]? = some t → ∃ x y, xs[i]? = some x ∧ ys[i]? = some y ∧ t = .tuple [x, y]
  | [], _, i, t, h => by simp [zipT2] at h
  | _ :: _, [], i, t, h => by simp [zipT2] at h
  | x :: xs, y :: ys, 0, t, h => by simp [zipT2] at h; exact ⟨x, y, rfl, rfl, h.symm⟩
  | x :: xs, y :: ys, i + 1, t, h => by simpa using zipT2_get xs ys i t (by simpa [zipT2] using h)
theorem zipT3_get : ∀ (xs ys zs : List T) (i : Nat) (t : T), (zipT3 xs ys zs)[i]? = some t → ∃ x y z, xs[i]? = some x ∧ ys[i]? = some y ∧ zs[i]? = some z ∧ t = .tuple [x, y, z]
  | [], _, _, i, t, h => by simp [zipT3] at h
  | _ :: _, [], _, i, t, h => by simp [zipT3] at h
  | _ :: _, _ :: _, [], i, t, h => by simp [zipT3] at h
  | x :: xs, y :: ys, z :: zs, 0, t, h => by simp [zipT3] at h; exact ⟨x, y, z, rfl, rfl, rfl, h.symm⟩
  | x :: xs, y :: ys, z :: zs, i + 1, t, h => by simpa using zipT3_get xs ys zs i t (by simpa [zipT3] using h)
theorem zipT2_len : ∀ (xs ys : List T), (zipT2 xs ys).length = min xs.length ys.length
  | [], _ => by simp [zipT2]
  | _ :: _, [] => by simp [zipT2]
  | x :: xs, y :: ys => by simp [zipT2, zipT2_len xs ys]
theorem zipT3_len : ∀ (xs ys zs : List T), (zipT3 xs ys zs).length = min (min xs.length ys.length) zs.length
  | [], _, _ => by simp [zipT3]
  | _ :: _, [], _ => by simp [zipT3]
  | _ :: _, _ :: _, [] => by simp [zipT3]
  | x :: xs, y :: ys, z :: zs => by simp [zipT3, zipT3_len xs ys zs]
/-- no walked list is the store's -/
def noRef : D → Bool
  | .ref _ => false
  | _ => true
theorem chk_no {d : D} {ts : List T} {st : Sto} (h : noRef d = true) : (chkOf d ts).ok st := by
  cases d <;> first | trivial | cases h
/-- zip's lists are not the store's, but for one of them -/
def chk2 (d1 d2 : D) (ts us : List T) : Option Chk := if noRef d1 = true then some (chkOf d2 us) else if noRef d2 = true then some (chkOf d1 ts) else none
theorem chk2_ok {d1 d2 : D} {ts us : List T} {c : Chk} {st : Sto} (e : chk2 d1 d2 ts us = some c) (h : c.ok st) : (chkOf d1 ts).ok st ∧ (chkOf d2 us).ok st := by
  unfold chk2 at e
  split at e
  · rename_i q; cases e; exact ⟨chk_no q, h⟩
  · split at e
    · rename_i q; cases e; exact ⟨h, chk_no q⟩
    · cases e
theorem walks_z2 {K : PySem.W.Frag} {g : G} {H : Hp} {st : Sto} {d1 d2 : D} {a b : Addr} {ts us : List T} {c : Chk} (e1 : asSeq st d1 = some ts) (e2 : asSeq st d2 = some us) (ec : chk2 d1 d2 ts us = some c) (r1 : RepD K g H d1 (.ref a)) (r2 : RepD K g H d2 (.ref b)) :
    Walks K g H (Itz2 K (isTD d1) (isTD d2) a b) (zipT2 ts us) c where
  at_ := fun g2 H2 st2 s2 rs2 hc => by
    obtain ⟨c1, c2⟩ := chk2_ok ec hc
    obtain ⟨_, ws, z1, q1, x1⟩ := seq_stays e1 r1 s2 rs2 c1
    obtain ⟨_, vs, z2, q2, x2⟩ := seq_stays e2 r2 s2 rs2 c2
    cases z1
    cases z2
    refine ⟨⟨ws, vs, q1, q2, by rw [zipT2_len, x1.length, x2.length]⟩, fun i t et => ?_⟩
    obtain ⟨x, y, ex, ey, rfl⟩ := zipT2_get _ _ _ _ et
    obtain ⟨w, ew, rw'⟩ := x1.get ex
    obtain ⟨v, ev, rv⟩ := x2.get ey
    refine ⟨⟨ws, vs, w, v, q1, q2, ew, ev⟩, fun x H3 ⟨T, us, e4, hT, e5, y1, y2, e6, hy1, hy2⟩ => ?_⟩
    subst e4 e5 e6
    have p1 := hy1 ws q1
    have p2 := hy2 vs q2
    rw [ew] at p1
    rw [ev] at p2
    cases p1
    cases p2
    exact ⟨Same.new hT, rep_newT hT ⟨_, _, rfl, rw', _, _, rfl, rv, rfl⟩⟩
theorem walks_z3 {K : PySem.W.Frag} {g : G} {H : Hp} {st : Sto} {d1 d2 d3 : D} {a b c : Addr} {ts us zs : List T} (e1 : asSeq st d1 = some ts) (e2 : asSeq st d2 = some us) (e3 : asSeq st d3 = some zs) (ec : noRef d1 = true ∧ noRef d2 = true ∧ noRef d3 = true) (r1 : RepD K g H d1 (.ref a)) (r2 : RepD K g H d2 (.ref b)) (r3 : RepD K g H d3 (.ref c)) :
    Walks K g H (Itz3 K (isTD d1) (isTD d2) (isTD d3) a b c) (zipT3 ts us zs) none where
  at_ := fun g2 H2 st2 s2 rs2 hc => by
    obtain ⟨_, ws, z1, q1, x1⟩ := seq_stays e1 r1 s2 rs2 (chk_no ec.1)
    obtain ⟨_, vs, z2, q2, x2⟩ := seq_stays e2 r2 s2 rs2 (chk_no ec.2.1)
    obtain ⟨_, us, z3, q3, x3⟩ := seq_stays e3 r3 s2 rs2 (chk_no ec.2.2)
    cases z1
    cases z2
    cases z3
    refine ⟨⟨ws, vs, us, q1, q2, q3, by rw [zipT3_len, x1.length, x2.length, x3.length]⟩, fun i t et => ?_⟩
    obtain ⟨x, y, z, ex, ey, ez, rfl⟩ := zipT3_get _ _ _ _ _ et
    obtain ⟨w, ew, rw'⟩ := x1.get ex
    obtain ⟨v, ev, rv⟩ := x2.get ey
    obtain ⟨u, eu, ru⟩ := x3.get ez
    refine ⟨⟨ws, vs, us, w, v, u, q1, q2, q3, ew, ev, eu⟩, fun x H3 ⟨T, us', e4, hT, e5, y1, y2, y3, e6, hy1, hy2, hy3⟩ => ?_⟩
    subst e4 e5 e6
    have p1 := hy1 ws q1
    have p2 := hy2 vs q2
    have p3 := hy3 us q3
    rw [ew] at p1
    rw [ev] at p2
    rw [eu] at p3
    cases p1
    cases p2
    cases p3
    exact ⟨Same.new hT, rep_newT hT ⟨_, _, rfl, rw', _, _, rfl, rv, _, _, rfl, ru, rfl⟩⟩
def mItZ2 (as : ME (List D)) : ME (List T × Chk) := fun env st => (as env st).bind fun ds s1 => match ds with
  | [d1, d2] => match asSeq s1 d1, asSeq s1 d2, chk2 d1 d2 ((asSeq s1 d1).getD []) ((asSeq s1 d2).getD []) with
    | some ts, some us, some c => .ok (zipT2 ts us, c) s1
    | _, _, _ => .bad
  | _ => .bad
def mItZ3 (as : ME (List D)) : ME (List T × Chk) := fun env st => (as env st).bind fun ds s1 => match ds with
  | [d1, d2, d3] => match asSeq s1 d1, asSeq s1 d2, asSeq s1 d3 with
    | some ts, some us, some zs => if noRef d1 = true ∧ noRef d2 = true ∧ noRef d3 = true then .ok (zipT3 ts us zs, none) s1 else .bad
    | _, _, _ => .bad
  | _ => .bad
theorem rep3 {K : PySem.W.Frag} {g : G} {H : Hp} {d d' d'' : D} {vs : List V} (h : RepDs K g H [d, d', d''] vs) : ∃ v v' v'', vs = [v, v', v''] ∧ RepD K g H d v ∧ RepD K g H d' v' ∧ RepD K g H d'' v'' := by
  obtain ⟨v, r, rfl, h1, h2⟩ := h
  obtain ⟨v', v'', rfl, h3, h4⟩ := rep2 h2
  exact ⟨v, v', v'', rfl, h1, h3, h4⟩
section
variable {X : Cx} {E : XK} {p pos tpos : Pos} {e e2 e3 : Expr} {elts : List Expr} {kk : Nat} {mas : ME (List D)}
theorem si_z2 (hm : X.mg "zip" = none) (ha : SA X E [e, e2] mas) (hg : Gl X "zip" := by rfl) (hs : starEach [e, e2] X.env = (false, eval e X.env) :: starEach [e2] X.env := by rfl) (hpl : (backTo pos (starEach [e2] X.env)).any (·.1) = false := by rfl) :
    SI X E (.Tuple elts kk tpos) (.Call (.Name "zip" p) [e, e2] [] pos) (mItZ2 mas) := by
  refine PI.mono (pi_z2 hg hm ha hs hpl) fun σ H Q ⟨g, env, st, re, rs, h⟩ => ⟨g, env, st, re, rs, Post.bind h fun g1 H1 ds s1 vs s rs1 rd h1 => ?_⟩
  split at h1
  · rename_i d1 d2
    split at h1
    · rename_i ts us c e1 e2 ec
      rw [e1, e2] at ec
      obtain ⟨v, u, rfl, rv, ru⟩ := rep2 rd
      obtain ⟨a, ws, rfl, hq, r⟩ := seq_now e1 rs1 rv
      obtain ⟨b, ws2, rfl, hq2, r2⟩ := seq_now e2 rs1 ru
      exact ⟨isTD d1, isTD d2, a, b, ws, ws2, rfl, hq, hq2, h1 g1 H1 _ (Step.refl g1 H1) rs1 (walks_z2 e1 e2 ec rv ru)⟩
    · exact h1.elim
  · exact h1.elim
theorem si_z3 (hm : X.mg "zip" = none) (ha : SA X E [e, e2, e3] mas) (hg : Gl X "zip" := by rfl) (hs : starEach [e, e2, e3] X.env = (false, eval e X.env) :: starEach [e2, e3] X.env := by rfl) (hpl : (backTo pos (starEach [e2, e3] X.env)).any (·.1) = false := by rfl) :
    SI X E (.Tuple elts kk tpos) (.Call (.Name "zip" p) [e, e2, e3] [] pos) (mItZ3 mas) := by
  refine PI.mono (pi_z3 hg hm ha hs hpl) fun σ H Q ⟨g, env, st, re, rs, h⟩ => ⟨g, env, st, re, rs, Post.bind h fun g1 H1 ds s1 vs s rs1 rd h1 => ?_⟩
  split at h1
  · rename_i d1 d2 d3
    split at h1
    · rename_i ts us zs e1 e2 e3
      obtain ⟨hc, h1⟩ := if_bad h1
      obtain ⟨v, u, y, rfl, rv, ru, ry⟩ := rep3 rd
      obtain ⟨a, ws, rfl, hq, r⟩ := seq_now e1 rs1 rv
      obtain ⟨b, ws2, rfl, hq2, r2⟩ := seq_now e2 rs1 ru
      obtain ⟨b3, ws3, rfl, hq3, r3⟩ := seq_now e3 rs1 ry
      exact ⟨isTD d1, isTD d2, isTD d3, a, b, b3, ws, ws2, ws3, rfl, hq, hq2, hq3, h1 g1 H1 _ (Step.refl g1 H1) rs1 (walks_z3 e1 e2 e3 hc rv ru ry)⟩
    · exact h1.elim
  · exact h1.elim
end
end PL

namespace PL
open PySem PySem.Spec L2
open PyProof.Rows hiding St
/-! ### sets of tuples of any keys (the library's road for tuples of ints, told for any kind of key) -/
structure SKind (P : Program) (w : World) (κ : Type) [DecidableEq κ] extends HeapKind P w κ where
  stay : ∀ {h h' : Heap} {k : κ} {a : Addr}, is h k a → (∀ b o vs n, h.get? b = some o → o.data = .seq vs n → h'.get? b = some o) → is h' k a
  seq : ∀ {h : Heap} {k : κ} {a : Addr}, is h k a → ∃ o vs n, h.get? a = some o ∧ o.data = .seq vs n
  ofA : ∀ {A : Around} {E : Value → Shared → Prop} {s : Shared} {k : κ} {b : Addr} {Q : Bool → Shared → Prop}, is s.heap k b → Q false s → wpAny (model P w) A (ofAClassStatement 8 (.ref b)) Q E s
  hby : ∀ {A : Around} {E : Value → Shared → Prop} {s : Shared} {k : κ} {b : Addr} {Q : Bool → Shared → Prop}, is s.heap k b → (∀ c, Q c s) → wpAny (model P w) A (hashByValue 8 (.ref b)) Q E s
section
variable {P : Program} {w : World} {κ : Type} [DecidableEq κ] {kd : SKind P w κ} {A : Around} {E : Value → Shared → Prop} {s : Shared}
theorem isN_keep {h h' : Heap} {k : κ} {b : Addr} (x : kd.is h k b) (hk : ∀ c o, h.get? c = some o → h'.get? c = some o) : kd.is h' k b := kd.stay x fun c o _ _ e _ => hk c o e
theorem isN_same {h h' : Heap} {k : κ} {a b : Addr} {o : Obj} {es : Array (Int × Value)} {ep : Nat} {t : SetTable} (hb : kd.is h k b) (ho : h.get? a = some o) (hd : o.data = .set es ep t) (hs : Heap.SameBut a h h') : kd.is h' k b :=
  kd.stay hb fun c o' vs n e d => (hs.2 c fun z => by subst z; rw [e] at ho; cases ho; rw [d] at hd; cases hd).trans e
/-- a search among them shows nothing -/
theorem seen_N {k : κ} {b : Addr} {Q : Bool → Shared → Prop} (hk : kd.is s.heap k b) {ys : List Value} (hy : ∀ y ∈ ys, ∃ k' c, y = Value.ref c ∧ kd.is s.heap k' c) (h : Q false s) :
    wpAny (model P w) A (searchCouldBeSeen (.ref b) ys) Q E s := by
  unfold searchCouldBeSeen
  refine wpAny_bind (wpAny_forIn_list _ (fun rest r s' => r.1 = none ∧ s' = s ∧ ∀ y ∈ rest, ∃ k' c, y = Value.ref c ∧ kd.is s.heap k' c) _ ?_ ?_ _ _ ⟨rfl, rfl, hy⟩)
  · rintro v rest r s' ⟨hr, rfl, hall⟩
    obtain ⟨k', c, rfl, hc⟩ := hall v List.mem_cons_self
    have more : ∀ y ∈ rest, ∃ k' c, y = Value.ref c ∧ kd.is s'.heap k' c := fun u hu' => hall u (List.mem_cons_of_mem _ hu')
    dsimp only
    by_cases hv : (b == c || (carriedByValue (.ref b) && carriedByValue (.ref c))) = true
    · exact wp_if_pos hv (wpAny_pure ⟨rfl, rfl, more⟩)
    · refine wp_if_neg hv (wpAny_bind (kd.quiet hk ?_))
      simp only [Bool.not_true, Bool.false_eq_true, if_false]
      refine wpAny_bind (kd.quiet hc ?_)
      simp only [Bool.not_true, Bool.false_eq_true, if_false]
      refine wpAny_bind (kd.ofA hk ?_)
      simp only [Bool.false_eq_true, if_false]
      refine wpAny_bind (kd.ofA hc ?_)
      simp only [Bool.false_eq_true, if_false]
      exact wpAny_pure ⟨rfl, rfl, more⟩
  · rintro ⟨r1, r2⟩ s' ⟨hr, rfl, _⟩
    simp only at hr
    subst hr
    exact wpAny_pure h
end
section
variable {P : Program} {w : World} {κ : Type} [DecidableEq κ] {kd : SKind P w κ} {A : Around} {E : Value → Shared → Prop} {s : Shared}
def rowsN (kd : SKind P w κ) (L : List (Addr × κ)) : List (Int × Value) := L.map fun p => (kd.hash p.2, Value.ref p.1)
structure SetN (kd : SKind P w κ) (h : Heap) (a : Addr) (L : List (Addr × κ)) (es : Array (Int × Value)) (ep : Nat) (t : SetTable) : Prop where
  ob : ∃ o, h.get? a = some o ∧ o.ExactSet ∧ o.data = .set es ep t
  rows : es.toList = rowsN kd L
  tab : TabOk t (L.map fun p => kd.hash p.2)
  nd : (L.map (·.2)).Nodup
  tup : ∀ p ∈ L, kd.is h p.2 p.1
  led : w.params.followText "set-order" = true ∨ t.led = true
  room : L.length * 5 < t.mask * 3
  few : L.length < 64
variable {a : Addr} {L : List (Addr × κ)} {es : Array (Int × Value)} {ep : Nat} {t : SetTable}
theorem SetN.size (R : SetN kd s.heap a L es ep t) : es.size = L.length := by
  have h := congrArg List.length R.rows
  unfold rowsN at h
  rw [Array.length_toList, List.length_map] at h
  exact h
theorem SetN.fits (R : SetN kd s.heap a L es ep t) : t.fits es.size = true := by
  have h1 := R.tab.sz
  rw [List.length_map] at h1
  have h2 := R.size
  have h3 := R.room
  unfold SetTable.fits SetTable.fill
  rw [R.tab.dm, Bool.and_eq_true, beq_iff_eq, decide_eq_true_eq]
  show t.place.size = es.size ∧ t.place.size + 0 ≤ t.mask
  omega
theorem SetN.entry (R : SetN kd s.heap a L es ep t) {i : Nat} {p : Addr × κ} (h : L[i]? = some p) : es[i]? = some (kd.hash p.2, Value.ref p.1) := by
  rw [← Array.getElem?_toList, R.rows]
  unfold rowsN
  rw [List.getElem?_map, h] <;> rfl
theorem SetN.gw (R : SetN kd s.heap a L es ep t) : ¬ t.gaveWay = true := by
  unfold SetTable.gaveWay
  rw [mask_odd R.tab.mok]
  decide
/-- THE SEARCH: from the c-th step of the way on -/
theorem searchN_from (R : SetN kd s.heap a L es ep t) {x : Addr} {k : κ} (hx : kd.is s.heap k x) (hu : kd.room A) {K : Nat} (hKf : K < 10 * SetTable.turns t.mask)
    (hK : way t.mask (kd.hash k) K ∉ t.place.toList) (hKb : ∀ c, c < K → way t.mask (kd.hash k) c ∈ t.place.toList) {Q : SetFound → Shared → Prop}
    (hin : k ∈ L.map (·.2) → Q (.there none) s) (hout : k ∉ L.map (·.2) → Q (.free (way t.mask (kd.hash k) K) false) s) :
    ∀ (f c : Nat) (stand : Option SetTable.Probe), stand.getD (t.probeStart (kd.hash k)) = nth t.mask (runAt t.mask (SetTable.bits (kd.hash k) % (t.mask + 1)) (SetTable.bits (kd.hash k))) c → c ≤ K → K - c < f →
      (∀ (i : Nat) p, L[i]? = some p → p.2 = k → ∃ c', c ≤ c' ∧ c' < K ∧ t.place.toList[i]? = some (way t.mask (kd.hash k) c')) →
      wpAny (model P w) A (setSearchFrom a (.ref x) (kd.hash k) true f stand) Q E s
  | 0, c, stand, _, _, hf, _ => absurd hf (Nat.not_lt_zero _)
  | f + 1, c, stand, hst, hc, hf, hre => by
    obtain ⟨o, ho, hex, hd⟩ := R.ob
    rw [setSearchFrom_succ]
    refine wpAny_bind (wpAny_setState_of ho hd R.fits ?_)
    dsimp only
    refine wp_if_neg R.gw ?_
    try refine wpAny_bind (wpAny_pure ?_)
    have hnd : (nth t.mask (runAt t.mask (SetTable.bits (kd.hash k) % (t.mask + 1)) (SetTable.bits (kd.hash k))) c).dummy = none := by
      have key : ∀ (n : Nat) (p : SetTable.Probe), p.dummy = none → (nth t.mask p n).dummy = none := by
        intro n
        induction n with
        | zero => intro p h; exact h
        | succ n ih =>
          intro p h
          refine ih (adv t.mask p) ?_
          unfold adv
          split <;> exact h
      exact key c _ rfl
    have sh : ∀ q, nth t.mask (nth t.mask (runAt t.mask (SetTable.bits (kd.hash k) % (t.mask + 1)) (SetTable.bits (kd.hash k))) c) q = nth t.mask (runAt t.mask (SetTable.bits (kd.hash k) % (t.mask + 1)) (SetTable.bits (kd.hash k))) (c + q) := fun q => (nth_add t.mask c _ q).symm
    have e1 : ∀ q, (nth t.mask (nth t.mask (runAt t.mask (SetTable.bits (kd.hash k) % (t.mask + 1)) (SetTable.bits (kd.hash k))) c) q).j = way t.mask (kd.hash k) (c + q) := fun q => congrArg SetTable.Probe.j (sh q)
    have spec := go_spec t R.tab.ris R.tab.dm (fun i => (es[i]?.map (·.1)).getD 0) (kd.hash k) (10 * SetTable.turns t.mask) (K - c) _ hnd (by omega)
      (fun q hq => by rw [e1]; exact hKb (c + q) (by omega)) (by rw [e1, show c + (K - c) = K by omega]; exact hK)
    have hashAt : ∀ (i : Nat) p, L[i]? = some p → (fun i => (es[i]?.map (·.1)).getD 0) i = kd.hash p.2 := fun i p hp => by
      show (es[i]?.map (·.1)).getD 0 = _
      rw [R.entry hp] <;> rfl
    rcases spec with ⟨q, i, hq, hi, hh, hno, hpr⟩ | ⟨hno, hpr⟩
    · -- a candidate
      have hpr' : t.probe (fun i => (es[i]?.map (·.1)).getD 0) (kd.hash k) (stand.getD (t.probeStart (kd.hash k))) = some (.candidate (way t.mask (kd.hash k) (c + q)) i (nth t.mask (runAt t.mask (SetTable.bits (kd.hash k) % (t.mask + 1)) (SetTable.bits (kd.hash k))) (c + (q + 1)))) := by
        rw [hst, ← e1, ← sh]
        exact hpr
      rw [hpr']
      dsimp only
      rw [e1] at hi
      -- the entry
      have hil : i < L.length := by
        have h1 : i < t.place.toList.length := (List.getElem?_eq_some_iff.mp hi).1
        have h2 := R.tab.sz
        rw [List.length_map] at h2
        rw [Array.length_toList] at h1
        omega
      have hp : L[i]? = some L[i] := List.getElem?_eq_getElem hil
      generalize hpe : L[i] = p at hp
      have hmem : p ∈ L := List.mem_of_getElem? hp
      have hpt := R.tup p hmem
      have rest : wpAny (model P w) A (searchRest a (.ref x) (kd.hash k) true f es t (way t.mask (kd.hash k) (c + q)) i (nth t.mask (runAt t.mask (SetTable.bits (kd.hash k) % (t.mask + 1)) (SetTable.bits (kd.hash k))) (c + (q + 1)))) Q E s := by
        unfold searchRest
        rw [R.entry hp]
        dsimp only
        refine wpAny_bind (wpAny_holding (kd.eqBool hu hpt hx ?_))
        refine wpAny_bind (wpAny_setState_of ho hd R.fits ?_)
        dsimp only
        by_cases hkk : p.2 = k
        · refine wp_if_pos (by simp [hkk]) ?_
          refine wpAny_pure (hin ?_)
          exact List.mem_map.mpr ⟨p, hmem, hkk⟩
        · refine wp_if_neg (by simp [hkk]) ?_
          try refine wpAny_bind (wpAny_pure ?_)
          rw [sameMem]
          dsimp only
          have hsl : t.slot (way t.mask (kd.hash k) (c + q)) = .live i := slot_live R.tab.ris hi
          simp only [if_true, hsl, R.entry hp]
          refine wpAny_bind (wpAny_isSame_ref_self (wpAny_bind (wpAny_pure ?_)))
          simp only [if_true]
          refine wp_if_neg (by simp [hkk]) ?_
          refine searchN_from R hx hu hKf hK hKb hin hout f (c + (q + 1)) _ rfl (by omega) (by omega) fun i0 p0 h0 hk0 => ?_
          obtain ⟨c', a1, a2, a3⟩ := hre i0 p0 h0 hk0
          refine ⟨c', ?_, a2, a3⟩
          -- it isn't passed
          rcases Nat.lt_or_ge c' (c + q) with z | z
          · exfalso
            refine hno (c' - c) i0 (by omega) (by rw [e1, show c + (c' - c) = c' by omega]; exact a3) ?_
            exact (hashAt i0 p0 h0).trans (congrArg (kd.hash) hk0)
          · rcases Nat.lt_or_ge (c + q) c' with y | y
            · omega
            · exfalso
              have ec : c' = c + q := Nat.le_antisymm y z
              rw [ec] at a3
              have s0 := slot_live R.tab.ris a3
              rw [hsl] at s0
              injection s0 with s0
              rw [← s0, hp] at h0
              exact hkk ((congrArg Prod.snd (Option.some.inj h0)).trans hk0)
      by_cases hl : t.led = true
      · refine wp_if_neg (by simp [hl]) ?_
        try refine wpAny_bind (wpAny_pure ?_)
        exact rest
      · refine wp_if_pos (by simp [hl]) ?_
        refine wpAny_bind (seen_N hx (fun y hy => ?_) ?_)
        · obtain ⟨e, he, ee⟩ := List.mem_map.mp hy
          have he1 : e ∈ es ∧ e.1 = kd.hash k := by simpa using he
          have he2 : e ∈ es.toList := by simpa using he1.1
          rw [R.rows] at he2
          obtain ⟨p2, hp2, e2⟩ := List.mem_map.mp he2
          refine ⟨p2.2, p2.1, ?_, R.tup p2 hp2⟩
          rw [← ee, ← e2]
        · refine wp_if_neg (by decide) ?_
          try refine wpAny_bind (wpAny_pure ?_)
          exact rest
    · -- the empty slot
      have hpr' : t.probe (fun i => (es[i]?.map (·.1)).getD 0) (kd.hash k) (stand.getD (t.probeStart (kd.hash k))) = some (.empty (way t.mask (kd.hash k) K) none) := by
        have e2 : way t.mask (kd.hash k) K = (nth t.mask (nth t.mask (runAt t.mask (SetTable.bits (kd.hash k) % (t.mask + 1)) (SetTable.bits (kd.hash k))) c) (K - c)).j := by
          rw [e1, show c + (K - c) = K by omega]
        rw [hst, e2]
        exact hpr
      rw [hpr']
      dsimp only
      refine wpAny_pure (hout fun hm => ?_)
      obtain ⟨p0, h0, hk0⟩ := List.mem_map.mp hm
      obtain ⟨i0, hi0, e0⟩ := List.getElem_of_mem h0
      have h00 : L[i0]? = some p0 := by rw [List.getElem?_eq_getElem hi0, e0]
      obtain ⟨c', a1, a2, a3⟩ := hre i0 p0 h00 hk0
      refine hno (c' - c) i0 (by omega) (by rw [e1, show c + (c' - c) = c' by omega]; exact a3) ?_
      exact (hashAt i0 p0 h00).trans (congrArg (kd.hash) hk0)

/-- the search as adding asks for it -/
theorem searchN_at (R : SetN kd s.heap a L es ep t) {x : Addr} {k : κ} (hx : kd.is s.heap k x) (hu : kd.room A) {Q : SetFound → Shared → Prop}
    (hin : k ∈ L.map (·.2) → Q (.there none) s)
    (hout : ∀ K, k ∉ L.map (·.2) → way t.mask (kd.hash k) K ∉ t.place.toList → (∀ c, c < K → way t.mask (kd.hash k) c ∈ t.place.toList) → Q (.free (way t.mask (kd.hash k) K) false) s) :
    wpAny (model P w) A (setSearch a (.ref x) (kd.hash k) true) Q E s := by
  have hroom := R.room
  obtain ⟨K, hKf, hK, hKb⟩ := R.tab.first (by rw [List.length_map]; omega) (kd.hash k)
  have hbig : K < 100000 := by
    have : 10 * SetTable.turns t.mask ≤ 1420 := by
      unfold SetTable.turns
      rcases R.tab.mok with e | e | e <;> omega
    omega
  unfold setSearch
  refine searchN_from R hx hu hKf hK hKb hin (fun hn => hout K hn hK hKb) 100000 0 none rfl (Nat.zero_le _) (by omega) fun i p hp hk => ?_
  have hi : (L.map fun p => kd.hash p.2)[i]? = some (kd.hash k) := by rw [List.getElem?_map, hp, ← hk] <;> rfl
  have hil : i < t.place.toList.length := by
    have h1 : i < L.length := (List.getElem?_eq_some_iff.mp hp).1
    have h2 := R.tab.sz
    rw [List.length_map] at h2
    rw [Array.length_toList]
    omega
  have hj := List.getElem?_eq_getElem hil
  obtain ⟨c, hc, e⟩ := R.tab.before hK hi hj
  exact ⟨c, Nat.zero_le _, hc, by rw [hj, e]⟩
end
section
variable {P : Program} {w : World} {κ : Type} [DecidableEq κ] {kd : SKind P w κ} {A : Around} {E : Value → Shared → Prop} {s : Shared}
theorem rowsN_put (L : List (Addr × κ)) (p : Nat) (x : Addr) (k : κ) : rowsN kd (L.take p ++ (x, k) :: L.drop p) = (rowsN kd L).take p ++ (kd.hash k, Value.ref x) :: (rowsN kd L).drop p := by
  unfold rowsN
  rw [List.map_append, List.map_cons, List.map_take, List.map_drop]
theorem rowsN_order (L : List (Addr × κ)) (es : Array (Int × Value)) (order : Array Nat) (hr : es.toList = rowsN kd L) (hp : order.toList.Perm (List.range L.length)) :
    ∃ L2, (order.filterMap (es[·]?)).toList = rowsN kd L2 ∧ L2.Perm L ∧ (L2.map fun p => kd.hash p.2) = order.toList.map fun i => (es.map (·.1)).getD i 0 := by
  have hsz : es.size = L.length := by
    have h := congrArg List.length hr
    unfold rowsN at h
    rw [Array.length_toList, List.length_map] at h
    exact h
  have ent : ∀ i (h : i < L.length), es[i]? = some (kd.hash (L[i]).2, Value.ref (L[i]).1) := fun i h => by
    rw [← Array.getElem?_toList, hr]
    unfold rowsN
    rw [List.getElem?_map, List.getElem?_eq_getElem h] <;> rfl
  have key : ∀ l : List Nat, (∀ i ∈ l, i < L.length) → ∃ L2 : List (Addr × κ), l.filterMap (fun i => es[i]?) = rowsN kd L2 ∧ L2 = l.filterMap (fun i => L[i]?) ∧ (L2.map fun p => kd.hash p.2) = l.map fun i => (es.map (·.1)).getD i 0 := by
    intro l
    induction l with
    | nil => intro _; exact ⟨[], rfl, rfl, rfl⟩
    | cons i l ih =>
      intro hl
      have hi := hl i List.mem_cons_self
      obtain ⟨L2, e1, e2, e3⟩ := ih fun j hj => hl j (List.mem_cons_of_mem _ hj)
      refine ⟨L[i] :: L2, ?_, ?_, ?_⟩
      · rw [List.filterMap_cons_some (ent i hi), e1] <;> rfl
      · rw [List.filterMap_cons_some (List.getElem?_eq_getElem hi), e2]
      · rw [List.map_cons, List.map_cons, e3]
        have hi2 : i < (es.map (·.1)).size := by rw [Array.size_map, hsz]; exact hi
        have e4 : (es.map (·.1)).getD i 0 = kd.hash (L[i]).2 := by
          have e5 : (es.map (·.1))[i]? = some (kd.hash (L[i]).2) := by rw [Array.getElem?_map, ent i hi] <;> rfl
          simp [Array.getD_eq_getD_getElem?, e5]
        rw [e4]
  obtain ⟨L2, e1, e2, e3⟩ := key order.toList fun i hi => List.mem_range.mp (hp.mem_iff.mp hi)
  refine ⟨L2, by first | (rw [Array.toList_filterMap]; exact e1) | simpa using e1, ?_, e3⟩
  have h1 : L2.Perm ((List.range L.length).filterMap fun i => L[i]?) := by
    rw [e2]
    exact hp.filterMap _
  have h2 : (List.range L.length).filterMap (fun i => L[i]?) = L := by
    have key2 : ∀ n, n ≤ L.length → (List.range n).filterMap (fun i => L[i]?) = L.take n := by
      intro n
      induction n with
      | zero => intro _; rfl
      | succ n ih =>
        intro hn
        have hlt : n < L.length := hn
        rw [List.range_succ, List.filterMap_append, ih (Nat.le_of_lt hlt), List.take_succ, List.getElem?_eq_getElem hlt]
        rw [List.filterMap_cons_some (List.getElem?_eq_getElem hlt)] <;> rfl
    rw [key2 L.length (Nat.le_refl _), List.take_length]
  rw [h2] at h1
  exact h1

variable {a : Addr} {L : List (Addr × κ)} {es : Array (Int × Value)} {ep : Nat} {t : SetTable}
/-- the table laid anew, larger -/
theorem relayN_at {o : Obj} (ho : s.heap.get? a = some o) (hex : o.ExactSet) (hd : o.data = .set es ep t) (hrows : es.toList = rowsN kd L) (hsz : t.place.size = es.size) (hdm : t.dummies = #[]) (hfl : es.size ≤ t.mask)
    (nd : (L.map (·.2)).Nodup) (tup : ∀ p ∈ L, kd.is s.heap p.2 p.1) (ld : w.params.followText "set-order" = true ∨ t.led = true) (few : L.length < 64) {wanted M : Nat}
    (hw : SetTable.sizeAbove wanted - 1 = M) (hM : MaskOk M) (hw2 : SetTable.sizeAbove wanted ≤ 128) (hn : L.length * 5 < M * 3) {Q : Unit → Shared → Prop}
    (hQ : ∀ h' L' es' ep' t', Heap.SameBut a s.heap h' → SetN kd h' a L' es' ep' t' → L'.Perm L → Q () { s with heap := h' }) : wpAny (model P w) A (setRelay a wanted) Q E s := by
  have hsl : es.size = L.length := by
    have h := congrArg List.length hrows
    unfold rowsN at h
    rw [Array.length_toList, List.length_map] at h
    exact h
  have hfits : t.fits es.size = true := by
    unfold SetTable.fits SetTable.fill
    rw [hdm, Bool.and_eq_true, beq_iff_eq, decide_eq_true_eq]
    show t.place.size = es.size ∧ t.place.size + 0 ≤ t.mask
    omega
  obtain ⟨t', order, e, hp, T, em, el, ep', ed⟩ := relaid_ok t (hs := es.map (·.1)) (wanted := wanted) hw hM (by rw [Array.size_map, hsl]; omega)
  rw [Array.size_map, hsl] at hp
  obtain ⟨L2, r1, r2, r3⟩ := rowsN_order L es order hrows hp
  rw [← r3] at T
  have hs2 : (order.filterMap (es[·]?)).size = es.size := by
    have h := congrArg List.length r1
    unfold rowsN at h
    rw [Array.length_toList, List.length_map, r2.length_eq] at h
    rw [h, hsl]
  rw [setRelay_eq]
  refine wpAny_bind (wpAny_setState_of ho hd hfits ?_)
  dsimp only
  refine wp_if_neg (by rw [sizeLine_eq]; omega) ?_
  try refine wpAny_bind (wpAny_pure ?_)
  rw [e]
  dsimp only
  refine wpAny_bind ?_
  refine wp_if_neg (by rw [hs2]; simp) ?_
  try refine wpAny_bind (wpAny_pure ?_)
  refine wpAny_pure ?_
  dsimp only
  refine wpAny_storeSet_of ho hd ?_ (by rw [hs2, hsl, sizeLine_eq]; omega)
  have sb : Heap.SameBut a s.heap (s.heap.update a (Obj.putSet (order.filterMap (es[·]?)) t')) := Heap.SameBut.update ..
  refine hQ _ L2 (order.filterMap (es[·]?)) (ep + 1) t' sb ?_ r2
  refine ⟨⟨_, store_at ho hd, ⟨hex.1, hex.2.1, hex.2.2⟩, rfl⟩, r1, T, ?_, fun p hpm => isN_same (tup p (r2.mem_iff.mp hpm)) ho hd sb, by rw [el]; exact ld, ?_, by rw [r2.length_eq]; exact few⟩
  · exact (r2.map (·.2)).nodup_iff.mpr nd
  · rw [r2.length_eq, em]
    exact hn

/-- ADDING -/
theorem addN_at (R : SetN kd s.heap a L es ep t) {x : Addr} {k : κ} (hx : kd.is s.heap k x) (hu : kd.room A) (hfew : L.length + 1 < 64) {Q : Bool → Shared → Prop}
    (hQ : ∀ b h' L' es' ep' t', Heap.SameBut a s.heap h' → SetN kd h' a L' es' ep' t' → (k ∈ L.map (·.2) → L' = L) → (k ∉ L.map (·.2) → L'.Perm ((x, k) :: L)) → Q b { s with heap := h' }) :
    wpAny (model P w) A (setAddHashed a (.ref x) (kd.hash k)) Q E s := by
  obtain ⟨o, ho, hex, hd⟩ := R.ob
  have hsl := R.size
  have hroom := R.room
  unfold setAddHashed
  refine wpAny_holding ?_
  rw [show (100000 : Nat) = 99999 + 1 from rfl, setAddHashedIn_succ]
  refine wpAny_bind (wpAny_setState_of ho hd R.fits ?_)
  dsimp only
  refine wp_if_neg (by simp [byScan, Value.scannable]) ?_
  try refine wpAny_bind (wpAny_pure ?_)
  refine wpAny_bind (searchN_at R hx hu (fun hm => ?_) fun K hm hK hb => ?_)
  · dsimp only
    exact wpAny_pure (hQ false s.heap L es ep t (Heap.SameBut.refl a s.heap) R (fun _ => rfl) fun z => absurd hm z)
  · dsimp only
    refine wpAny_bind (wpAny_setState_of ho hd R.fits ?_)
    dsimp only
    obtain ⟨q1, q2, q3, q4, q5, q6, q7, q8, q9⟩ := R.tab.put hK hb
    generalize hpt : t.put (way t.mask (kd.hash k) K) = pt at q1 q3 q4 q5 q6 q7 q8 q9 ⊢
    obtain ⟨t1, p⟩ := pt
    dsimp only at q1 q3 q4 q5 q6 q7 q8 q9 ⊢
    subst q1
    have sameT : ∀ b : Bool, ∃ t2 : SetTable, (if b = true then t1 else { t1 with plain := false }) = t2 ∧ t2.mask = t1.mask ∧ t2.place = t1.place ∧ t2.dummies = t1.dummies ∧ t2.led = t1.led ∧ t2.tooFull = t1.tooFull := fun b => by
      cases b
      · exact ⟨_, rfl, rfl, rfl, rfl, rfl, rfl⟩
      · exact ⟨_, rfl, rfl, rfl, rfl, rfl, rfl⟩
    have byV : ∀ {K1 : Bool → Sem Bool}, (∀ b, wpAny (model P w) A (K1 b) Q E s) → wpAny (model P w) A (if t1.plain = true then hashByValue 8 (.ref x) >>= K1 else pure true >>= K1) Q E s := fun hq => by
      by_cases hpl : t1.plain = true
      · rw [if_pos hpl]; exact wpAny_bind (kd.hby hx hq)
      · rw [if_neg hpl]; exact wpAny_bind (wpAny_pure (hq true))
    refine byV fun bv => ?_
    obtain ⟨t2, et2, m2, pl2, dm2, ld2, tf2⟩ := sameT bv
    rw [et2]
    have q3' := (show TabOk t2 _ from ⟨by rw [pl2]; exact q3.ris, by rw [dm2]; exact q3.dm, by rw [pl2]; exact q3.sz, by rw [m2]; exact q3.mok, by rw [pl2, m2]; exact q3.bd, by rw [pl2, m2]; exact q3.reach⟩)
    have q4' := m2.trans q4
    have q5' := ld2.trans q5
    have q9' : t2.fill = (L.map fun p => kd.hash p.2).length + 1 := by
      rw [← q9]
      unfold SetTable.fill
      rw [pl2, dm2]
    clear q3 q4 q5 q9 tf2 et2
    have q3 := q3'
    have q4 := q4'
    have q5 := q5'
    have q9 := q9'
    clear q3' q4' q5' q9'
    clear m2 pl2 dm2 ld2 byV sameT
    clear hpt q6 q7 q8
    generalize t2 = tt at *
    have hin : (SetTable.insertAt es (SetTable.below t.place (way t.mask (kd.hash k) K)) (kd.hash k, Value.ref x)).toList = rowsN kd (L.take (SetTable.below t.place (way t.mask (kd.hash k) K)) ++ (x, k) :: L.drop (SetTable.below t.place (way t.mask (kd.hash k) K))) := by
      rw [SetTable.toList_insertAt, rowsN_put, R.rows]
    generalize hpp : SetTable.below t.place (way t.mask (kd.hash k) K) = p at q2 q3 hin ⊢
    have pm := put_perm L p (x, k)
    have hlen : (L.take p ++ (x, k) :: L.drop p).length = L.length + 1 := pm.length_eq
    have hhs : (L.take p ++ (x, k) :: L.drop p).map (fun p => kd.hash p.2) = (L.map fun p => kd.hash p.2).take p ++ kd.hash k :: (L.map fun p => kd.hash p.2).drop p := by
      rw [List.map_append, List.map_cons, List.map_take, List.map_drop]
    rw [← hhs] at q3
    have nd1 : ((L.take p ++ (x, k) :: L.drop p).map (·.2)).Nodup := by
      refine (pm.map (·.2)).nodup_iff.mpr ?_
      rw [List.map_cons]
      exact List.nodup_cons.mpr ⟨hm, R.nd⟩
    have hes : (SetTable.insertAt es p (kd.hash k, Value.ref x)).size = L.length + 1 := by
      have h := congrArg List.length hin
      unfold rowsN at h
      rw [Array.length_toList, List.length_map, hlen] at h
      exact h
    generalize SetTable.insertAt es p (kd.hash k, Value.ref x) = es1 at hin hes ⊢
    generalize L.take p ++ (x, k) :: L.drop p = L1 at pm hlen q3 nd1 hin
    refine wpAny_bind (wpAny_storeSet_of ho hd ?_ (by rw [hes, sizeLine_eq]; omega))
    have sb : Heap.SameBut a s.heap (s.heap.update a (Obj.putSet es1 tt)) := Heap.SameBut.update ..
    have ho1 := store_at (es' := es1) (t' := tt) ho hd
    generalize s.heap.update a (Obj.putSet es1 tt) = h1 at sb ho1 ⊢
    have tup1 : ∀ p ∈ L1, kd.is h1 p.2 p.1 := fun p hp => by
      rcases List.mem_cons.mp (pm.mem_iff.mp hp) with e | hp
      · rw [e]; exact isN_same hx ho hd sb
      · exact isN_same (R.tup p hp) ho hd sb
    have ld1 : w.params.followText "set-order" = true ∨ tt.led = true := by rw [q5]; exact R.led
    by_cases hf : tt.tooFull = true
    · first
        | (refine wpAny_bind ?_; refine wp_if_pos (by simp [hf]) ?_)
        | (refine wp_if_pos (by simp [hf]) ?_; refine wpAny_bind ?_)
      have hfull : (L.length + 1) * 5 ≥ tt.mask * 3 := by
        have h := hf
        unfold SetTable.tooFull at h
        rw [decide_eq_true_eq, q9, List.length_map] at h
        exact h
      rw [hsl]
      have hsz1 : tt.place.size = es1.size := by
        have h := q3.sz
        rw [List.length_map, hlen] at h
        rw [h, hes]
      have cases2 : (t.mask = 7 ∧ L.length = 4) ∨ (t.mask = 31 ∧ L.length = 18) := by
        rcases R.tab.mok with e | e | e
        · left; rw [q4, e] at hfull; rw [e] at hroom; exact ⟨e, by omega⟩
        · right; rw [q4, e] at hfull; rw [e] at hroom; exact ⟨e, by omega⟩
        · exfalso; rw [q4, e] at hfull; omega
      have go : ∀ M, SetTable.sizeAbove (SetTable.grown (L.length + 1)) - 1 = M → MaskOk M → SetTable.sizeAbove (SetTable.grown (L.length + 1)) ≤ 128 → (L.length + 1) * 5 < M * 3 →
          wpAny (model P w) A (setRelay a (SetTable.grown (L.length + 1))) (fun _ s' => wpAny (model P w) A (pure true) Q E s') E { s with heap := h1 } := fun M h1' h2' h3' h4' => by
        refine relayN_at (s := { s with heap := h1 }) ho1 ⟨hex.1, hex.2.1, hex.2.2⟩ rfl hin hsz1 q3.dm (by rw [hes, q4]; rcases cases2 with ⟨e, e2⟩ | ⟨e, e2⟩ <;> omega) nd1 tup1 ld1 (by rw [hlen]; exact hfew) h1' h2' h3' (by rw [hlen]; exact h4') ?_
        intro h2 L2 es2 ep2 t2 sb2 R2 pm2
        refine wpAny_pure (hQ true h2 L2 es2 ep2 t2 (sb.trans sb2) R2 (fun z => absurd z hm) fun _ => pm2.trans pm)
      rcases cases2 with ⟨_, e2⟩ | ⟨_, e2⟩
      · refine go 31 (by rw [e2, size_20]) (.inr (.inl rfl)) (by rw [e2, size_20]; decide) (by omega)
      · refine go 127 (by rw [e2, size_76]) (.inr (.inr rfl)) (by rw [e2, size_76]; decide) (by omega)
    · first
        | refine wp_if_neg (by simp [hf]) ?_
        | (refine wpAny_bind ?_; refine wp_if_neg (by simp [hf]) ?_; refine wpAny_pure ?_)
      refine wpAny_pure (hQ true h1 L1 es1 (ep + 1) tt sb ⟨⟨_, ho1, ⟨hex.1, hex.2.1, hex.2.2⟩, rfl⟩, hin, q3, nd1, tup1, ld1, ?_, by rw [hlen]; exact hfew⟩ (fun z => absurd z hm) fun _ => pm)
      have h := hf
      unfold SetTable.tooFull at h
      rw [decide_eq_true_eq, q9, List.length_map] at h
      rw [hlen]
      omega
end
section
variable {P : Program} {w : World} {κ : Type} [DecidableEq κ] {kd : SKind P w κ} {A : Around} {E : Value → Shared → Prop} {s : Shared}
structure GotN (ks : List (Addr × κ)) (i : Nat) (L : List (Addr × κ)) : Prop where
  sub : ∀ p ∈ L, p ∈ ks.take i
  all : ∀ p ∈ ks.take i, p.2 ∈ L.map (·.2)
  len : L.length ≤ i
theorem GotN.zero (ks : List (Addr × κ)) : GotN ks 0 [] := ⟨fun p h => (by cases h), fun p h => (by simp at h), Nat.le_refl _⟩
theorem GotN.same {ks L : List (Addr × κ)} {i : Nat} {x : Addr × κ} (g : GotN ks i L) (h : ks[i]? = some x) (hm : x.2 ∈ L.map (·.2)) : GotN ks (i + 1) L := by
  refine ⟨fun p hp => ?_, fun p hp => ?_, Nat.le_succ_of_le g.len⟩
  · rw [take_next h]
    exact List.mem_append_left _ (g.sub p hp)
  · rw [take_next h] at hp
    rcases List.mem_append.mp hp with z | z
    · exact g.all p z
    · rw [List.mem_singleton.mp z]; exact hm
theorem GotN.more {ks L L' : List (Addr × κ)} {i : Nat} {x : Addr × κ} (g : GotN ks i L) (h : ks[i]? = some x) (pm : L'.Perm (x :: L)) : GotN ks (i + 1) L' := by
  refine ⟨fun p hp => ?_, fun p hp => ?_, ?_⟩
  · rw [take_next h]
    rcases List.mem_cons.mp (pm.mem_iff.mp hp) with e | z
    · rw [e]; exact List.mem_append_right _ (List.mem_singleton.mpr rfl)
    · exact List.mem_append_left _ (g.sub p z)
  · rw [(pm.map (·.2)).mem_iff, List.map_cons]
    rw [take_next h] at hp
    rcases List.mem_append.mp hp with z | z
    · exact List.mem_cons_of_mem _ (g.all p z)
    · rw [List.mem_singleton.mp z]; exact List.mem_cons_self
  · rw [pm.length_eq, List.length_cons]
    exact Nat.succ_le_succ g.len

theorem SetN.keep {h h' : Heap} {a : Addr} {L : List (Addr × κ)} {es : Array (Int × Value)} {ep : Nat} {t : SetTable} (R : SetN kd h a L es ep t) (ha : ∀ o, h.get? a = some o → h'.get? a = some o) (ht : ∀ p ∈ L, kd.is h' p.2 p.1) : SetN kd h' a L es ep t := by
  obtain ⟨o, ho, r⟩ := R.ob
  exact ⟨⟨o, ha o ho, r⟩, R.rows, R.tab, R.nd, ht, R.led, R.room, R.few⟩
/-- a new set -/
theorem setN_fresh {h : Heap} {a : Addr} (ho : h.get? a = some { cls := .type "set", dict := none, data := .set #[] 0 (.fresh 0 0 (!w.params.followText "set-order")) }) : SetN kd h a [] #[] 0 (.fresh 0 0 (!w.params.followText "set-order")) where
  ob := ⟨_, ho, ⟨rfl, rfl, rfl⟩, rfl⟩
  rows := rfl
  tab := ⟨List.Pairwise.nil, rfl, rfl, .inl rfl, fun x hx => (by cases hx), fun i h j hi => (by simp at hi)⟩
  nd := List.nodup_nil
  tup := fun p hp => (by cases hp)
  led := by
    show _ ∨ (!w.params.followText "set-order") = true
    cases w.params.followText "set-order"
    · exact .inr rfl
    · exact .inl rfl
  room := by
    show 0 * 5 < 7 * 3
    decide
  few := by
    show 0 < 64
    decide

/-- set.update's loop -/
theorem setN_update {I : Addr} {fp wr : List Addr} {G : Array GenState → Array GenState → Prop} {n : Nat} {Pv : Nat → Value → Prop} {St : Nat → Shared → Prop} {R : Result → Shared → Prop}
    (W : WalksS P w A.in1 I fp wr G n Pv St) (S : Addr) (hSf : S ∉ fp) (ks : List (Addr × κ)) (hn : n = ks.length) (hfew : ks.length < 64) (hval : ∀ i v, Pv i v → ∃ p, ks[i]? = some p ∧ v = .ref p.1)
    (h0 : Heap) (hk : ∀ p ∈ ks, kd.is h0 p.2 p.1) (hS0 : h0.get? S = none) (hw0 : ∀ b ∈ wr, h0.get? b = none) (hu : kd.room A.in1) :
    ∀ (k i : Nat) (s : Shared), n - i = k → i ≤ n → St i s → (∀ b o, h0.get? b = some o → s.heap.get? b = some o) → (∃ L es ep t, SetN kd s.heap S L es ep t ∧ GotN ks i L) →
      (∀ s' L es ep t, Moved (S :: wr) G s s' → SetN kd s'.heap S L es ep t → GotN ks n L → (∀ b o, h0.get? b = some o → s'.heap.get? b = some o) → R (.ok (.ret .none)) s') →
      codeAny (model P w) A (.builtin "set.update.loop" ⟨[.ref S, .ref I], []⟩) R s := by
  have hSw : S ∉ wr := fun h => hSf (W.sub _ h)
  have hsub : ∀ b ∈ wr, b ∈ S :: wr := fun b hb => List.mem_cons_of_mem _ hb
  have keepM : ∀ {s s' : Shared}, Moved wr G s s' → (∀ b o, h0.get? b = some o → s.heap.get? b = some o) → ∀ b o, h0.get? b = some o → s'.heap.get? b = some o := fun hm hkp b o e =>
    hm.heap b o (fun hb => by rw [hw0 b hb] at e; cases e) (hkp b o e)
  intro k
  induction k with
  | zero =>
    intro i s hk' hi hst hkp ⟨L, es, ep, t, hS, g⟩ hR
    have hin : i = n := by omega
    subst hin
    refine codeAny_builtin F.entry_set_update_loop ?_
    rw [Around.under_plainId F.plain_set_update_loop _]
    show wpAny _ A.in1 (pyNext (.ref I) >>= _) _ _ s
    refine wpAny_bind (W.done s _ _ hst fun s' hm => ?_)
    show wpAny _ A.in1 (ret Value.none) _ _ s'
    have hkp' := keepM hm hkp
    have sub : ∀ p ∈ L, p ∈ ks := fun p hp => List.mem_of_mem_take (g.sub p hp)
    exact wpAny_pure (hR s' L es ep t (hm.mono hsub) (hS.keep (fun o e => hm.heap S o hSw e) fun p hp => isN_keep (hk p (sub p hp)) hkp') g hkp')
  | succ k ih =>
    intro i s hk' hi hst hkp ⟨L, es, ep, t, hS, g⟩ hR
    have hlt : i < n := by omega
    refine codeAny_builtin F.entry_set_update_loop ?_
    rw [Around.under_plainId F.plain_set_update_loop _]
    show wpAny _ A.in1 (pyNext (.ref I) >>= _) _ _ s
    refine wpAny_bind (W.item i s _ _ hlt hst fun v s' hP hst' hm => ?_)
    obtain ⟨p, hp, rfl⟩ := hval i v hP
    have hkp' := keepM hm hkp
    have sub : ∀ p ∈ L, p ∈ ks := fun p hp => List.mem_of_mem_take (g.sub p hp)
    have hS' : SetN kd s'.heap S L es ep t := hS.keep (fun o e => hm.heap S o hSw e) fun q hq => isN_keep (hk q (sub q hq)) hkp'
    have hx : kd.is s'.heap p.2 p.1 := isN_keep (hk p (List.mem_of_getElem? hp)) hkp'
    show wpAny _ A.in1 (holding [Value.ref p.1] (setAdd S (.ref p.1)) >>= _) _ _ s'
    refine wpAny_bind (wpAny_holding ?_)
    unfold setAdd
    refine wpAny_holding ?_
    refine wpAny_bind (kd.pyHash hu hx ?_)
    refine addN_at (s := { s' with toks := s'.toks + kd.draws p.2 }) hS' hx hu (by have := g.len; omega) fun b h' L' es' ep' t' hsb hS2 c1 c2 => ?_
    have g' : GotN ks (i + 1) L' := by
      rcases Classical.em (p.2 ∈ L.map (·.2)) with c | c
      · rw [c1 c]; exact g.same hp c
      · exact g.more hp (c2 c)
    have hkp2 : ∀ b o, h0.get? b = some o → h'.get? b = some o := fun b o e => (hsb.2 b (fun z => by rw [z, hS0] at e; cases e)).trans (hkp' b o e)
    refine wpAny_pure ⟨plainId_quiet F.plain_set_update_loop _, ih (i + 1) _ (by omega) hlt (W.frame _ s' _ _ hst' (Nat.le_add_right _ _) fun b hb o e => ?_) hkp2 ⟨L', es', ep', t', hS2, g'⟩ fun s'' L2 es2 ep2 t2 hm'' hS'' g'' hkp'' => ?_⟩
    · rw [hsb.2 b (fun h : b = S => hSf (by rw [← h]; exact hb))]; exact e
    · refine hR s'' L2 es2 ep2 t2 (Moved.trans W.gtrans ((hm.mono hsub).then_heap (Nat.le_add_right _ _) fun b o hb e => ?_) hm'') hS'' g'' hkp''
      rw [hsb.2 b (fun h : b = S => hb (by rw [h]; exact List.mem_cons_self))]; exact e

set_option maxRecDepth 100000 in
set_option maxHeartbeats 3200000 in
/-- set(xs) -/
theorem call_setN {l : Addr} {items : Array Value} (ks : List (Addr × κ)) {Q : Value → Shared → Prop} (hh : A.handled = none) (hl : s.heap.IsList l items) (hit : items.toList = ks.map fun p => Value.ref p.1)
    (hk : ∀ p ∈ ks, kd.is s.heap p.2 p.1) (hfew : ks.length < 64) (hu : kd.room A.in1.in1.in1)
    (h : ∀ (h' : Heap) (tk : Nat) L es ep t, SetN kd h' s.heap.objs.size L es ep t → GotN ks ks.length L → (∀ b o, s.heap.get? b = some o → h'.get? b = some o) → Q (.ref s.heap.objs.size) { s with heap := h', toks := tk }) :
    wpAny (model P w) A (call (.type "set") [.ref l]) Q E s := by
  have hisz : items.size = ks.length := by
    have q := congrArg List.length hit
    rw [Array.length_toList, List.length_map] at q
    exact q
  obtain ⟨c, tl, hmro⟩ := F.called_set.mro
  have hmade := F.called_set.made
  have hsub := F.called_set.sub
  refine wpAny_call (codeAny_of_tree ?_)
  show wpAny _ _ (callAny (.type "set") _) _ _ _
  refine wpAny_pure ⟨Code.quiet_builtin _ (by decide +kernel), codeAny_builtin F.entry_type_call ?_⟩
  rw [Around.under_plain (weight_type_call_type "set" [.ref l] []) rfl]
  have h1 := F.called_set.notType
  have h2 := F.called_set.canCreate
  have hct := F.typeCall_set_1 (.ref l)
  repeat (any_goals (first | assumption | wp_step))

  refine codeAny_mono (code_set_led1 (.ref l) (E := E) (Q₁ := fun obj s₁ => obj = .ref s.heap.objs.size ∧ s₁ = { s with heap := s.heap.push { cls := .type "set", dict := none, data := .set #[] 0 (.fresh 0 0 (!w.params.followText "set-order")) } }) ⟨rfl, rfl⟩) fun r s₁ hr => ?_
  cases r with
  | error e => exact hr
  | ok fl =>
    cases fl with
    | ret obj =>
      obtain ⟨rfl, rfl⟩ := hr
      have hS : (s.heap.push { cls := .type "set", dict := none, data := .set #[] 0 (.fresh 0 0 (!w.params.followText "set-order")) }).get? s.heap.objs.size = some { cls := .type "set", dict := none, data := .set #[] 0 (.fresh 0 0 (!w.params.followText "set-order")) } := Heap.get?_push_size _ rfl
      have hT : Shared.TypeIs { s with heap := s.heap.push { cls := .type "set", dict := none, data := .set #[] 0 (.fresh 0 0 (!w.params.followText "set-order")) } } (.ref s.heap.objs.size) "set" := ⟨_, hS, rfl⟩
      have hli := F.called_set.init.lookup
      have hbi := F.called_set.init.bind (.ref s.heap.objs.size)
      repeat (any_goals (first | assumption | wp_step))

      refine codeAny_mono (codeAny_call_builtin (R := wants (fun r s₂ => r = .none ∧ ∃ h' tk L es ep t, s₂ = { s with heap := h', toks := tk } ∧ SetN kd h' s.heap.objs.size L es ep t ∧ GotN ks ks.length L ∧
          (∀ b o, s.heap.get? b = some o → h'.get? b = some o)) E) F.called_set.init.plain F.entry_set_init (check_set_init_1 hT ?_)) fun r₂ s₂ hr₂ => ?_
      · obtain ⟨ol, hol, hcl, nl, hdl⟩ := hl
        obtain ⟨ocls, odict, odata, oslots⟩ := ol
        simp only at hcl hdl
        subst hcl; subst hdl
        have hol' : (s.heap.push { cls := .type "set", dict := none, data := .set #[] 0 (.fresh 0 0 (!w.params.followText "set-order")) }).get? l = some { cls := .type "list", dict := odict, data := .seq items nl, slots := oslots } := Heap.get?_push_of_some _ hol
        have hsls := F.sub_list_set
        have hslf := F.sub_list_frozenset
        have hne : (Value.type "list" == Value.type "dict") = false := by decide
        have hl1 : (s.heap.push { cls := .type "set", dict := none, data := .set #[] 0 (.fresh 0 0 (!w.params.followText "set-order")) }).IsList l items := ⟨_, hol', rfl, nl, rfl⟩
        unfold Builtin.«set.__init__» noKeywords Builtin.Frozenset.updateFrom
        generalize hPI : pyIter = PI
        wp_walk
        subst hPI

        refine wpAny_pyIter_list hl1 ?_
        refine wpAny_bind (wpAny_runValue ?_)
        have hlS : l < s.heap.objs.size := Heap.lt_size hol
        have hh3 : A.in1.in1.in1.handled = none := by simp [hh]
        have hz1 : (s.heap.push { cls := .type "set", dict := none, data := .set #[] 0 (.fresh 0 0 (!w.params.followText "set-order")) }).objs.size = s.heap.objs.size + 1 := Heap.size_push ..
        have hneI : l ≠ (s.heap.push { cls := .type "set", dict := none, data := .set #[] 0 (.fresh 0 0 (!w.params.followText "set-order")) }).objs.size := by
          rw [Heap.size_push]; exact Nat.ne_of_lt (Nat.lt_succ_of_lt hlS)
        have hSf : s.heap.objs.size ∉ [(s.heap.push { cls := .type "set", dict := none, data := .set #[] 0 (.fresh 0 0 (!w.params.followText "set-order")) }).objs.size, l] := by
          rw [Heap.size_push]; simp only [List.mem_cons, List.mem_singleton, List.not_mem_nil, or_false, not_or]
          exact ⟨Nat.ne_of_lt (Nat.lt_succ_self _), Nat.ne_of_gt hlS⟩
        have hval : ∀ (i : Nat) (v : Value), items[i]? = some v → ∃ p, ks[i]? = some p ∧ v = .ref p.1 := fun i v hv => by
          have q : items.toList[i]? = some v := by rw [Array.getElem?_toList]; exact hv
          rw [hit, List.getElem?_map] at q
          cases hq : ks[i]? with
          | none => rw [hq] at q; cases q
          | some p =>
            rw [hq] at q
            exact ⟨p, rfl, (Option.some.inj q).symm⟩
        have none_of : ∀ b, s.heap.objs.size ≤ b → s.heap.get? b = none := fun b hb => by
          cases q : s.heap.get? b with
          | none => rfl
          | some o => exact absurd (Nat.lt_of_lt_of_le (Heap.lt_size q) hb) (Nat.lt_irrefl _)
        refine setN_update ((Walks.list hh3 _ l hneI items).toS) s.heap.objs.size
          hSf ks hisz hfew hval s.heap hk (none_of _ (Nat.le_refl _)) (fun b hb => none_of b (by
            rw [List.mem_singleton.mp hb, Heap.size_push]
            exact Nat.le_succ _)) hu (items.size - 0) 0 _ (by omega) (Nat.zero_le _)
          ⟨⟨_, Heap.get?_push_size _ rfl, rfl, rfl⟩, (hl1.push _)⟩ (fun b o e => Heap.get?_push_of_some _ (Heap.get?_push_of_some _ e)) ?hS0 ?hR
        case hS0 =>
          have hget : ((s.heap.push { cls := .type "set", dict := none, data := .set #[] 0 (.fresh 0 0 (!w.params.followText "set-order")) }).push { cls := .type "list_iterator", data := .fields #[.ref l, .int 0 0] }).get? s.heap.objs.size
              = some { cls := .type "set", dict := none, data := .set #[] 0 (.fresh 0 0 (!w.params.followText "set-order")) } := Heap.get?_push_of_some _ hS
          exact ⟨[], #[], 0, _, setN_fresh hget, GotN.zero ks⟩
        case hR =>
          intro s' L es ep t hm hS' g' hkp
          obtain ⟨h', g2, d', tk', os'⟩ := s'
          have eg : g2 = s.gens := hm.gens
          have ed : d' = s.drawn := hm.drawn
          have eo : os' = s.os := hm.os
          subst eg; subst ed; subst eo
          show wpAny _ _ _ _ _ _
          refine wpAny_pure ?_
          show wpAny _ _ (ret Value.none) _ _ _
          rw [hisz] at g'
          exact wpAny_pure ⟨rfl, h', tk', L, es, ep, t, rfl, hS', g', hkp⟩

      · cases r₂ with
        | error e => exact hr₂
        | ok fl₂ =>
          cases fl₂ with
          | ret r =>
            obtain ⟨rfl, h', tk, L, es, ep, t, rfl, hS', g', hk'⟩ := hr₂
            repeat (any_goals (first | assumption | wp_step))
            exact h _ _ _ _ _ _ hS' g' hk'
          | _ => exact hr₂.elim
    | _ => exact hr.elim

/-! ### sorted -/
end
end PL

namespace PL
open PySem PySem.Spec L2
open PyProof.Rows hiding St
/-! #### the keys of data -/
mutual
def keyT : T → Option NestedKey
  | .none => some .none
  | .bool b => some (.num (if b = true then 1 else 0))
  | .int i => some (.num i)
  | .str x => some (.text x)
  | .tuple ts => match keysT ts with
    | some ks => some (.tup ks)
    | Option.none => Option.none
  | .list _ => Option.none
  | .dict _ => Option.none
def keysT : List T → Option (List NestedKey)
  | [] => some []
  | t :: ts => match keyT t, keysT ts with
    | some k, some ks => some (k :: ks)
    | _, _ => Option.none
end
section
variable {X : Cx} {pins : List (Addr × Obj)} {σ : L2.St} {H : Hp} {s : Shared} {g : G}
mutual
theorem key_is (I : Inv X pins σ H s) : ∀ (t : T) (k : NestedKey) (v : V) (u : Value), keyT t = some k → RepT X.K g H t v → RelV v u → NestedIs s.heap k u
  | .none, k, v, u, e, r, q => by cases e; simp only [RepT] at r; subst r; cases q; exact .none
  | .bool b, k, v, u, e, r, q => by cases e; simp only [RepT] at r; subst r; cases q; exact .bool rfl
  | .int i, k, v, u, e, r, q => by cases e; simp only [RepT] at r; subst r; obtain ⟨t, rfl⟩ := q; exact .int _ _
  | .str x, k, v, u, e, r, q => by cases e; simp only [RepT] at r; subst r; obtain ⟨t, rfl⟩ := q; exact .text _ _
  | .tuple ts, k, v, u, e, r, q => by
    simp only [keyT] at e
    split at e
    · rename_i ks ek
      cases e
      simp only [RepT] at r
      obtain ⟨a, vs, rfl, f, r⟩ := r
      cases q
      obtain ⟨its, rv, ⟨o, ho, hc, n, hd⟩, hz⟩ := I.tuple f.sq
      exact .tup ho hc hd (keys_are I ts ks vs its ek r rv)
    · cases e
  | .list _, _, _, _, e, _, _ => by simp [keyT] at e
  | .dict _, _, _, _, e, _, _ => by simp [keyT] at e
theorem keys_are (I : Inv X pins σ H s) : ∀ (ts : List T) (ks : List NestedKey) (vs : List V) (us : List Value), keysT ts = some ks → RepTs X.K g H ts vs → Vals vs us → NestedAll s.heap ks us
  | [], ks, vs, us, e, r, q => by cases e; simp only [RepTs] at r; subst r; cases q; exact .nil
  | t :: ts, ks, vs, us, e, r, q => by
    simp only [keysT] at e
    split at e
    · rename_i k ks' e1 e2
      cases e
      simp only [RepTs] at r
      obtain ⟨v, r', rfl, h1, h2⟩ := r
      cases q with
      | cons q1 q2 => exact .cons (key_is I t k v _ e1 h1 q1) (keys_are I ts ks' r' _ e2 h2 q2)
    · cases e
end
end
theorem hby_all {P : Program} {w : World} : ∀ (n : Nat) (k : NestedKey) (u : Value) (A : Around) (E : Value → Shared → Prop) (s : Shared) (Q : Bool → Shared → Prop), NestedIs s.heap k u → (∀ b, Q b s) → wpAny (model P w) A (hashByValue n u) Q E s
  | n, .none, u, A, E, s, Q, x, h => by cases x; cases n <;> exact wpAny_pure (h true)
  | n, .num i, u, A, E, s, Q, x, h => by cases x <;> cases n <;> exact wpAny_pure (h true)
  | n, .text z, u, A, E, s, Q, x, h => by cases x; cases n <;> exact wpAny_pure (h false)
  | 0, .tup ks, u, A, E, s, Q, x, h => by cases x; exact wpAny_pure (h false)
  | n + 1, .tup ks, u, A, E, s, Q, x, h => by
    cases x with
    | @tup a o vs m _ ho hc hd hk =>
    have hT : s.TypeIs (.ref a) "tuple" := ⟨o, ho, hc⟩
    unfold hashByValue
    refine wpAny_bind (wpAny_specialOf hT F.slot_tuple_hash.lookup ?_)
    show wpAny _ _ (seqItems? (.ref a) >>= _) _ _ s
    refine wpAny_bind (wpAny_seqItems ho hd ?_)
    have each : ∀ v ∈ vs.toList, ∃ k, NestedIs s.heap k v := by
      have key : ∀ (ks : List NestedKey) (us : List Value), NestedAll s.heap ks us → ∀ v ∈ us, ∃ k, NestedIs s.heap k v := by
        intro ks
        induction ks with
        | nil => intro us x v hv; cases x; cases hv
        | cons k ks ih =>
          intro us x v hv
          cases x with
          | cons x1 x2 =>
            rcases List.mem_cons.mp hv with e | hv
            · rw [e]; exact ⟨k, x1⟩
            · exact ih _ x2 v hv
      exact key ks _ hk
    refine wpAny_bind ?_
    show wpAny _ _ (forIn vs _ _) _ _ s
    rw [← Array.forIn_toList]
    refine wpAny_forIn_list _ (fun rest r s' => r.1 = none ∧ s' = s ∧ ∀ v ∈ rest, ∃ k, NestedIs s.heap k v) _ ?_ ?_ _ _ ⟨rfl, rfl, each⟩
    · rintro v rest r s' ⟨hr, rfl, hall⟩
      obtain ⟨k, hv⟩ := hall v List.mem_cons_self
      refine wpAny_bind (hby_all n k v _ _ _ _ hv fun b => ?_)
      cases b
      · simp only [Bool.not_false, if_true]
        exact wpAny_pure (wpAny_pure (h _))
      · simp only [Bool.not_true, Bool.false_eq_true, if_false]
        exact wpAny_pure ⟨rfl, rfl, fun u hu' => hall u (List.mem_cons_of_mem _ hu')⟩
    · rintro ⟨r1, r2⟩ s' ⟨hr, rfl, _⟩
      simp only at hr
      subst hr
      exact wpAny_pure (h _)
theorem nest_each {h : Heap} {n : Nat} : ∀ (ks : List NestedKey) (us : List Value), NestedAll h ks us → NestedKey.depthAll ks ≤ n → ∀ v ∈ us, ∃ k, NestedIs h k v ∧ k.depth ≤ n
  | [], us, x, _, v, hv => by cases x; cases hv
  | k :: ks, us, x, hd, v, hv => by
    simp only [NestedKey.depthAll] at hd
    cases x with
    | cons x1 x2 =>
      rcases List.mem_cons.mp hv with e | hv
      · rw [e]; exact ⟨k, x1, by omega⟩
      · exact nest_each ks _ x2 (by omega) v hv
theorem ofA_all {P : Program} {w : World} : ∀ (n : Nat) (k : NestedKey) (u : Value) (A : Around) (E : Value → Shared → Prop) (s : Shared) (Q : Bool → Shared → Prop), NestedIs s.heap k u → k.depth ≤ n → Q false s → wpAny (model P w) A (ofAClassStatement n u) Q E s
  | n, .none, u, A, E, s, Q, x, _, h => by cases x; cases n <;> exact wpAny_pure h
  | n, .num i, u, A, E, s, Q, x, _, h => by cases x <;> cases n <;> exact wpAny_pure h
  | n, .text z, u, A, E, s, Q, x, _, h => by cases x; cases n <;> exact wpAny_pure h
  | 0, .tup ks, u, A, E, s, Q, x, hd, h => by simp [NestedKey.depth] at hd
  | n + 1, .tup ks, u, A, E, s, Q, x, hdp, h => by
    cases x with
    | @tup a o vs m _ ho hc hd hk =>
    have hT : s.TypeIs (.ref a) "tuple" := ⟨o, ho, hc⟩
    simp only [NestedKey.depth] at hdp
    have each := nest_each (n := n) ks _ hk (by omega)
    unfold ofAClassStatement
    refine wpAny_bind (wpAny_typeOf hT ?_)
    dsimp only
    have e : (("tuple" : String) == "tuple") = true := by decide
    simp only [e, if_true, Bool.not_true, Bool.false_eq_true, if_false]
    try refine wpAny_bind (wpAny_pure ?_)
    try simp only [Bool.not_true, Bool.false_eq_true, if_false]
    show wpAny _ _ (seqItems? (.ref a) >>= _) _ _ s
    refine wpAny_bind (wpAny_seqItems ho hd ?_)
    dsimp only
    refine wpAny_bind ?_
    show wpAny _ _ (forIn vs _ _) _ _ s
    rw [← Array.forIn_toList]
    refine wpAny_forIn_list _ (fun rest r s' => r.1 = none ∧ s' = s ∧ ∀ v ∈ rest, ∃ k, NestedIs s.heap k v ∧ k.depth ≤ n) _ ?_ ?_ _ _ ⟨rfl, rfl, each⟩
    · rintro v rest r s' ⟨hr, rfl, hall⟩
      obtain ⟨k, hv, hkd⟩ := hall v List.mem_cons_self
      refine wpAny_bind (ofA_all n k v _ _ _ _ hv hkd ?_)
      simp only [Bool.false_eq_true, if_false]
      exact wpAny_pure ⟨rfl, rfl, fun u hu' => hall u (List.mem_cons_of_mem _ hu')⟩
    · rintro ⟨r1, r2⟩ s' ⟨hr, rfl, _⟩
      simp only at hr
      subst hr
      exact wpAny_pure h
def nestS (P : Program) (w : World) : SKind P w NestedKey where
  toHeapKind := nestedKind P w
  stay := fun x hk => nestedKind_stays.stays hk x
  seq := fun x => by
    obtain ⟨x, _⟩ := x
    cases x with
    | tup h1 h2 h3 _ => exact ⟨_, _, _, h1, h3⟩
  ofA := fun hk h => ofA_all 8 _ _ _ _ _ _ hk.1 hk.2 h
  hby := fun hk h => hby_all 8 _ _ _ _ _ _ hk.1 h
/-! #### len(set(xs)) -/
/-- how many there are, one of each -/
def nDist : List NestedKey → Nat
  | [] => 0
  | k :: ks => if k ∈ ks then nDist ks else nDist ks + 1
def oneEach : List NestedKey → List NestedKey
  | [] => []
  | k :: ks => if k ∈ ks then oneEach ks else k :: oneEach ks
theorem oneEach_len : ∀ ks, (oneEach ks).length = nDist ks
  | [] => rfl
  | k :: ks => by unfold oneEach nDist; split <;> simp [oneEach_len ks]
theorem oneEach_mem : ∀ (ks : List NestedKey) (x : NestedKey), x ∈ oneEach ks ↔ x ∈ ks
  | [], x => by simp [oneEach]
  | k :: ks, x => by
    unfold oneEach
    split
    · rename_i h
      rw [oneEach_mem ks x, List.mem_cons]
      exact ⟨.inr, fun h' => h'.elim (fun e => e ▸ h) id⟩
    · rw [List.mem_cons, List.mem_cons, oneEach_mem ks x]
theorem oneEach_nodup : ∀ ks : List NestedKey, (oneEach ks).Nodup
  | [] => List.nodup_nil
  | k :: ks => by
    unfold oneEach
    split
    · exact oneEach_nodup ks
    · rename_i h
      exact List.nodup_cons.mpr ⟨fun z => h ((oneEach_mem ks k).mp z), oneEach_nodup ks⟩
theorem nodup_len : ∀ (xs ys : List NestedKey), xs.Nodup → (∀ x ∈ xs, x ∈ ys) → xs.length ≤ ys.length
  | [], _, _, _ => Nat.zero_le _
  | x :: xs, ys, h, hs => by
    obtain ⟨h1, h2⟩ := List.nodup_cons.mp h
    have hx := hs x List.mem_cons_self
    have := nodup_len xs (ys.erase x) h2 fun y hy => (List.mem_erase_of_ne (fun e => h1 (by rw [← e]; exact hy))).mpr (hs y (List.mem_cons_of_mem _ hy))
    rw [List.length_erase_of_mem hx] at this
    have : 0 < ys.length := List.length_pos_of_mem hx
    simp only [List.length_cons]
    omega
theorem dist_of {L : List (Addr × NestedKey)} {ks : List (Addr × NestedKey)} (nd : (L.map (·.2)).Nodup) (g : GotN ks ks.length L) : L.length = nDist (ks.map (·.2)) := by
  have e : ks.take ks.length = ks := List.take_length
  have sub := g.sub
  have all := g.all
  rw [e] at sub all
  have h1 := nodup_len (L.map (·.2)) (oneEach (ks.map (·.2))) nd fun x hx => by
    obtain ⟨p, hp, rfl⟩ := List.mem_map.mp hx
    exact (oneEach_mem _ _).mpr (List.mem_map.mpr ⟨p, sub p hp, rfl⟩)
  have h2 := nodup_len (oneEach (ks.map (·.2))) (L.map (·.2)) (oneEach_nodup _) fun x hx => by
    obtain ⟨p, hp, rfl⟩ := List.mem_map.mp ((oneEach_mem _ _).mp hx)
    exact all p hp
  rw [oneEach_len, List.length_map] at h1 h2
  omega
def isTupT : T → Bool
  | .tuple _ => true
  | _ => false
section
variable {X : Cx} {pins : List (Addr × Obj)} {σ : L2.St} {H : Hp} {s : Shared} {g : G}
theorem pairs_of (I : Inv X pins σ H s) : ∀ (ts : List T) (ks : List NestedKey) (vs : List V) (us : List Value), keysT ts = some ks → ts.all isTupT = true → NestedKey.depthAll ks ≤ 8 → RepTs X.K g H ts vs → Vals vs us →
    ∃ ps : List (Addr × NestedKey), us = ps.map (fun p => Value.ref p.1) ∧ ps.map (·.2) = ks ∧ ∀ p ∈ ps, (nestS X.prog X.w).is s.heap p.2 p.1
  | [], ks, vs, us, e, _, _, r, q => by cases e; simp only [RepTs] at r; subst r; cases q; exact ⟨[], rfl, rfl, fun p hp => by cases hp⟩
  | t :: ts, ks, vs, us, e, f, d, r, q => by
    simp only [keysT] at e
    split at e
    · rename_i k ks' e1 e2
      cases e
      simp only [List.all_cons, Bool.and_eq_true] at f
      simp only [NestedKey.depthAll] at d
      simp only [RepTs] at r
      obtain ⟨v, r', rfl, h1, h2⟩ := r
      cases q with
      | cons q1 q2 =>
        obtain ⟨ps, a1, a2, a3⟩ := pairs_of I ts ks' r' _ e2 f.2 (by omega) h2 q2
        have hk := key_is I t k v _ e1 h1 q1
        cases t with
        | tuple us' =>
          simp only [RepT] at h1
          obtain ⟨a, vs', rfl, _⟩ := h1
          cases q1
          refine ⟨(a, k) :: ps, by rw [a1]; rfl, by rw [← a2]; rfl, fun p hp => ?_⟩
          rcases List.mem_cons.mp hp with rfl | hp
          · exact ⟨hk, by show k.depth ≤ 8; omega⟩
          · exact a3 p hp
        | _ => exact absurd f.1 Bool.false_ne_true
    · cases e
end
def tLenSetN (K : PySem.W.Frag) (ta : TE) : TE := fun σ H Q => ta σ H fun x H1 => ∃ (g : G) (ts : List T) (ks : List NestedKey) (a : Addr) (vs : List V), x = V.ref a ∧ SqL K H1 a vs ∧ RepTs K g H1 ts vs ∧ keysT ts = some ks ∧ ts.all isTupT = true ∧ NestedKey.depthAll ks ≤ 8 ∧ ts.length < 64 ∧ Q (.int (nDist ks : Nat)) H1
theorem pe_lenSetN {X : Cx} {a : Expr} {ta : TE} {p p2 q pos : Pos} (hc : X.calm = true) (hu : X.A.units + 16 < cLine) (hg : Gl X "len") (hm : X.mg "len" = none) (hg2 : Gl X "set") (hm2 : X.mg "set" = none) (ha : PE X a ta)
    (na : starEach [a] X.env = (false, eval a X.env) :: starEach [] X.env) : PE X (.Call (.Name "len" p) [.Call (.Name "set" p2) [a] [] q] [] pos) (tLenSetN X.K ta) := by
  refine ⟨fun pins s σ H Q I h => ?_⟩
  refine Call_ (ld_blt I hg hm PySem.boot_len (PyProof.Rows.callWith_builtin1 (PyProof.Rows.args_cons ?_ rfl) rfl rfl))
  refine Call_ (ld_blt I hg2 hm2 PyProof.Rows.boot_set (PyProof.Rows.callWith_type1 (PyProof.Rows.args_cons (thn (ha.run pins s σ H _ I h) fun v s1 ⟨x, H1, I1, r1, q1⟩ => PyProof.Rows.args_nil ?_) na) na rfl))
  obtain ⟨g, ts, ks, b, vs, rfl, hq, rt, ek, ft, hd, hl, q1⟩ := q1
  cases r1
  obtain ⟨its, r, pl, hz⟩ := I1.list hq
  obtain ⟨ps, e1, e2, e3⟩ := pairs_of I1 ts ks vs its ek ft hd rt r
  have l1 : ps.length = ts.length := by rw [rt.length, r.length, e1, List.length_map]
  refine call_setN (kd := nestS X.prog X.w) ps (I1.ok.hd hc) pl.isList (by simpa using e1) e3 (by omega) (show X.A.units + 1 + 1 + 1 + 8 < cLine by omega) fun h' tk L es ep t R gt k => PyProof.Rows.args_nil ?_
  obtain ⟨o, ho, hex, hd2⟩ := R.ob
  have rz := R.size (s := { s1 with heap := h', toks := tk })
  have rf := R.fits (s := { s1 with heap := h', toks := tk })
  have few := R.few
  have e4 := dist_of R.nd gt
  rw [e2] at e4
  have I2 : Inv X pins σ H1 { s1 with heap := h', toks := tk } := I1.kept k
  exact call_len_set ho hex hd2 rf (by rw [rz]; omega) ⟨.int (nDist ks : Nat), H1, I2.tok _, ⟨_, by rw [rz, e4]⟩, q1⟩
def mLenSet (m : ME D) : ME D := fun env st => (m env st).bind fun d s1 => match asL s1 d with
  | some ts => match keysT ts with
    | some ks => if ts.all isTupT = true ∧ NestedKey.depthAll ks ≤ 8 ∧ ts.length < 64 then .ok (.v (.int (nDist ks : Nat))) s1 else .bad
    | none => .bad
  | none => .bad
theorem se_lenSetN {X : Cx} {E : XK} {a : Expr} {ma : ME D} {p p2 q pos : Pos} (hc : X.calm = true) (hu : X.A.units + 16 < cLine) (hm : X.mg "len" = none) (hm2 : X.mg "set" = none) (ha : SE X E a ma) (hg : Gl X "len" := by rfl) (hg2 : Gl X "set" := by rfl)
    (na : starEach [a] X.env = (false, eval a X.env) :: starEach [] X.env := by rfl) : SE X E (.Call (.Name "len" p) [.Call (.Name "set" p2) [a] [] q] [] pos) (mLenSet ma) := by
  refine PE.mono (pe_lenSetN hc hu hg hm hg2 hm2 ha na) fun σ H Q ⟨g, env, st, re, rs, h⟩ => ⟨g, env, st, re, rs, Post.bind h fun g1 H1 d s1 v s rs1 rd h1 => ?_⟩
  split at h1
  · rename_i ts e
    split at h1
    · rename_i ks ek
      obtain ⟨⟨h2, h3, h4⟩, h1⟩ := if_bad h1
      obtain ⟨b, vs, rfl, hq, r⟩ := asL_ok e rs1 rd
      exact ⟨g1, ts, ks, b, vs, rfl, hq, r, ek, h2, h3, h4, Post.at rs1 (rep_v.2.2.1 _) h1⟩
    · exact h1.elim
  · exact h1.elim
end PL

namespace PL
open PySem PySem.Spec L2
open PyProof.Rows hiding St
/-! ### repr of data (empty dicts among it) -/
mutual
inductive Dx (K : PySem.W.Frag) (H : Hp) : V → PyData → Prop
  | non : Dx K H .non .none
  | bl (b : Bool) : Dx K H (.bl b) (.bool b)
  | int (i : Int) : Dx K H (.int i) (.int i)
  | str (x : Str) : Dx K H (.str x) (.str x)
  | lst {a : Addr} {xs : List V} {ds : List PyData} : SqL K H a xs → DxAll K H xs ds → Dx K H (.ref a) (.list ds)
  | tup {a : Addr} {xs : List V} {ds : List PyData} : SqT K H a xs → DxAll K H xs ds → Dx K H (.ref a) (.tuple ds)
  | dic {a : Addr} : H a = some (.dK []) → Dx K H (.ref a) (.dict [])
inductive DxAll (K : PySem.W.Frag) (H : Hp) : List V → List PyData → Prop
  | nil : DxAll K H [] []
  | cons {v : V} {vs : List V} {d : PyData} {ds : List PyData} : Dx K H v d → DxAll K H vs ds → DxAll K H (v :: vs) (d :: ds)
end
section
variable {K : PySem.W.Frag} {g : G} {H : Hp}
mutual
theorem dx_of : ∀ (t : T) (v : V), RepT K g H t v → Dx K H v t
  | .none, v, h => by simp only [RepT] at h; subst h; exact .non
  | .bool b, v, h => by simp only [RepT] at h; subst h; exact .bl b
  | .int b, v, h => by simp only [RepT] at h; subst h; exact .int b
  | .str b, v, h => by simp only [RepT] at h; subst h; exact .str b
  | .list ts, v, h => by
    simp only [RepT] at h
    obtain ⟨a, vs, rfl, f, r⟩ := h
    exact .lst f.sq (dxs_of ts vs r)
  | .tuple ts, v, h => by
    simp only [RepT] at h
    obtain ⟨a, vs, rfl, f, r⟩ := h
    exact .tup f.sq (dxs_of ts vs r)
  | .dict kvs, v, h => by
    simp only [RepT] at h
    obtain ⟨rfl, a, rfl, h1, _⟩ := h
    exact .dic h1
theorem dxs_of : ∀ (ts : List T) (vs : List V), RepTs K g H ts vs → DxAll K H vs ts
  | [], vs, h => by simp only [RepTs] at h; subst h; exact .nil
  | t :: ts, vs, h => by
    simp only [RepTs] at h
    obtain ⟨v, r, rfl, h1, h2⟩ := h
    exact .cons (dx_of t v h1) (dxs_of ts r h2)
end
end
/-! what stands in the heap -/
mutual
inductive Sh (h : Heap) : Value → PyData → Prop
  | none : Sh h .none .none
  | bool (b) : Sh h (.bool b) (.bool b)
  | int (i t) : Sh h (.int i t) (.int i)
  | str (x t) : Sh h (.str x t) (.str x)
  | list {a o vs n xs} : h.get? a = some o → o.cls = .type "list" → o.data = .seq vs n → ShAll h vs.toList xs → Sh h (.ref a) (.list xs)
  | tuple {a o vs n xs} : h.get? a = some o → o.cls = .type "tuple" → o.data = .seq vs n → ShAll h vs.toList xs → Sh h (.ref a) (.tuple xs)
  | dict {a o n} : h.get? a = some o → o.cls = .type "dict" → o.data = .dict #[] n → (a == sysModules) = false → Sh h (.ref a) (.dict [])
inductive ShAll (h : Heap) : List Value → List PyData → Prop
  | nil : ShAll h [] []
  | cons {v vs d ds} : Sh h v d → ShAll h vs ds → ShAll h (v :: vs) (d :: ds)
end
section
variable {X : Cx} {pins : List (Addr × Obj)} {σ : L2.St} {H : Hp} {s : Shared}
mutual
theorem Dx.sh (I : Inv X pins σ H s) : ∀ (d : PyData) (v : V) (u : Value), Dx X.K H v d → RelV v u → Sh s.heap u d
  | .none, _, _, h, r => by cases h; cases r; exact .none
  | .bool b, _, _, h, r => by cases h; cases r; exact .bool b
  | .int i, _, _, h, r => by cases h; obtain ⟨t, rfl⟩ := r; exact .int i t
  | .str x, _, _, h, r => by cases h; obtain ⟨t, rfl⟩ := r; exact .str x t
  | .list ds, _, _, h, r => by
    cases h with
    | lst hs ha =>
      cases r
      obtain ⟨its, rv, ⟨o, n, ho, hc, _, hd⟩, _⟩ := I.list hs
      exact .list ho hc hd (DxAll.sh I ds _ its ha rv)
  | .tuple ds, _, _, h, r => by
    cases h with
    | tup hs ha =>
      cases r
      obtain ⟨its, rv, ⟨o, ho, hc, n, hd⟩, _⟩ := I.tuple hs
      exact .tuple ho hc hd (DxAll.sh I ds _ its ha rv)
  | .dict kvs, _, _, h, r => by
    cases h with
    | dic ha =>
      cases r
      obtain ⟨_, hm, vs, kv, hd⟩ := dk_of I.hok ha
      cases kv
      obtain ⟨o, es, ep, ho, hx, hdt, _, hp, _⟩ := hd
      have hl := hp.length
      have he : es = #[] := Array.eq_empty_of_size_eq_zero (by simpa using hl)
      subst he
      exact .dict ho hx.1 hdt hm
theorem DxAll.sh (I : Inv X pins σ H s) : ∀ (ds : List PyData) (vs : List V) (us : List Value), DxAll X.K H vs ds → Vals vs us → ShAll s.heap us ds
  | [], _, _, h, r => by cases h; cases r; exact .nil
  | d :: ds, _, _, h, r => by
    cases h with
    | cons h1 h2 =>
      cases r with
      | cons r1 r2 => exact .cons (Dx.sh I d _ _ h1 r1) (DxAll.sh I ds _ _ h2 r2)
end
end
section
variable {h₀ : Heap}
mutual
theorem Sh.reads : ∀ {v : Value} {d : PyData}, Sh h₀ v d → ∃ as, Reads h₀ v d as
  | _, _, .none => ⟨_, .none⟩
  | _, _, .bool b => ⟨_, .bool b⟩
  | _, _, .int i t => ⟨_, .int i t⟩
  | _, _, .str x t => ⟨_, .str x t⟩
  | _, _, .list h1 h2 h3 h4 => let ⟨_, r⟩ := ShAll.reads h4; ⟨_, .list h1 h2 h3 r⟩
  | _, _, .tuple h1 h2 h3 h4 => let ⟨_, r⟩ := ShAll.reads h4; ⟨_, .tuple h1 h2 h3 r⟩
  | _, _, .dict h1 h2 h3 _ => ⟨_, .dict (kvs := []) h1 h2 h3 .nil .nil⟩
theorem ShAll.reads : ∀ {vs : List Value} {ds : List PyData}, ShAll h₀ vs ds → ∃ as, ReadsAll h₀ vs ds as
  | _, _, .nil => ⟨_, .nil⟩
  | _, _, .cons h1 h2 => let ⟨_, r⟩ := Sh.reads h1; let ⟨_, r2⟩ := ShAll.reads h2; ⟨_, .cons r r2⟩
end
variable {prog : Program} {w : World}
mutual
theorem Sh.shows : ∀ {v : Value} {d : PyData}, Sh h₀ v d → d.showable = true → d.shown.length ≤ sizeLine → ∃ bs, ReadAtMost h₀ d.depth bs ∧ ReprK prog w bs h₀ d.depth v d.shown
  | _, _, .none, _, _ => ⟨[], (fun _ h => nomatch h), by simp only [PyData.shown]; exact .of_is ReprIs.none _ _ _⟩
  | _, _, .bool b, _, _ => ⟨[], (fun _ h => nomatch h), by simp only [PyData.shown]; exact .of_is (ReprIs.bool b) _ _ _⟩
  | _, _, .int i t, hs, _ => ⟨[], (fun _ h => nomatch h), by simp only [PyData.shown]; exact .of_is (ReprIs.int t (by simpa [PyData.showable] using hs)) _ _ _⟩
  | _, _, .str x t, _, hz => ⟨[], (fun _ h => nomatch h), by simp only [PyData.shown]; exact .of_is (ReprIs.str x t (by simpa only [PyData.shown] using hz)) _ _ _⟩
  | _, _, .list (a := a) (vs := vs) (xs := xs) h1 h2 h3 h4, hs, hz => by
    have hz' : (listText (PyData.shownAll xs)).length ≤ sizeLine := by simpa only [PyData.shown] using hz
    obtain ⟨bs, hb, hk⟩ := ShAll.shows h4 (by simpa [PyData.showable] using hs) (fun t ht => Nat.le_trans (listText_mem_le ht) hz')
    obtain ⟨as, rr⟩ := ShAll.reads h4
    have r : Reads h₀ (.ref a) (.list xs) _ := .list h1 h2 h3 rr
    have hna : a ∉ bs := not_mem_of_deeper r (by simp only [PyData.depth]; omega) hb
    refine ⟨a :: bs, ReadAtMost.cons r (by simp only [PyData.depth]; omega) hb, ?_⟩
    simp only [PyData.depth, PyData.shown]
    obtain ⟨l⟩ := vs
    cases l with
    | nil =>
      have h4' : ShAll h₀ [] xs := h4
      cases h4'
      simp only [PyData.shownAll, listText_nil]
      exact ReprK.listEmpty h1 h2 h3
    | cons x l => exact ReprK.list h1 h2 h3 hna (by simpa using hk.length_eq) (fun i y e => hk.item i y (by simpa using e))
  | _, _, .tuple (a := a) (xs := xs) h1 h2 h3 h4, hs, hz => by
    have hz' : (tupleText (PyData.shownAll xs)).length ≤ sizeLine := by simpa only [PyData.shown] using hz
    obtain ⟨bs, hb, hk⟩ := ShAll.shows h4 (by simpa [PyData.showable] using hs) (fun t ht => Nat.le_trans (tupleText_mem_le ht) hz')
    obtain ⟨as, rr⟩ := ShAll.reads h4
    have r : Reads h₀ (.ref a) (.tuple xs) _ := .tuple h1 h2 h3 rr
    have hna : a ∉ bs := not_mem_of_deeper r (by simp only [PyData.depth]; omega) hb
    refine ⟨a :: bs, ReadAtMost.cons r (by simp only [PyData.depth]; omega) hb, ?_⟩
    simp only [PyData.depth, PyData.shown]
    exact ReprK.tuple h1 h2 h3 hna hk
  | _, _, .dict (a := a) h1 h2 h3 h4, hs, hz => by
    have r : Reads h₀ (.ref a) (.dict []) _ := .dict (kvs := []) h1 h2 h3 .nil .nil
    refine ⟨[a], ReadAtMost.cons (n := 0) r (Nat.zero_le _) (fun _ h => nomatch h), ?_⟩
    have : (PyData.dict []).depth = 0 + 1 := by simp [PyData.depth, PyData.depthKv]
    rw [this]
    simp only [PyData.shown, PyData.shownKv]
    exact ReprK.dict h1 h2 h3 h4 (by simp) .nil
theorem ShAll.shows : ∀ {vs : List Value} {ds : List PyData}, ShAll h₀ vs ds → PyData.showableAll ds = true → (∀ t ∈ PyData.shownAll ds, t.length ≤ sizeLine) →
    ∃ bs, ReadAtMost h₀ (PyData.depthAll ds) bs ∧ ReprAllK prog w bs h₀ (PyData.depthAll ds) vs (PyData.shownAll ds)
  | _, _, .nil, _, _ => ⟨[], (fun _ h => nomatch h), by simp only [PyData.shownAll]; exact .nil⟩
  | _, _, .cons (d := d) (ds := ds) r rs, hs, hz => by
    have hs' : d.showable = true ∧ PyData.showableAll ds = true := by simpa [PyData.showableAll] using hs
    obtain ⟨b1, hb1, k1⟩ := Sh.shows r hs'.1 (hz _ (by simp only [PyData.shownAll]; exact List.mem_cons_self ..))
    obtain ⟨b2, hb2, k2⟩ := ShAll.shows rs hs'.2 (fun t ht => hz t (by simp only [PyData.shownAll]; exact List.mem_cons_of_mem _ ht))
    refine ⟨b1 ++ b2, (hb1.mono (by simp only [PyData.depthAll]; exact Nat.le_max_left _ _)).append (hb2.mono (by simp only [PyData.depthAll]; exact Nat.le_max_right _ _)), ?_⟩
    simp only [PyData.depthAll, PyData.shownAll]
    exact .cons ((k1.more fun b hb => List.mem_append_left _ hb).level_le (Nat.le_max_left _ _)) (k2.more_le (fun b hb => List.mem_append_right _ hb) (Nat.le_max_right _ _))
end
variable {A : Around} {E : Value → Shared → Prop} {s : Shared} {Q : Value → Shared → Prop}
theorem repr_of_sh {v : Value} {d : PyData} (r : Sh h₀ v d) (hs : d.showable = true) (hg : A.guards = some []) (hu : A.units + (d.depth + 1) < cLine) (hk0 : ∀ b o, h₀.get? b = some o → s.heap.get? b = some o)
    (hQ : ∀ h' u tk, (∀ b o, s.heap.get? b = some o → h'.get? b = some o) → Q (.str d.shown u) { s with heap := h', toks := tk }) (hz : d.shown.length ≤ sizeLine) : wpAny (model prog w) A (call (.builtin "repr") [v]) Q E s := by
  have hu1 : A.units + 1 < cLine := by omega
  have hu2 : A.in1.units + d.depth < cLine := by show A.units + 1 + d.depth < cLine; omega
  have hg1 : A.in1.guards = some [] := hg
  cases r with
  | none =>
    refine P.repr_of_none ?_
    have := hQ s.heap s.toks (s.toks + 1) fun _ _ e => e
    simpa only [PyData.shown] using this
  | bool b =>
    refine P.repr_of_bool ?_
    have := hQ s.heap s.toks (s.toks + 1) fun _ _ e => e
    simpa only [PyData.shown] using this
  | int i t =>
    refine P.repr_of_int (by simpa [PyData.showable] using hs) ?_
    have := hQ s.heap s.toks (s.toks + 1) fun _ _ e => e
    simpa only [PyData.shown] using this
  | str x t =>
    refine P.repr_of_str ?_ (by simpa only [PyData.shown] using hz)
    have := hQ s.heap s.toks (s.toks + 1) fun _ _ e => e
    simpa only [PyData.shown] using this
  | @list a o vs n xs h1 h2 h3 h4 =>
    have hz' : (listText (PyData.shownAll xs)).length ≤ sizeLine := by simpa only [PyData.shown] using hz
    obtain ⟨bs, hb, hk⟩ := ShAll.shows (prog := prog) (w := w) h4 (by simpa [PyData.showable] using hs) (fun t ht => Nat.le_trans (listText_mem_le ht) hz')
    obtain ⟨as, rr⟩ := ShAll.reads h4
    have hna : a ∉ bs := not_mem_of_deeper (.list h1 h2 h3 rr) (by simp only [PyData.depth]; omega) hb
    simp only [PyData.depth] at hu2
    simp only [PyData.shown] at hQ
    refine call_repr_slot hu1 ⟨o, hk0 _ _ h1, h2⟩ F.slot_list_repr.toG ?_
    obtain ⟨l⟩ := vs
    cases l with
    | nil =>
      have h4' : ShAll h₀ [] xs := h4
      cases h4'
      simp only [PyData.shownAll, listText_nil] at hQ
      exact call_list_repr_empty ⟨o, hk0 _ _ h1, h2⟩ (hk0 _ _ h1) h3 ⟨_, _, rfl, hQ s.heap _ _ fun _ _ e => e⟩
    | cons x l =>
      exact call_list_reprK h1 h2 h3 hna (by simpa using hk.length_eq) (fun i y e => hk.item i y (by simpa using e)) hg1 (fun b _ => Clear.nil b) hu2 hk0 (fun h' u tk hk => ⟨_, _, rfl, hQ h' u tk hk⟩) hz'
  | @tuple a o vs n xs h1 h2 h3 h4 =>
    have hz' : (tupleText (PyData.shownAll xs)).length ≤ sizeLine := by simpa only [PyData.shown] using hz
    obtain ⟨bs, hb, hk⟩ := ShAll.shows (prog := prog) (w := w) h4 (by simpa [PyData.showable] using hs) (fun t ht => Nat.le_trans (tupleText_mem_le ht) hz')
    obtain ⟨as, rr⟩ := ShAll.reads h4
    have hna : a ∉ bs := not_mem_of_deeper (.tuple h1 h2 h3 rr) (by simp only [PyData.depth]; omega) hb
    simp only [PyData.depth] at hu2
    simp only [PyData.shown] at hQ
    refine call_repr_slot hu1 ⟨o, hk0 _ _ h1, h2⟩ F.slot_tuple_repr ?_
    exact call_tuple_reprK h1 h2 h3 hna hk hg1 (fun b _ => Clear.nil b) hu2 hk0 (fun h' u tk hk => ⟨_, _, rfl, hQ h' u tk hk⟩) hz'
  | @dict a o n h1 h2 h3 h4 =>
    simp only [PyData.shown, PyData.shownKv] at hQ hz
    simp only [PyData.depth, PyData.depthKv] at hu2
    refine call_repr_slot hu1 ⟨o, hk0 _ _ h1, h2⟩ F.slot_dict_repr ?_
    exact call_dict_reprK (as := []) h1 h2 h3 h4 (by simp) .nil hg1 (fun b _ => Clear.nil b) hu2 hk0 (fun h' u tk hk => ⟨_, _, rfl, hQ h' u tk hk⟩) hz
end
def rReprX (K : PySem.W.Frag) : List V → Hp → VK → Prop := fun xs H Q => ∃ x d, xs = [x] ∧ Dx K H x d ∧ d.showable = true ∧ d.depth ≤ 64 ∧ d.shown.length ≤ sizeLine ∧ Q (.str d.shown) H
theorem call_reprX {X : Cx} (hg : X.A.guards = some []) (hu : X.A.units + 65 < cLine) : CallR X (.builtin "repr") (rReprX X.K) := by
  intro pins s σ H xs us Q I r h
  obtain ⟨x, d, rfl, hd, h1, h2, h3, q⟩ := h
  obtain ⟨u, rfl, rx⟩ := Vals.one r
  exact repr_of_sh (Dx.sh I d x u hd rx) h1 hg (by omega) (fun _ _ e => e) (fun h' t tk k => ⟨.str d.shown, H, I.kept k, ⟨_, rfl⟩, q⟩) h3
def fRepr : List D → Sto → R D
  | [d], st => match toT st d with
    | some t => if t.showable = true ∧ t.depth ≤ 64 ∧ t.shown.length ≤ sizeLine then .ok (.v (.str t.shown)) st else .bad
    | none => .bad
  | _, _ => .bad
theorem toT_dx {K : PySem.W.Frag} {g : G} {H : Hp} {st : Sto} {d : D} {t : T} {v : V} (e : toT st d = some t) (rs : RelS K g H st) (r : RepD K g H d v) : Dx K H v t := by
  unfold toT at e
  split at e
  · cases e; exact dx_of _ _ r
  · split at e
    · rename_i ts e1
      cases e
      obtain ⟨a, vs, rfl, f, r'⟩ := asL_ok e1 rs r
      exact .lst f (dxs_of _ _ r')
    · cases e
theorem oc_repr {K : PySem.W.Frag} {E : XK} : OpC K E (rReprX K) fRepr := by
  intro g H st ds vs Q rs rd h
  unfold fRepr at h
  split at h
  · split at h
    · rename_i t e
      obtain ⟨⟨h1, h2, h3⟩, h⟩ := if_bad h
      obtain ⟨v, rfl, rv⟩ := rep1 rd
      exact ⟨v, t, rfl, toT_dx e rs rv, h1, h2, h3, Post.at rs (rep_v.2.2.2 _) h⟩
    · exact h.elim
  · exact h.elim
/-! ### {} -/
theorem se_dict0 {X : Cx} {E : XK} {pos : Pos} : SE X E (.Dict [] [] pos) (mC (.v (.dict []))) := by
  refine PE.mono pe_dnewK fun σ H Q ⟨g, env, st, re, rs, h⟩ p hp => h g _ (.ref p) (Step.new hp) (rs.same (Same.new hp)) ?_
  show RepT _ _ _ _ _
  simp only [RepT]
  exact ⟨trivial, p, rfl, upd_same, rs.notin hp⟩
end PL

namespace PL
open PySem PySem.Spec L2
open PyProof.Rows hiding St
/-! ### the defs of a text, by name -/
abbrev FunX (K : PySem.W.Frag) (mg : Str → Option Value) (x : Str) (st : Stmt) : Prop := ∃ f fd, FunD K x x (defArgs st) (defBody st) (defScope st) [] [] f fd ∧ mg x = some (.ref f)
structure Fnx (P : Program) (w : World) (K : PySem.W.Frag) (mg : Str → Option Value) (base : Heap) (k : Nat) (x : Str) (st : Stmt) (ps : List Str) (F : List D → Sto → R D) : Prop where
  ex : ∃ f fd, FnG P w K mg base k f fd ps F ∧ mg x = some (.ref f) ∧ FunD K x x (defArgs st) (defBody st) (defScope st) [] [] f fd ∧ Binds K fd ps []
section
variable {P : Program} {w : World} {K : PySem.W.Frag} {mg : Str → Option Value} {base : Heap} {x : Str} {st : Stmt}
theorem fnx {N ps : List Str} {k : Nat} {m : MS} {fn : Nat → Sto → D → R D} {body : List Stmt} (FX : FunX K mg x st) (S : FnScope N ps (defScope st)) (fo : FinOut fn)
    (hb : ∀ (kV doc pm : Value) (an : Option Addr) (cdv ct : Value) (us : List Value), us.length = ps.length → bindArgs (PySem.W.fnOf x x (defArgs st) (defBody st) (defScope st) .none kV doc pm an cdv ct) ⟨us, []⟩ = pure (ps.zip us))
    (eb : defBody st = body)
    (h : ∀ (f : Addr) (cdv : Value) (A : Around) (outer : List Env) (s : Shared) (H : Hp) (E : XK), Room k (A.deeper (envOfC x (defScope st) s.heap.objs.size f cdv)) → (A.deeper (envOfC x (defScope st) s.heap.objs.size f cdv)).guards = some [] →
      SSs (bodyCx P w K mg base N x (defScope st) f cdv A outer s H E) E body m) : Fnx P w K mg base (k + 1) x st ps (runB fn N.length m) := by
  obtain ⟨f, fd, F, hm⟩ := FX
  subst eb
  exact ⟨f, fd, fn_body F S fo (h f), hm, F, F.bindsN hb⟩
end
section
variable {X : Cx} {E : XK} {j k : Nat} {x : Str} {st : Stmt} {ps : List Str} {F : List D → Sto → R D} {p pos : Pos} {e : Expr} {es : List Expr} {mas mks : ME (List D)}
theorem se_callF (c : Fnx X.prog X.w X.K X.mg X.base j x st ps F) (hr : Room k X.A) (hgd : X.A.guards = some []) (hx : Passes (L2.CX X.prog X.w) X E) (ha : SA X E (e :: es) mas) (hj : j ≤ k := by decide)
    (hg : Gl X x := by rfl) (hdb : (x == ("__debug__" : Str)) = false := by decide) (he : starEach (e :: es) X.env = (false, eval e X.env) :: starEach es X.env := by rfl) (hpl : (backTo pos (starEach es X.env)).any (·.1) = false := by rfl) :
    SE X E (.Call (.Name x p) (e :: es) [] pos) (mFn ps.length F mas []) := by
  obtain ⟨f, fd, Fn, hm, FD, hb⟩ := c.ex
  exact se_fn Fn (hr.mono hj) hgd hm FD.kp hb .nil (fun _ _ => rfl) hx ha hg hdb he hpl
theorem se_callF0 (c : Fnx X.prog X.w X.K X.mg X.base j x st ps F) (hr : Room k X.A) (hgd : X.A.guards = some []) (hx : Passes (L2.CX X.prog X.w) X E) (hj : j ≤ k := by decide)
    (hg : Gl X x := by rfl) (hdb : (x == ("__debug__" : Str)) = false := by decide) : SE X E (.Call (.Name x p) [] [] pos) (mFn ps.length F mNil []) := by
  obtain ⟨f, fd, Fn, hm, FD, hb⟩ := c.ex
  exact se_fn0 Fn (hr.mono hj) hgd hm FD.kp hb .nil (fun _ _ => rfl) hx hg hdb
theorem kb_of {K : PySem.W.Frag} {f : Addr} {fd : FuncData} {ks : List Str} {n : Nat} {perm : List Nat} (FD : FunD K x x (defArgs st) (defBody st) (defScope st) [] [] f fd)
    (h : ∀ (kV doc pm : Value) (an : Option Addr) (cdv ct : Value) (us ws : List Value), us.length = n → ws.length = ks.length → bindArgs (PySem.W.fnOf x x (defArgs st) (defBody st) (defScope st) .none kV doc pm an cdv ct) ⟨us, ks.zip ws⟩ = pure (ps.zip (pickL perm (us ++ ws)))) : KB K fd ps ks n perm := by
  obtain ⟨oc, od, dV, kV, doc, pm, an, cdv, ct, osl, rfl, lk, hcd, hD, hK⟩ := FD.ex
  rcases hD with ⟨_, rfl⟩ | ⟨e, _⟩
  · exact ⟨fun s us ws _ hl hw => .of_eq (h kV doc pm an cdv ct us ws hl hw)⟩
  · exact absurd rfl e
theorem se_callFK0 {kws : List Keyword} {perm : List Nat} {ks : List Str} (c : Fnx X.prog X.w X.K X.mg X.base j x st ps F) (hr : Room k X.A) (hgd : X.A.guards = some []) (hx : Passes (L2.CX X.prog X.w) X E) (hk : SK X E kws mks)
    (h : ∀ (kV doc pm : Value) (an : Option Addr) (cdv ct : Value) (us ws : List Value), us.length = 0 → ws.length = ks.length → bindArgs (PySem.W.fnOf x x (defArgs st) (defBody st) (defScope st) .none kV doc pm an cdv ct) ⟨us, ks.zip ws⟩ = pure (ps.zip (pickL perm (us ++ ws))))
    (hks : (backToKw pos (keywordEach kws X.env)).filterMap (·.1) = ks := by rfl) (hj : j ≤ k := by decide) (hg : Gl X x := by rfl) (hall : (backToKw pos (keywordEach kws X.env)).all (·.1.isSome) = true := by rfl)
    (hdb : (x == ("__debug__" : Str)) = false := by decide) (hpl : ((backTo pos (starEach [] X.env)).any (·.1) || (backToKw pos (keywordEach kws X.env)).any (·.1.isNone)) = false := by rfl) :
    SE X E (.Call (.Name x p) [] kws pos) (mFnK ps.length perm F mNil mks 0 ks.length) := by
  obtain ⟨f, fd, Fn, hm, FD, hb⟩ := c.ex
  exact se_fnK0 Fn (hr.mono hj) hgd hm FD.kp (kb_of FD h) hx hk hg hall hks hdb hpl
theorem se_callFK {kws : List Keyword} {perm : List Nat} {ks : List Str} {n : Nat} (c : Fnx X.prog X.w X.K X.mg X.base j x st ps F) (hr : Room k X.A) (hgd : X.A.guards = some []) (hx : Passes (L2.CX X.prog X.w) X E) (ha : SA X E (e :: es) mas) (hk : SK X E kws mks)
    (h : ∀ (kV doc pm : Value) (an : Option Addr) (cdv ct : Value) (us ws : List Value), us.length = n → ws.length = ks.length → bindArgs (PySem.W.fnOf x x (defArgs st) (defBody st) (defScope st) .none kV doc pm an cdv ct) ⟨us, ks.zip ws⟩ = pure (ps.zip (pickL perm (us ++ ws))))
    (hks : (backToKw pos (keywordEach kws X.env)).filterMap (·.1) = ks := by rfl) (hj : j ≤ k := by decide) (hg : Gl X x := by rfl) (hall : (backToKw pos (keywordEach kws X.env)).all (·.1.isSome) = true := by rfl)
    (hdb : (x == ("__debug__" : Str)) = false := by decide) (he : starEach (e :: es) X.env = (false, eval e X.env) :: starEach es X.env := by rfl)
    (hpl : ((backTo pos (starEach (e :: es) X.env)).any (·.1) || (backToKw pos (keywordEach kws X.env)).any (·.1.isNone)) = false := by rfl) :
    SE X E (.Call (.Name x p) (e :: es) kws pos) (mFnK ps.length perm F mas mks n ks.length) := by
  obtain ⟨f, fd, Fn, hm, FD, hb⟩ := c.ex
  exact se_fnK Fn (hr.mono hj) hgd hm FD.kp (kb_of FD h) hx ha hk hg hall hks hdb he hpl
end
/-! ### the built-ins by name -/
theorem bt_bool : bootBuiltins "bool" = some (.type "bool") := by decide +kernel
theorem bt_int : bootBuiltins "int" = some (.type "int") := by decide +kernel
theorem bt_str : bootBuiltins "str" = some (.type "str") := by decide +kernel
theorem bt_tuple : bootBuiltins "tuple" = some (.type "tuple") := by decide +kernel
theorem bt_list : bootBuiltins "list" = some (.type "list") := by decide +kernel
theorem bt_dict : bootBuiltins "dict" = some (.type "dict") := by decide +kernel
theorem bb_abs : bootBuiltins "abs" = some (.builtin "abs") := by decide +kernel
theorem bb_all : bootBuiltins "all" = some (.builtin "all") := by decide +kernel
theorem bb_any : bootBuiltins "any" = some (.builtin "any") := by decide +kernel
theorem bb_len : bootBuiltins "len" = some (.builtin "len") := by decide +kernel
theorem bb_max : bootBuiltins "max" = some (.builtin "max") := by decide +kernel
theorem bb_min : bootBuiltins "min" = some (.builtin "min") := by decide +kernel
theorem bb_sum : bootBuiltins "sum" = some (.builtin "sum") := by decide +kernel
theorem bb_repr : bootBuiltins "repr" = some (.builtin "repr") := by decide +kernel
theorem bb_divmod : bootBuiltins "divmod" = some (.builtin "divmod") := by decide +kernel
theorem bb_isinstance : bootBuiltins "isinstance" = some (.builtin "isinstance") := by decide +kernel
theorem sl_append : Slot "list" "append" "list.append" := PySem.F.slot_list_append
theorem sl_extend : Slot "list" "extend" "list.extend" := PySem.F.slot_list_extend
theorem sl_pop : Slot "list" "pop" "list.pop" := PySem.F.slot_list_pop
theorem sl_reverse : Slot "list" "reverse" "list.reverse" := PySem.F.slot_list_reverse
theorem sl_count : Slot "list" "count" "list.count" := PySem.F.slot_list_count
theorem sl_index : Slot "list" "index" "list.index" := PySem.F.slot_list_index
theorem hu64 {k : Nat} {A : Around} (hr : Room k A) : A.units + 64 < cLine := by have := hr.un; omega
theorem hu65 {k : Nat} {A : Around} (hr : Room k A) : A.units + 65 < cLine := by have := hr.un; omega
theorem hu16 {k : Nat} {A : Around} (hr : Room k A) : A.units + 16 < cLine := by have := hr.un; omega
/-! ### a comprehension's scope -/
def blkB (N : List Str) (sc scope : Scope) (own : List (Str × Nat)) : Bool :=
  decide (scope.kind = .function) && scope.names.all (fun y => decide (scope.names.lookup y.1 = some y.2)) && own.all (fun p => decide (N[p.2]? = some p.1)) &&
  scope.names.all (fun y => decide (y.2 = .free → sc.names.lookup y.1 = some .cell ∨ sc.names.lookup y.1 = some .free)) &&
  scope.names.all (fun y => decide (y.2 = .local ∨ y.2 = .cell → y.1 ∈ own.map (·.1) ∨ y.1 ∉ N))
theorem blk_ok {N : List Str} {sc scope : Scope} {own : List (Str × Nat)} (h : blkB N sc scope own = true) : BlkOk N sc scope own := by
  simp only [blkB, Bool.and_eq_true, List.all_eq_true, decide_eq_true_eq] at h
  obtain ⟨⟨⟨⟨h1, h2⟩, h3⟩, h4⟩, h5⟩ := h
  exact ⟨h1, h2, h3, h4, h5⟩
end PL

namespace PL
open PySem PySem.Spec L2
open PyProof.Rows hiding St
/-! ### a, b = x, y by way of a tuple -/
def setAll : EnvD → List Nat → List D → EnvD
  | env, i :: ix, d :: ds => setAll (env.set i (some d)) ix ds
  | env, _, _ => env
def setV : L2.St → List Nat → List V → L2.St
  | σ, i :: ix, v :: vs => setV (σ.set i (some v)) ix vs
  | σ, _, _ => σ
theorem RelE.setAll {K : PySem.W.Frag} {g : G} {H : Hp} : ∀ (ix : List Nat) {σ : L2.St} {env : EnvD} {ds : List D} {vs : List V}, RelE K g H σ env → RepDs K g H ds vs → RelE K g H (setV σ ix vs) (PL.setAll env ix ds)
  | [], _, _, ds, vs, re, _ => by simpa [setV, PL.setAll] using re
  | i :: ix, _, _, [], vs, re, rd => by cases rd; simpa [setV, PL.setAll] using re
  | i :: ix, _, _, d :: ds, vs, re, rd => by
    obtain ⟨v, r, rfl, h1, h2⟩ := rd
    exact RelE.setAll ix (re.set i h1) h2
def SGd (X : Cx) (es : List Expr) (ix : List Nat) : Prop := PGs X es fun vs σ H Q => vs.length = ix.length ∧ Q (setV σ ix vs) H
section
variable {X : Cx} {E : XK} {pos : Pos} {e : Expr} {es tgs : List Expr} {ix : List Nat} {mas : ME (List D)}
theorem sgd_nil : SGd X [] [] := PGs.mono pgs_nil fun vs σ H Q ⟨h1, h2⟩ => by
  cases vs with
  | nil => exact ⟨rfl, h2⟩
  | cons _ _ => simp at h1
theorem sgd_cons (i : Nat) {x : Str} (h : SGd X es ix) (hN : X.N.Nodup) (hi : X.N[i]? = some x := by rfl) (hx : Loc X.env.scope x := by first | exact .inl rfl | exact .inr rfl) (hf : X.fn x = true ∨ X.env.scope.names.lookup x = some .local := by first | exact .inl rfl | exact .inr rfl)
    (hs : (assignEach (.Name x pos :: es) X.env).map (·.2) = assign (.Name x pos) X.env :: (assignEach es X.env).map (·.2) := by rfl) : SGd X (.Name x pos :: es) (i :: ix) := by
  refine PGs.mono (pgs_cons (pg_name hN hi hx hf) h hs) fun vs σ H Q ⟨h1, h2⟩ => ?_
  cases vs with
  | nil => simp at h1
  | cons v r => exact ⟨v, r, rfl, by simpa using h1, h2⟩
def mParN (ix : List Nat) (m : ME (List D)) : MS := fun env st => (m env st).toS fun ds s1 => if ds.length = ix.length ∧ ds.length ≤ sizeLine then .next (setAll env ix ds) s1 else .bad
theorem ss_parN {kt k2 : Nat} {pt pt2 : Pos} {n : Nat} (ha : SA X E es mas) (hc : X.calm = true) (hg : SGd X tgs ix) (hn : (assignEach tgs X.env).length = n := by rfl) (hst : (assignEach tgs X.env).findIdx? (·.1) = none := by rfl) (hl : n = ix.length := by rfl)
    (hs : swapsWithSole [.Tuple tgs kt pt] (.Tuple es k2 pt2) pos.line X.env = pure false := by rfl) (hw : swappedStores [.Tuple tgs kt pt] (.Tuple es k2 pt2) X.env = pure none := by rfl)
    (h1 : (assignEach [.Tuple tgs kt pt] X.env).map (·.2) = [assign (.Tuple tgs kt pt) X.env] := by rfl) : SS X E (.Assign [.Tuple tgs kt pt] (.Tuple es k2 pt2) pos) (mParN ix mas) := by
  refine PS.mono (ps_asg (pe_tup ha) (pg_tup hc hg hn hst) hs hw h1) fun De σ H ⟨g, env, st, re, rs, h⟩ => ⟨g, env, st, re, rs, PostS.ofR h fun g1 H1 ds s1 vs s rs1 rd h2 => ?_⟩
  have l := rd.len
  by_cases hc' : ds.length = ix.length ∧ ds.length ≤ sizeLine
  · rw [if_pos hc'] at h2
    refine ⟨by omega, fun p hp => ⟨p, vs, rfl, .inl (.inl upd_same), by omega, by omega, ?_⟩⟩
    have sn : Step g1 H1 g1 (upd H1 p (.tup vs)) := Step.new hp
    exact h2 g1 _ _ sn (RelE.setAll ix ((re.step s).step sn) (RepDs.step sn rd)) (rs1.same (Same.new hp))
  · rw [if_neg hc'] at h2
    exact h2.elim
end
end PL

namespace PL
open PySem
open L2 (atI ixN CDiv CMul CPow RgOk)
/-! ### what a mirror comes to: total correctness -/
def EvO {α : Type} (r : R α) (Q : α → Sto → Prop) : Prop := match r with
  | .ok a s => Q a s
  | _ => False
structure Zz where
  nx : EnvD → Sto → Prop
  rt : D → Sto → Prop
  bk : EnvD → Sto → Prop := fun _ _ => False
  ct : EnvD → Sto → Prop := fun _ _ => False
def EvS (r : RS) (Z : Zz) : Prop := match r with
  | .next e s => Z.nx e s
  | .brk e s => Z.bk e s
  | .cont e s => Z.ct e s
  | .ret d s => Z.rt d s
  | _ => False
section
variable {α β : Type} {Q : α → Sto → Prop} {Z : Zz} {env : EnvD} {st : Sto} {QB : Bool → Sto → Prop} {QD : D → Sto → Prop} {QE : EnvD → Sto → Prop} {QL : List D → Sto → Prop}
theorem w_ok {a : α} : EvO (.ok a st) Q = Q a st := rfl
theorem w_bad : EvO (.bad : R α) Q = False := rfl
theorem w_err {x : Exn} : EvO (.err x st : R α) Q = False := rfl
theorem w_bind {r : R β} {k : β → Sto → R α} : EvO (r.bind k) Q = EvO r fun b s => EvO (k b s) Q := by cases r <;> rfl
theorem w_bindN {r : R β} {k : β → Sto → R α} : EvO (r.bindN k) Q = EvO r fun b s => EvO (k b s) Q := by cases r <;> rfl
theorem w_toS {r : R β} {k : β → Sto → RS} : EvS (r.toS k) Z = EvO r fun b s => EvS (k b s) Z := by cases r <;> rfl
theorem w_ite {c : Prop} [Decidable c] {a b : R α} : EvO (if c then a else b) Q = if c then EvO a Q else EvO b Q := by split <;> rfl
theorem w_itb {c : Prop} [Decidable c] {a : R α} : EvO (if c then a else .bad) Q = (c ∧ EvO a Q) := by
  by_cases h : c
  · simp [h]
  · simp [h, w_bad]
theorem EvO.imp {r : R α} {Q' : α → Sto → Prop} (h : EvO r Q) (f : ∀ a s, Q a s → Q' a s) : EvO r Q' := by
  cases r with
  | ok a s => exact f _ _ h
  | err _ _ => exact h
  | bad => exact h
theorem EvO.ex {r : R α} (h : EvO r Q) : ∃ a s, r = .ok a s ∧ Q a s := by
  cases r with
  | ok a s => exact ⟨a, s, rfl, h⟩
  | err _ _ => exact h.elim
  | bad => exact h.elim
theorem EvO.of {r : R α} {a : α} {s : Sto} (h : r = .ok a s) (q : Q a s) : EvO r Q := by subst h; exact q
theorem EvS.imp {r : RS} {Z' : Zz} (h : EvS r Z) (f1 : ∀ e s, Z.nx e s → Z'.nx e s) (f2 : ∀ d s, Z.rt d s → Z'.rt d s) (f3 : ∀ e s, Z.bk e s → Z'.bk e s) (f4 : ∀ e s, Z.ct e s → Z'.ct e s) : EvS r Z' := by
  cases r with
  | next e s => exact f1 _ _ h
  | brk e s => exact f3 _ _ h
  | cont e s => exact f4 _ _ h
  | ret d s => exact f2 _ _ h
  | err _ _ => exact h
  | bad => exact h
/-! expressions -/
theorem w_var {i : Nat} : EvO (mVar i env st) QD = match env[i]? with
    | some (some d) => QD d st
    | _ => False := by
  unfold mVar
  cases env[i]? with
  | none => rfl
  | some o => cases o <;> rfl
theorem w_c {d : D} : EvO (mC d env st) QD = QD d st := rfl
theorem w_bin {f : D → D → Sto → R D} {a b : ME D} : EvO (mBin f a b env st) QD = EvO (a env st) fun x s1 => EvO (b env s1) fun y s2 => EvO (f x y s2) QD := by unfold mBin; rw [w_bind]; simp only [w_bind]
theorem w_un {f : D → Sto → R D} {a : ME D} : EvO (mUn f a env st) QD = EvO (a env st) fun x s1 => EvO (f x s1) QD := by unfold mUn; rw [w_bind]
theorem w_cmpT {f : D → D → Sto → R D} {a b : ME D} : EvO (mCmpT f a b env st) QB = EvO (a env st) fun x s1 => EvO (b env s1) fun y s2 => EvO (f x y s2) fun d s3 => match d with
    | .v (.bool k) => QB k s3
    | _ => False := by
  unfold mCmpT; rw [w_bind, w_bin]; congr; funext x s1; congr; funext y s2; congr; funext d s3
  cases d with
  | v t => cases t <;> rfl
  | _ => rfl
theorem w_mB {m : ME D} : EvO (mB m env st) QB = EvO (m env st) fun d s3 => match d with
    | .v (.bool k) => QB k s3
    | _ => False := by
  unfold mB; rw [w_bind]; congr; funext d s3
  cases d with
  | v t => cases t <;> rfl
  | _ => rfl
theorem w_chain {f f' : D → D → Sto → R D} {a b c : ME D} : EvO (mChain f f' a b c env st) QD = EvO (a env st) fun x s1 => EvO (b env s1) fun y s2 => EvO (f x y s2) fun z s3 => match z with
    | .v (.bool k) => if k = true then EvO (c env s3) fun w s4 => EvO (f' y w s4) QD else QD (.v (.bool false)) s3
    | _ => False := by
  unfold mChain; simp only [w_bind]; congr; funext x s1; congr; funext y s2; congr; funext d s3
  cases d with
  | v t =>
    cases t with
    | bool k =>
      cases k with
      | true => exact w_bind
      | false => rfl
    | _ => rfl
  | _ => rfl
theorem w_tru {m : ME D} : EvO (mTru m env st) QB = EvO (m env st) fun d s1 => match truD s1 d with
    | some b => QB b s1
    | none => False := by
  unfold mTru; rw [w_bind]; congr; funext d s3
  cases truD s3 d <;> rfl
theorem w_andT {a b : ME Bool} : EvO (mAndT a b env st) QB = EvO (a env st) fun k s1 => if k = true then EvO (b env s1) QB else QB false s1 := by unfold mAndT; rw [w_bind]; congr; funext k s; rw [w_ite]; rfl
theorem w_orT {a b : ME Bool} : EvO (mOrT a b env st) QB = EvO (a env st) fun k s1 => if k = true then QB true s1 else EvO (b env s1) QB := by unfold mOrT; rw [w_bind]; congr; funext k s; rw [w_ite]; rfl
theorem w_notT {a : ME Bool} : EvO (mNotT a env st) QB = EvO (a env st) fun k s1 => QB (!k) s1 := by unfold mNotT; rw [w_bind]; rfl
theorem w_andV {a b : ME D} : EvO (mAndV a b env st) QD = EvO (a env st) fun d s1 => match truD s1 d with
    | some true => EvO (b env s1) QD
    | some false => QD d s1
    | none => False := by
  unfold mAndV; rw [w_bind]; congr; funext d s3
  cases truD s3 d with
  | none => rfl
  | some k => cases k <;> rfl
theorem w_orV {a b : ME D} : EvO (mOrV a b env st) QD = EvO (a env st) fun d s1 => match truD s1 d with
    | some true => QD d s1
    | some false => EvO (b env s1) QD
    | none => False := by
  unfold mOrV; rw [w_bind]; congr; funext d s3
  cases truD s3 d with
  | none => rfl
  | some k => cases k <;> rfl
theorem w_notV {a : ME D} : EvO (mNotV a env st) QD = EvO (a env st) fun d s1 => match truD s1 d with
    | some k => QD (.v (.bool (!k))) s1
    | none => False := by
  unfold mNotV; rw [w_bind]; congr; funext d s3
  cases truD s3 d <;> rfl
theorem w_if {c : ME Bool} {a b : ME α} : EvO (mIf c a b env st) Q = EvO (c env st) fun k s1 => if k = true then EvO (a env s1) Q else EvO (b env s1) Q := by unfold mIf; rw [w_bind]; congr; funext k s; rw [w_ite]
theorem w_nil : EvO (mNil env st) QL = QL [] st := rfl
theorem w_cons {a : ME D} {r : ME (List D)} : EvO (mCons a r env st) QL = EvO (a env st) fun d s1 => EvO (r env s1) fun ds s2 => QL (d :: ds) s2 := by unfold mCons; simp only [w_bind]; rfl
theorem w_tup {m : ME (List D)} : EvO (mTup m env st) QD = EvO (m env st) fun ds s1 => match pureTs ds with
    | some ts => ts.length ≤ sizeLine ∧ QD (.v (.tuple ts)) s1
    | none => False := by
  unfold mTup; rw [w_bind]; congr; funext ds s
  cases pureTs ds with
  | none => rfl
  | some ts => exact w_itb
theorem w_lst {m : ME (List D)} : EvO (mLst m env st) QD = EvO (m env st) fun ds s1 => match pureTs ds with
    | some ts => ts.length ≤ sizeLine ∧ QD (.v (.list ts)) s1
    | none => False := by
  unfold mLst; rw [w_bind]; congr; funext ds s
  cases pureTs ds with
  | none => rfl
  | some ts => exact w_itb
theorem w_lstM {m : ME (List D)} : EvO (mLstM m env st) QD = EvO (m env st) fun ds s1 => match pureTs ds with
    | some ts => ts.length ≤ sizeLine ∧ QD (.ref s1.length) (s1 ++ [.lst ts])
    | none => False := by
  unfold mLstM; rw [w_bind]; congr; funext ds s
  cases pureTs ds with
  | none => rfl
  | some ts => exact w_itb
theorem w_call {f : List D → Sto → R D} {as : ME (List D)} : EvO (mCall f as env st) QD = EvO (as env st) fun ds s1 => EvO (f ds s1) QD := by unfold mCall; rw [w_bind]
theorem w_fn {n : Nat} {F : List D → Sto → R D} {as : ME (List D)} {dd : List D} : EvO (mFn n F as dd env st) QD = EvO (as env st) fun ds s1 => (ds ++ dd).length = n ∧ EvO (F (ds ++ dd) s1) QD := by unfold mFn; rw [w_bind]; congr; funext ds s; exact w_itb
theorem w_fnK {n m0 m1 : Nat} {perm : List Nat} {F : List D → Sto → R D} {as ks : ME (List D)} : EvO (mFnK n perm F as ks m0 m1 env st) QD = EvO (as env st) fun ds s1 => EvO (ks env s1) fun zs s2 => (ds.length = m0 ∧ zs.length = m1 ∧ (pickL perm (ds ++ zs)).length = n) ∧ EvO (F (pickL perm (ds ++ zs)) s2) QD := by
  unfold mFnK; rw [w_bind]; congr; funext ds s; rw [w_bind]; congr; funext zs s2; rw [w_itb]
theorem w_meth {f : D → List D → Sto → R D} {o : ME D} {as : ME (List D)} : EvO (mMeth f o as env st) QD = EvO (o env st) fun x s1 => match asL s1 x with
    | some _ => EvO (as env s1) fun ds s2 => EvO (f x ds s2) QD
    | none => False := by
  unfold mMeth; rw [w_bind]; congr; funext x s
  cases asL s x with
  | none => rfl
  | some _ => exact w_bind
theorem w_noP {QO : Option Int → Sto → Prop} : EvO (mNoP env st) QO = QO none st := rfl
theorem w_part {QO : Option Int → Sto → Prop} {m : ME D} : EvO (mPart m env st) QO = EvO (m env st) fun d s1 => match d with
    | .v (.int i) => QO (some i) s1
    | _ => False := by
  unfold mPart; rw [w_bind]; congr; funext d s
  cases d with
  | v t => cases t <;> rfl
  | _ => rfl
theorem w_slice {a : ME D} {l h : MO'} : EvO (mSlice a l h env st) QD = EvO (a env st) fun x s1 => EvO (l env s1) fun lo s2 => EvO (h env s2) fun hi s3 => EvO (opSl x lo hi s3) QD := by unfold mSlice; simp only [w_bind]
theorem w_rg1 {QP : Int × Int → Sto → Prop} {a : ME D} : EvO (mRg1 a env st) QP = EvO (a env st) fun d s1 => match d with
    | .v (.int n) => RgOk 0 n ∧ QP (0, n) s1
    | _ => False := by
  unfold mRg1; rw [w_bind]; congr; funext d s
  cases d with
  | v t =>
    cases t with
    | int n => exact w_itb
    | _ => rfl
  | _ => rfl
theorem w_lstRgM {m : ME (Int × Int)} : EvO (mLstRgM m env st) QD = EvO (m env st) fun p s1 => RgOk p.1 p.2 ∧ QD (.ref s1.length) (s1 ++ [.lst (rgT p.1 p.2)]) := by unfold mLstRgM; rw [w_bind]; congr; funext p s; exact w_itb
theorem w_lstRg {m : ME (Int × Int)} : EvO (mLstRg m env st) QD = EvO (m env st) fun p s1 => RgOk p.1 p.2 ∧ QD (.v (.list (rgT p.1 p.2))) s1 := by unfold mLstRg; rw [w_bind]; congr; funext p s; exact w_itb
theorem w_tupRg {m : ME (Int × Int)} : EvO (mTupRg m env st) QD = EvO (m env st) fun p s1 => RgOk p.1 p.2 ∧ QD (.v (.tuple (rgT p.1 p.2))) s1 := by unfold mTupRg; rw [w_bind]; congr; funext p s; exact w_itb
/-! targets -/
theorem w_gNm {i : Nat} {d : D} : EvO (gNm i d env st) QE = QE (env.set i (some d)) st := rfl
theorem w_gTu {n : Nat} {g : MGs} {ts : List T} : EvO (gTu n g (.v (.tuple ts)) env st) QE = (ts.length = n ∧ EvO (g ts env st) QE) := by show EvO (if ts.length = n then _ else _) QE = _; exact w_itb
theorem w_gNil : EvO (gNil [] env st) QE = QE env st := rfl
theorem w_gCons {a : MG} {b : MGs} {t : T} {ts : List T} : EvO (gCons a b (t :: ts) env st) QE = EvO (a (.v t) env st) fun e s => EvO (b ts e s) QE := by unfold gCons; simp only [w_bind]
theorem w_gSb {mo mi : ME D} {d : D} : EvO (gSb mo mi d env st) QE = EvO (mo env st) fun o s1 => EvO (mi env s1) fun i s2 => match o, i, d with
    | .ref n, .v (.int k), .v t => match s2[n]? with
      | some (.lst ts) => match ixN ts.length k with
        | some j => QE env (s2.set n (.lst (ts.set j t)))
        | none => False
      | _ => False
    | _, _, _ => False := by
  unfold gSb; rw [w_bind]; congr; funext o s1; rw [w_bind]; congr; funext i s2
  cases o with
  | ref n =>
    cases i with
    | v ti =>
      cases ti with
      | int k =>
        cases d with
        | v t =>
          simp only
          generalize s2[n]? = r
          cases r with
          | none => rfl
          | some o =>
            cases o with
            | lst ts =>
              simp only
              generalize ixN ts.length k = j
              cases j <;> rfl
            | dK _ => rfl
        | _ => rfl
      | _ => rfl
    | _ => rfl
  | _ => rfl
/-! statements -/
theorem w_skip : EvS (mSkip env st) Z = Z.nx env st := rfl
theorem w_seq {a b : MS} : EvS (mSeq a b env st) Z = EvS (a env st) { Z with nx := fun e s => EvS (b e s) Z } := by unfold mSeq; cases a env st <;> rfl
theorem w_asg {m : ME D} {g : MG} : EvS (mAsg m g env st) Z = EvO (m env st) fun d s => EvO (g d env s) Z.nx := by unfold mAsg; rw [w_toS]; congr; funext d s; rw [w_toS]; rfl
theorem w_ret {m : ME D} : EvS (mRet m env st) Z = EvO (m env st) Z.rt := by unfold mRet; rw [w_toS]; rfl
theorem w_drop {m : ME D} : EvS (mDrop m env st) Z = EvO (m env st) fun _ s => Z.nx env s := by unfold mDrop; rw [w_toS]; rfl
theorem w_ifS {c : ME Bool} {a b : MS} : EvS (mIfS c a b env st) Z = EvO (c env st) fun k s => if k = true then EvS (a env s) Z else EvS (b env s) Z := by
  unfold mIfS; rw [w_toS]; congr; funext k s; cases k <;> rfl
theorem w_par2 {i j : Nat} {m : ME (List D)} : EvS (mPar2 i j m env st) Z = EvO (m env st) fun ds s => match ds with
    | [a, b] => Z.nx ((env.set i (some a)).set j (some b)) s
    | _ => False := by
  unfold mPar2; rw [w_toS]; congr; funext ds s
  match ds with
  | [] => rfl
  | [_] => rfl
  | [_, _] => rfl
  | _ :: _ :: _ :: _ => rfl
theorem w_par3 {i j k : Nat} {m : ME (List D)} : EvS (mPar3 i j k m env st) Z = EvO (m env st) fun ds s => match ds with
    | [a, b, c] => Z.nx (((env.set i (some a)).set j (some b)).set k (some c)) s
    | _ => False := by
  unfold mPar3; rw [w_toS]; congr; funext ds s
  match ds with
  | [] => rfl
  | [_] => rfl
  | [_, _] => rfl
  | [_, _, _] => rfl
  | _ :: _ :: _ :: _ :: _ => rfl
theorem w_parN {ix : List Nat} {m : ME (List D)} : EvS (mParN ix m env st) Z = EvO (m env st) fun ds s => (ds.length = ix.length ∧ ds.length ≤ sizeLine) ∧ Z.nx (setAll env ix ds) s := by
  unfold mParN; rw [w_toS]; congr; funext ds s
  by_cases h : ds.length = ix.length ∧ ds.length ≤ sizeLine
  · rw [if_pos h]
    exact propext ⟨fun z => ⟨h, z⟩, fun z => z.2⟩
  · rw [if_neg h]
    apply propext
    exact ⟨fun z => z.elim, fun z => h z.1⟩
theorem w_runB {fn : Nat → Sto → D → R D} {nn : Nat} {m : MS} {ds : List D} : EvO (runB fn nn m ds st) QD = EvS (m (ds.map some ++ List.replicate (nn - ds.length) none) st) ⟨fun _ s => EvO (fn st.length s (.v .none)) QD, fun d s => EvO (fn st.length s d) QD, fun _ _ => False, fun _ _ => False⟩ := by
  unfold runB
  cases m (ds.map some ++ List.replicate (nn - ds.length) none) st <;> rfl
theorem w_finV {n : Nat} {t : T} : EvO (fin n st (.v t)) QD = QD (.v t) (st.take n) := rfl
theorem w_finM {n : Nat} {d : D} : EvO (finM n st d) QD = QD d st := rfl
theorem w_finR {n m : Nat} {ts : List T} (h : n ≤ m) (e : st[m]? = some (.lst ts)) : EvO (fin n st (.ref m)) QD = QD (.v (.list ts)) (st.take n) := by
  show EvO (if m < n then _ else _) QD = _
  rw [if_neg (by omega), e]; rfl
/-! loops -/
theorem w_for {mi : ME (List T × Chk)} {g : MG} {b : MS} : EvS (mFor mi g b env st) Z = EvO (mi env st) fun p s => EvS (forGo p.2 g b p.1 env s) Z := by unfold mFor; rw [w_toS]
theorem w_for0 {g : MG} {b : MS} : EvS (forGo none g b [] env st) Z = Z.nx env st := rfl
theorem w_forC {g : MG} {b : MS} {t : T} {ts : List T} : EvS (forGo none g b (t :: ts) env st) Z = EvO (g (.v t) env st) fun e1 s1 => EvS (b e1 s1) ⟨fun e s => EvS (forGo none g b ts e s) Z, Z.rt, Z.nx, fun e s => EvS (forGo none g b ts e s) Z⟩ := by
  show EvS (guardS none st _) Z = _
  rw [guardS_none, w_toS]
  congr; funext e1 s1
  cases b e1 s1 <;> rfl
/-- a for by an invariant -/
theorem for_inv {g : MG} {b : MS} (I : Nat → EnvD → Sto → Prop) : ∀ (ts : List T) (k : Nat) (env : EnvD) (st : Sto), I k env st →
    (∀ (i : Nat) (t : T) (env : EnvD) (st : Sto), ts[i]? = some t → I (k + i) env st → EvO (g (.v t) env st) fun e1 s1 => EvS (b e1 s1) ⟨I (k + i + 1), Z.rt, Z.nx, I (k + i + 1)⟩) → (∀ env st, I (k + ts.length) env st → Z.nx env st) → EvS (forGo none g b ts env st) Z
  | [], k, env, st, h, _, hd => by rw [w_for0]; exact hd _ _ h
  | t :: ts, k, env, st, h, hs, hd => by
    rw [w_forC]
    refine EvO.imp (hs 0 t env st rfl h) fun e1 s1 q => EvS.imp q (fun e s q => ?_) (fun d s q => q) (fun e s q => q) (fun e s q => ?_)
    · exact for_inv I ts (k + 1) e s q (fun i t' e' s' et hi => by have := hs (i + 1) t' e' s' et (by rw [show k + (i + 1) = k + 1 + i by omega]; exact hi); rw [show k + (i + 1) = k + 1 + i by omega] at this; exact this) fun e s hi => hd e s (by rw [List.length_cons, show k + (ts.length + 1) = k + 1 + ts.length by omega]; exact hi)
    · exact for_inv I ts (k + 1) e s q (fun i t' e' s' et hi => by have := hs (i + 1) t' e' s' et (by rw [show k + (i + 1) = k + 1 + i by omega]; exact hi); rw [show k + (i + 1) = k + 1 + i by omega] at this; exact this) fun e s hi => hd e s (by rw [List.length_cons, show k + (ts.length + 1) = k + 1 + ts.length by omega]; exact hi)
theorem w_lc {mi : ME (List T × Chk)} {g : MG} {c : ME Bool} {e : ME D} {vs : List Nat} {QT : List T → Sto → Prop} : EvO (mLc mi g c e vs env st) QT = EvO (mi env st) fun p s1 => p.1.length ≤ sizeLine ∧ EvO (lcGo p.2 g c e (wipeD env vs) p.1 s1) QT := by
  unfold mLc; rw [w_bind]; congr; funext p s; exact w_itb
theorem w_lc0 {g : MG} {c : ME Bool} {e : ME D} {QT : List T → Sto → Prop} : EvO (lcGo none g c e env [] st) QT = QT [] st := rfl
theorem w_lcC {g : MG} {c : ME Bool} {e : ME D} {t : T} {ts : List T} {QT : List T → Sto → Prop} : EvO (lcGo none g c e env (t :: ts) st) QT = EvO (g (.v t) env st) fun e1 s1 => EvO (c e1 s1) fun k s2 => if k = true then EvO (e e1 s2) fun d s3 => (match d with
      | .v y => EvO (lcGo none g c e env ts s3) fun ys s4 => QT (y :: ys) s4
      | _ => False) else EvO (lcGo none g c e env ts s2) QT := by
  show EvO (guardR none st _) QT = _
  rw [guardR_none, w_bindN]
  congr; funext e1 s1
  rw [w_bindN]
  congr; funext k s2
  rw [w_ite]
  split
  · rw [w_bindN]
    congr; funext d s3
    cases d with
    | v y => exact w_bindN
    | _ => rfl
  · rfl
/-- a comprehension without a state -/
theorem lc_pure {env : EnvD} {st : Sto} {g : MG} {c : ME Bool} {e : ME D} (p : T → Bool) (f : T → T) : ∀ (ts : List T) {QT : List T → Sto → Prop}, (∀ t ∈ ts, EvO (g (.v t) env st) fun e1 s1 => s1 = st ∧ EvO (c e1 st) fun k s2 => s2 = st ∧ k = p t ∧ (k = true → EvO (e e1 st) fun d s3 => s3 = st ∧ d = .v (f t))) →
    QT ((ts.filter p).map f) st → EvO (lcGo none g c e env ts st) QT
  | [], _, _, h => h
  | t :: ts, QT, ht, h => by
    rw [w_lcC]
    refine EvO.imp (ht t List.mem_cons_self) fun e1 s1 ⟨q1, q⟩ => ?_
    subst q1
    refine EvO.imp q fun k s2 ⟨q2, q3, q4⟩ => ?_
    subst q2
    have rest : ∀ {QT' : List T → Sto → Prop}, QT' ((ts.filter p).map f) s2 → EvO (lcGo none g c e env ts s2) QT' := fun h' => lc_pure p f ts (fun t' ht' => ht t' (List.mem_cons_of_mem _ ht')) h'
    cases hk : p t with
    | true =>
      rw [hk] at q3
      subst q3
      rw [if_pos rfl]
      refine EvO.imp (q4 rfl) fun d s3 ⟨q5, q6⟩ => ?_
      subst q5 q6
      refine rest ?_
      rw [List.filter_cons_of_pos hk] at h
      exact h
    | false =>
      rw [hk] at q3
      subst q3
      rw [if_neg Bool.false_ne_true]
      refine rest ?_
      rw [List.filter_cons_of_neg (by simp [hk])] at h
      exact h
/-- a comprehension by an invariant of the state, no condition -/
theorem lc_inv {g : MG} {e : ME D} (I : Sto → Prop) (P : T → Prop) {QT : List T → Sto → Prop} : ∀ (ts : List T) (st : Sto), I st → (∀ t ∈ ts, ∀ st, I st → EvO (g (.v t) env st) fun e1 s1 => EvO (e e1 s1) fun d s3 => I s3 ∧ ∃ y, d = .v y ∧ P y) →
    (∀ ys st, ys.length = ts.length → (∀ y ∈ ys, P y) → I st → QT ys st) → EvO (lcGo none g mYes e env ts st) QT
  | [], st, hi, _, h => h [] st rfl (fun y hy => by cases hy) hi
  | t :: ts, st, hi, ht, h => by
    rw [w_lcC]
    refine EvO.imp (ht t List.mem_cons_self st hi) fun e1 s1 q => ?_
    show EvO (.ok true s1) _
    rw [w_ok, if_pos rfl]
    refine EvO.imp q fun d s3 ⟨h3, y, ey, py⟩ => ?_
    subst ey
    refine lc_inv I P ts s3 h3 (fun t' ht' => ht t' (List.mem_cons_of_mem _ ht')) fun ys st hl hp hi' => h (y :: ys) st (by simp [hl]) (fun z hz => ?_) hi'
    rcases List.mem_cons.mp hz with rfl | hz
    · exact py
    · exact hp z hz
end
end PL

namespace PL
open PySem PySem.Spec L2
open PyProof.Rows hiding St
/-! ### statements and expressions of which nothing is claimed (a raise that never comes) -/
def mNo : MS := fun _ _ => .bad
theorem ss_no {X : Cx} {E : XK} {s : Stmt} : SS X E s mNo := ⟨fun _ _ _ _ _ _ ⟨_, _, _, _, _, h⟩ => h.elim⟩
theorem sss_no {X : Cx} {E : XK} {s : List Stmt} : SSs X E s mNo := ⟨fun _ _ _ _ _ _ ⟨_, _, _, _, _, h⟩ => h.elim⟩
def mNoE : ME D := fun _ _ => .bad
theorem se_no {X : Cx} {E : XK} {e : Expr} : SE X E e mNoE := ⟨fun _ _ _ _ _ _ ⟨_, _, _, _, _, h⟩ => h.elim⟩
end PL

namespace PL
open PySem PySem.Spec L2
open PyProof.Rows hiding St
/-! ### sorted(set(a tuple of ints)) -/
def tSortedSetI (K : PySem.W.Frag) (ta : TE) : TE := fun σ H Q => ta σ H fun x H1 => ∃ (p0 : Addr) (ns : List Int), x = V.ref p0 ∧ SqT K H1 p0 (ns.map V.int) ∧ ns.length < 64 ∧
  ∀ (ns' : List Int) (p : Addr), ns'.Pairwise (· < ·) → (∀ k : Int, k ∈ ns' ↔ k ∈ ns) → H1 p = none → Q (.ref p) (upd H1 p (.lst (ns'.map V.int)))
theorem pe_sortedSetI {X : Cx} {a : Expr} {ta : TE} {p p2 q pos : Pos} (hc : X.calm = true) (hg : Gl X "sorted") (hm : X.mg "sorted" = none) (hg2 : Gl X "set") (hm2 : X.mg "set" = none) (ha : PE X a ta)
    (na : starEach [a] X.env = (false, eval a X.env) :: starEach [] X.env) : PE X (.Call (.Name "sorted" p) [.Call (.Name "set" p2) [a] [] q] [] pos) (tSortedSetI X.K ta) := by
  refine ⟨fun pins s σ H Q I h => ?_⟩
  refine Call_ (ld_blt I hg hm PyProof.Rows.boot_sorted (PyProof.Rows.callWith_builtin1 (PyProof.Rows.args_cons ?_ rfl) rfl rfl))
  refine Call_ (ld_blt I hg2 hm2 PyProof.Rows.boot_set (PyProof.Rows.callWith_type1 (PyProof.Rows.args_cons (thn (ha.run pins s σ H _ I h) fun v s1 ⟨x, H1, I1, r1, q1⟩ => PyProof.Rows.args_nil ?_) na) na rfl))
  obtain ⟨p0, ns, rfl, hq, hl, q⟩ := q1
  cases r1
  obtain ⟨its, rv, pt, hz⟩ := I1.tuple hq
  have hi : IntsAre its.toArray.toList ns := ints_of_vals rv
  refine call_set_tupI ns (I1.ok.hd hc) (show s1.heap.IsTuple p0 its.toArray from pt) hi (by unfold scanBound; omega) fun h' tk c R1 hcn k => PyProof.Rows.args_nil ?_
  have I2 : Inv X pins σ H1 { s1 with heap := h', toks := tk } := I1.kept k
  refine sorted_set R1 (I2.ok.hd hc) (by omega) fun s' p out c ns' k2 g2 o2 hp hgp hi2 hs2 hm2 hl2 => ?_
  have hlen : (ns'.map V.int).length ≤ sizeLine := by rw [List.length_map, hl2, sizeLine_eq]; omega
  have key : ∀ s2 : Shared, Inv X pins σ H1 s2 → (∀ b o, s2.heap.get? b = some o → s'.heap.get? b = some o) → s'.gens = s2.gens → s'.os = s2.os → s2.heap.objs.size ≤ p → Inv X pins σ (upd H1 p (.lst (ns'.map V.int))) s' ∧ H1 p = none := by
    intro s2 I2 k2 g2 o2 hp
    have hn : H1 p = none := I2.hok.fresh hp
    have J : Inv X pins σ (upd H1 p (.lst (ns'.map V.int))) { s2 with heap := s'.heap, gens := s'.gens, drawn := s'.drawn, toks := s'.toks } :=
      I2.call (ch := []) (Un.laid k2 hp hn) (I2.hok.laid k2 hp ⟨hlen, out.toList, c, vals_of_ints hi2, hgp⟩) (by rw [g2]; exact I2.bare) (fun _ z => nomatch z)
    have e : s' = { s2 with heap := s'.heap, gens := s'.gens, drawn := s'.drawn, toks := s'.toks } := by
      cases s'
      cases s2
      cases o2
      rfl
    rw [e]
    exact ⟨J, hn⟩
  obtain ⟨J, hn⟩ := key _ I2 k2 g2 o2 hp
  exact ⟨.ref p, _, J, rfl, q ns' p hs2 (fun k => by rw [hm2 k, decide_eq_true_eq]) hn⟩
/-! the plain side: each number once, rising -/
def insD (x : Int) : List Int → List Int
  | [] => [x]
  | y :: ys => if x < y then x :: y :: ys else if x = y then y :: ys else y :: insD x ys
def sortD : List Int → List Int
  | [] => []
  | x :: xs => insD x (sortD xs)
theorem mem_insD {k x : Int} : ∀ l : List Int, k ∈ insD x l ↔ k = x ∨ k ∈ l
  | [] => by simp [insD]
  | y :: ys => by
    unfold insD
    split
    · simp
    · split
      · rename_i h; subst h; simp
      · simp [mem_insD ys]
        constructor
        · rintro (h | h | h)
          · exact .inr (.inl h)
          · exact .inl h
          · exact .inr (.inr h)
        · rintro (h | h | h)
          · exact .inr (.inl h)
          · exact .inl h
          · exact .inr (.inr h)
theorem mem_sortD {k : Int} : ∀ l : List Int, k ∈ sortD l ↔ k ∈ l
  | [] => by simp [sortD]
  | y :: ys => by unfold sortD; rw [mem_insD, mem_sortD ys, List.mem_cons]
theorem insD_pw {x : Int} : ∀ l : List Int, l.Pairwise (· < ·) → (insD x l).Pairwise (· < ·)
  | [], _ => by simp [insD]
  | y :: ys, h => by
    obtain ⟨h1, h2⟩ := List.pairwise_cons.mp h
    unfold insD
    split
    · rename_i q
      refine List.pairwise_cons.mpr ⟨fun z hz => ?_, h⟩
      rcases List.mem_cons.mp hz with rfl | hz
      · exact q
      · have := h1 z hz; omega
    · split
      · exact h
      · refine List.pairwise_cons.mpr ⟨fun z hz => ?_, insD_pw ys h2⟩
        rcases (mem_insD ys).mp hz with rfl | hz
        · omega
        · exact h1 z hz
theorem sortD_pw : ∀ l : List Int, (sortD l).Pairwise (· < ·)
  | [] => by simp [sortD]
  | y :: ys => insD_pw _ (sortD_pw ys)
theorem pw_uniq : ∀ l l' : List Int, l.Pairwise (· < ·) → l'.Pairwise (· < ·) → (∀ k, k ∈ l ↔ k ∈ l') → l = l'
  | [], [], _, _, _ => rfl
  | [], y :: ys, _, _, h => by have := (h y).mpr List.mem_cons_self; simp at this
  | x :: xs, [], _, _, h => by have := (h x).mp List.mem_cons_self; simp at this
  | x :: xs, y :: ys, h1, h2, h => by
    obtain ⟨a1, a2⟩ := List.pairwise_cons.mp h1
    obtain ⟨b1, b2⟩ := List.pairwise_cons.mp h2
    have e : x = y := by
      have p1 := (h x).mp List.mem_cons_self
      have p2 := (h y).mpr List.mem_cons_self
      rcases List.mem_cons.mp p1 with q | q
      · exact q
      · rcases List.mem_cons.mp p2 with r | r
        · exact r.symm
        · have := a1 y r; have := b1 x q; omega
    subst e
    congr 1
    refine pw_uniq xs ys a2 b2 fun k => ⟨fun hk => ?_, fun hk => ?_⟩
    · have := a1 k hk
      rcases List.mem_cons.mp ((h k).mp (List.mem_cons_of_mem _ hk)) with q | q
      · omega
      · exact q
    · have := b1 k hk
      rcases List.mem_cons.mp ((h k).mpr (List.mem_cons_of_mem _ hk)) with q | q
      · omega
      · exact q
def mSortSet (m : ME D) : ME D := fun env st => (m env st).bind fun d s1 => match d with
  | .v (.tuple ts) => match intsT ts with
    | some ns => if ts.length < 64 then .ok (.v (.list ((sortD ns).map .int))) s1 else .bad
    | none => .bad
  | _ => .bad
theorem se_sortedSet {X : Cx} {E : XK} {a : Expr} {ma : ME D} {p p2 q pos : Pos} (hc : X.calm = true) (hm : X.mg "sorted" = none) (hm2 : X.mg "set" = none) (ha : SE X E a ma) (hg : Gl X "sorted" := by rfl) (hg2 : Gl X "set" := by rfl)
    (na : starEach [a] X.env = (false, eval a X.env) :: starEach [] X.env := by rfl) : SE X E (.Call (.Name "sorted" p) [.Call (.Name "set" p2) [a] [] q] [] pos) (mSortSet ma) := by
  refine PE.mono (pe_sortedSetI hc hg hm hg2 hm2 ha na) fun σ H Q ⟨g, env, st, re, rs, h⟩ => ⟨g, env, st, re, rs, Post.bind h fun g1 H1 d s1 v s rs1 rd h1 => ?_⟩
  split at h1
  · rename_i ts
    split at h1
    · rename_i ns ek
      obtain ⟨h2, h1⟩ := if_bad h1
      obtain ⟨b, vs, rfl, f, r⟩ := rep_tup rd
      obtain rfl := ints_rep ek r
      have hl := r.length
      refine ⟨b, ns, rfl, f.sq, by rw [List.length_map] at hl; omega, fun ns' p hs hm hn => ?_⟩
      obtain rfl : ns' = sortD ns := pw_uniq _ _ hs (sortD_pw ns) fun k => by rw [hm k, mem_sortD]
      exact Post.newL rs1 hn (rep_ints _) h1
    · exact h1.elim
  · exact h1.elim
end PL

namespace PySem
open Sem (wp)
/-! ### a zip over two iterators of any kind whose tuple is still held -/
section
variable {prog : Program} {w : World} {A : Around} {E : Value → Shared → Prop} {s : Shared} {z TI TO i1 i2 : Addr} {fp1 fp2 : List Addr} {n1 n2 i : Nat} {P1 P2 : Nat → Value → Prop} {St1 St2 : Nat → Heap → Prop}
theorem zipH2_next_item {Th : Addr} {f : Bool} {oT : Obj} {Q : Value → Shared → Prop} (S : ZipSep2 z TI TO i1 i2 fp1 fp2) (D1 : Draws prog w A i1 fp1 n1 P1 St1) (D2 : Draws prog w A i2 fp2 n2 P2 St2)
    (hz : IsZipHeld s.heap z TI TO Th f) (hT : s.heap.get? Th = some oT) (hTI : IsTupOf2 s.heap TI (.ref i1) (.ref i2)) (st1 : St1 i s.heap) (st2 : St2 i s.heap) (hlt1 : i < n1) (hlt2 : i < n2)
    (hQ : ∀ x1 x2 h' tk, P1 i x1 → P2 i x2 → IsZipHeld h' z TI TO Th true → St1 (i + 1) h' → St2 (i + 1) h' → IsTupOf2 h' s.heap.objs.size x1 x2 → h'.objs.size = s.heap.objs.size + 1 →
      (∀ c o, c ≠ z → c ≠ i1 → c ≠ i2 → s.heap.get? c = some o → h'.get? c = some o) → Q (.ref s.heap.objs.size) { s with heap := h', toks := tk }) :
    wpAny (model prog w) A (Builtin.«zip.__next__» ⟨[.ref z], []⟩) (fun fin s' => ∃ v, fin = .done (.ret v) ∧ Q v s') E s := by
  obtain ⟨hp, g, d, tk0, os⟩ := s
  show wpAny _ _ (field (.ref z) 2 >>= _) _ _ _
  refine wpAny_bind (wpAny_field hz rfl (x := .bool false) rfl ?_)
  show wpAny _ _ (field (.ref z) 3 >>= _) _ _ _
  refine wpAny_bind (wpAny_field hz rfl (x := .ref TI) rfl ?_)
  refine wpAny_bind (wpAny_seqItems hTI rfl ?_)
  show wpAny _ _ (Builtin.SmallTypes.ownedTupleIsFree (.ref z) >>= _) _ _ _
  refine wpAny_bind (wpAny_tupleHeld_zip hz hT fun g0 hz0 hs0 => ?_)
  replace hs0 : Heap.SameBut z hp g0 := hs0
  simp only [Bool.false_eq_true, if_false]
  refine wpAny_bind ?_
  rw [← Array.forIn_toList]
  simp only [List.forIn_cons, List.forIn_nil]
  refine wpAny_bind (wpAny_bind (wpAny_holding ?_))
  show wpAny _ _ (Builtin.SmallTypes.nextOf (.ref i1) >>= _) _ _ ⟨g0, g, d, tk0, os⟩
  refine wpAny_bind (D1.item i _ _ _ hlt1 (D1.over st1 hs0 S.zf1) fun x1 p1 tk1 hx1 sn1 hp1 => wpAny_pure ?_)
  replace hp1 : Heap.SameBut i1 g0 p1 := hp1
  refine wpAny_pure ?_
  refine wpAny_bind (wpAny_bind (wpAny_holding ?_))
  show wpAny _ _ (Builtin.SmallTypes.nextOf (.ref i2) >>= _) _ _ ⟨p1, g, d, tk1, os⟩
  refine wpAny_bind (D2.item i _ _ _ hlt2 (D2.over (D2.over st2 hs0 S.zf2) hp1 S.sep1_2) fun x2 p2 tk2 hx2 sn2 hp2 => wpAny_pure ?_)
  replace hp2 : Heap.SameBut i2 p1 p2 := hp2
  refine wpAny_pure (wpAny_pure ?_)
  show wpAny _ _ (newTuple [x1, x2] >>= _) _ _ _
  refine wpAny_bind (wpAny_newTuple ?_)
  have hsz : p2.objs.size = hp.objs.size := by rw [hp2.1, hp1.1, hs0.1]
  have hzz : IsZipHeld p2 z TI TO Th true := hp2.extBut _ _ S.zi2 (hp1.extBut _ _ S.zi1 hz0)
  have hkk : ∀ c o, c ≠ z → c ≠ i1 → c ≠ i2 → hp.get? c = some o → p2.get? c = some o := fun c o cz c1 c2 e => hp2.extBut _ _ c2 (hp1.extBut _ _ c1 (hs0.extBut _ _ cz e))
  have hj1 : St1 (i + 1) p2 := D1.over sn1 hp2 S.sep2_1
  refine wpAny_pure ⟨_, rfl, ?_⟩
  show Q (.ref p2.objs.size) _
  have hpT : IsTupOf2 (p2.push { cls := .type "tuple", data := .seq #[x1, x2] }) p2.objs.size x1 x2 := Heap.get?_push_size _ rfl
  have hz4 : (p2.push { cls := .type "tuple", data := .seq #[x1, x2] }).objs.size = p2.objs.size + 1 := Heap.size_push ..
  rw [hsz] at hpT hz4 ⊢
  exact hQ x1 x2 _ tk2 hx1 hx2 (Heap.get?_push_of_some _ hzz) (D1.frame _ _ _ hj1 fun b hb o e => Heap.get?_push_of_some _ e) (D2.frame _ _ _ sn2 fun b hb o e => Heap.get?_push_of_some _ e) hpT hz4 fun c o c1 c2 c3 e => Heap.get?_push_of_some _ (hkk c o c1 c2 c3 e)
theorem zipH2_next_end {Th : Addr} {f : Bool} {oT : Obj} {Q : Fin → Shared → Prop} (S : ZipSep2 z TI TO i1 i2 fp1 fp2) (D1 : Draws prog w A i1 fp1 n1 P1 St1) (D2 : Draws prog w A i2 fp2 n2 P2 St2)
    (hz : IsZipHeld s.heap z TI TO Th f) (hT : s.heap.get? Th = some oT) (hTI : IsTupOf2 s.heap TI (.ref i1) (.ref i2)) (st1 : St1 i s.heap) (st2 : St2 i s.heap) (hle1 : i ≤ n1) (hle2 : i ≤ n2) (hend : i = n1 ∨ i = n2)
    (hE : ∀ h' tk e, (∀ c o, c ≠ z → c ≠ i1 → c ≠ i2 → s.heap.get? c = some o → h'.get? c = some o) → (∃ o, h'.get? e = some o ∧ o.cls = .type "StopIteration") → E (.ref e) { s with heap := h', toks := tk }) :
    wpAny (model prog w) A (Builtin.«zip.__next__» ⟨[.ref z], []⟩) Q E s := by
  obtain ⟨hp, g, d, tk0, os⟩ := s
  show wpAny _ _ (field (.ref z) 2 >>= _) _ _ _
  refine wpAny_bind (wpAny_field hz rfl (x := .bool false) rfl ?_)
  show wpAny _ _ (field (.ref z) 3 >>= _) _ _ _
  refine wpAny_bind (wpAny_field hz rfl (x := .ref TI) rfl ?_)
  refine wpAny_bind (wpAny_seqItems hTI rfl ?_)
  show wpAny _ _ (Builtin.SmallTypes.ownedTupleIsFree (.ref z) >>= _) _ _ _
  refine wpAny_bind (wpAny_tupleHeld_zip hz hT fun g0 hz0 hs0 => ?_)
  replace hs0 : Heap.SameBut z hp g0 := hs0
  simp only [Bool.false_eq_true, if_false]
  refine wpAny_bind ?_
  rw [← Array.forIn_toList]
  simp only [List.forIn_cons, List.forIn_nil]
  refine wpAny_bind (wpAny_bind (wpAny_holding ?_))
  show wpAny _ _ (Builtin.SmallTypes.nextOf (.ref i1) >>= _) _ _ ⟨g0, g, d, tk0, os⟩
  by_cases hlt1 : i < n1
  · refine wpAny_bind (D1.item i _ _ _ hlt1 (D1.over st1 hs0 S.zf1) fun x1 p1 tk1 hx1 sn1 hp1 => wpAny_pure ?_)
    replace hp1 : Heap.SameBut i1 g0 p1 := hp1
    have hi2 : i = n2 := by omega
    refine wpAny_pure ?_
    refine wpAny_bind (wpAny_bind (wpAny_holding ?_))
    show wpAny _ _ (Builtin.SmallTypes.nextOf (.ref i2) >>= _) _ _ ⟨p1, g, d, tk1, os⟩
    refine wpAny_bind (D2.done ⟨p1, g, d, tk1, os⟩ _ _ (by rw [← hi2]; exact (D2.over (D2.over st2 hs0 S.zf2) hp1 S.sep1_2)) fun q e hq he => ?_)
    exact hE q tk1 e (fun c o cz c1 c2 x => hq _ _ c2 (hp1.extBut _ _ c1 (hs0.extBut _ _ cz x))) he
  · have hi1 : i = n1 := by omega
    refine wpAny_bind (D1.done ⟨g0, g, d, tk0, os⟩ _ _ (by rw [← hi1]; exact (D1.over st1 hs0 S.zf1)) fun q e hq he => ?_)
    exact hE q tk0 e (fun c o cz c1 c2 x => hq _ _ c1 (hs0.extBut _ _ cz x)) he
theorem wpAny_pyNext_zipH2_item {Th : Addr} {f : Bool} {oT : Obj} {Q : Option Value → Shared → Prop} (S : ZipSep2 z TI TO i1 i2 fp1 fp2) (D1 : Draws prog w A.in1 i1 fp1 n1 P1 St1) (D2 : Draws prog w A.in1 i2 fp2 n2 P2 St2)
    (hz : IsZipHeld s.heap z TI TO Th f) (hT : s.heap.get? Th = some oT) (hTI : IsTupOf2 s.heap TI (.ref i1) (.ref i2)) (st1 : St1 i s.heap) (st2 : St2 i s.heap) (hlt1 : i < n1) (hlt2 : i < n2)
    (hQ : ∀ x1 x2 h' tk, P1 i x1 → P2 i x2 → IsZipHeld h' z TI TO Th true → St1 (i + 1) h' → St2 (i + 1) h' → IsTupOf2 h' s.heap.objs.size x1 x2 → h'.objs.size = s.heap.objs.size + 1 →
      (∀ c o, c ≠ z → c ≠ i1 → c ≠ i2 → s.heap.get? c = some o → h'.get? c = some o) → Q (some (.ref s.heap.objs.size)) { s with heap := h', toks := tk }) :
    wpAny (model prog w) A (pyNext (.ref z)) Q E s := by
  have hTy : s.TypeIs (.ref z) "zip" := ⟨_, hz, rfl⟩
  unfold pyNext
  exact wpAny_bind (wpAny_attempt (wpAny_callSpecial?_slot (name := Str.ofString "__next__") hTy F.slot_zip_next
    (wpAny_call_entry F.slot_zip_next hTy F.entry_zip_next
      (zipH2_next_item S D1 D2 hz hT hTI st1 st2 hlt1 hlt2 fun x1 x2 h' tk y1 y2 b1 d1 d2 b5 b6 b7 => wpAny_pure (hQ x1 x2 h' tk y1 y2 b1 d1 d2 b5 b6 b7)) (F.args_zip_next_1 _))))
theorem wpAny_pyNext_zipH2_end {Th : Addr} {f : Bool} {oT : Obj} {Q : Option Value → Shared → Prop} (S : ZipSep2 z TI TO i1 i2 fp1 fp2) (D1 : Draws prog w A.in1 i1 fp1 n1 P1 St1) (D2 : Draws prog w A.in1 i2 fp2 n2 P2 St2)
    (hz : IsZipHeld s.heap z TI TO Th f) (hT : s.heap.get? Th = some oT) (hTI : IsTupOf2 s.heap TI (.ref i1) (.ref i2)) (st1 : St1 i s.heap) (st2 : St2 i s.heap) (hle1 : i ≤ n1) (hle2 : i ≤ n2) (hend : i = n1 ∨ i = n2)
    (hQ : ∀ h' tk, (∀ c o, c ≠ z → c ≠ i1 → c ≠ i2 → s.heap.get? c = some o → h'.get? c = some o) → Q none { s with heap := h', toks := tk }) : wpAny (model prog w) A (pyNext (.ref z)) Q E s := by
  have hTy : s.TypeIs (.ref z) "zip" := ⟨_, hz, rfl⟩
  unfold pyNext
  refine wpAny_bind (wpAny_attempt (wpAny_callSpecial?_slot (name := Str.ofString "__next__") hTy F.slot_zip_next
    (wpAny_call_entry F.slot_zip_next hTy F.entry_zip_next (zipH2_next_end S D1 D2 hz hT hTI st1 st2 hle1 hle2 hend fun h' tk e hk he => ?_) (F.args_zip_next_1 _))))
  obtain ⟨o, ho, hc⟩ := he
  refine wpAny_bind (wpAny_isInstance (T := "StopIteration") (b := true) ⟨o, ho, hc⟩ isSubtype_stop ?_)
  exact wpAny_pure (hQ _ _ hk)
end
end PySem

namespace PySem
open Sem (wp)
namespace F
theorem nolen_zp : typeLookup (.type "zip") "__len__" = pure none := by rw [typeLookup_type, builtinLookup_eq_fast]; kernel_rfl
theorem nohint_zp : typeLookup (.type "zip") "__length_hint__" = pure none := by rw [typeLookup_type, builtinLookup_eq_fast]; kernel_rfl
end F
/-- an iterator whose items go into the list at S; the state knows what was drawn -/
structure DrawsIn (prog : Program) (w : World) (A : Around) (I S : Addr) (n : Nat) (St En : Array Value → Heap → Prop) : Prop where
  frame : ∀ acc h h', St acc h → (∀ b o, b ≠ S → h.get? b = some o → h'.get? b = some o) → St acc h'
  item : ∀ acc (s : Shared) (Q : Option Value → Shared → Prop) (E : Value → Shared → Prop), acc.size < n → St acc s.heap → S < s.heap.objs.size →
    (∀ v h' tk, St (acc.push v) h' → (∀ o, s.heap.get? S = some o → h'.get? S = some o) → Q (some v) { s with heap := h', toks := tk }) → wpAny (model prog w) A (pyNext (.ref I)) Q E s
  done : ∀ acc (s : Shared) (Q : Option Value → Shared → Prop) (E : Value → Shared → Prop), acc.size = n → St acc s.heap →
    (∀ h' tk, En acc h' → (∀ o, s.heap.get? S = some o → h'.get? S = some o) → Q none { s with heap := h', toks := tk }) → wpAny (model prog w) A (pyNext (.ref I)) Q E s
section
variable {prog : Program} {w : World} {A : Around} {R : Result → Shared → Prop} {I S : Addr} {n : Nat} {St En : Array Value → Heap → Prop}
theorem codeAny_extend_loopZ (W : DrawsIn prog w A.in1 I S n St En) (hn : n ≤ sizeLine) (res : Value) :
    ∀ (k : Nat) (s : Shared) (acc : Array Value) (c : Nat), n - acc.size = k → acc.size ≤ n → St acc s.heap → s.heap.get? S = some { cls := .type "list", dict := none, data := .seq acc c, slots := #[] } →
    (∀ h' tk acc' c', acc'.size = n → En acc' h' → h'.get? S = some { cls := .type "list", dict := none, data := .seq acc' c', slots := #[] } → R (.ok (.ret res)) { s with heap := h', toks := tk }) →
    codeAny (model prog w) A (.builtin "list.extend.loop" ⟨[.ref S, .ref I, res], []⟩) R s := by
  intro k
  induction k with
  | zero =>
    intro s acc c hk hi hst hS hR
    have hin : acc.size = n := by omega
    refine codeAny_builtin F.entry_extend_loop ?_
    rw [Around.under_plainId F.plain_extend_loop _]
    show wpAny _ A.in1 (pyNext (.ref I) >>= _) _ _ s
    refine wpAny_bind (W.done acc s _ _ hin hst fun h' tk he hk' => ?_)
    exact wpAny_pure (hR h' tk acc c hin he (hk' _ hS))
  | succ k ih =>
    intro s acc c hk hi hst hS hR
    have hlt : acc.size < n := by omega
    refine codeAny_builtin F.entry_extend_loop ?_
    rw [Around.under_plainId F.plain_extend_loop _]
    show wpAny _ A.in1 (pyNext (.ref I) >>= _) _ _ s
    refine wpAny_bind (W.item acc s _ _ hlt hst (Heap.lt_size hS) fun v h' tk hst' hk' => ?_)
    have hS' := hk' _ hS
    show wpAny _ A.in1 (updateSeq S (·.push v) >>= _) _ _ _
    refine wpAny_bind ?_
    refine wpAny_updateSeq hS' rfl (wpAny_pure ⟨plainId_quiet F.plain_extend_loop _, ih _ (acc.push v) _ (by rw [Array.size_push]; omega) (by rw [Array.size_push]; omega) (W.frame _ _ _ hst' fun b o hb e => ?_) (Heap.get?_update_self _ hS' rfl) fun h'' tk'' acc' c' a1 a2 a3 => ?_⟩)
      (by omega) (by show (acc.push v).size ≤ sizeLine + 1; rw [Array.size_push]; omega)
    · exact (Heap.get?_update_other _ _ (Ne.symm hb)).trans e
    · exact hR h'' tk'' acc' c' a1 a2 a3
end
section
variable {prog : Program} {w : World} {A : Around} {E : Value → Shared → Prop} {s : Shared} {I : Addr} {n : Nat} {St En : Array Value → Heap → Prop} {T : String}
theorem dz_extend {S : Addr} {R : Result → Shared → Prop} (hl : typeLookup (.type T) "__len__" = pure none) (hn0 : typeLookup (.type T) "__length_hint__" = pure none)
    (h2 : (Value.type T == Value.type "list") = false) (h3 : (Value.type T == Value.type "tuple") = false)
    (hTy : s.TypeIs (.ref I) T) (hIt : ∀ (A : Around) (E : Value → Shared → Prop) (Q : Value → Shared → Prop), Q (.ref I) s → wpAny (model prog w) A (pyIter (.ref I)) Q E s)
    (W : DrawsIn prog w A.in1 I S n St En) (hst : St #[] s.heap) (hSI : S ≠ I) (hn : n ≤ sizeLine) (res : Value) (c₀ : Nat) (hS : s.heap.get? S = some { cls := .type "list", data := .seq #[] c₀ })
    (hR : ∀ h' tk acc' c', acc'.size = n → En acc' h' → h'.get? S = some { cls := .type "list", dict := none, data := .seq acc' c', slots := #[] } → R (.ok (.ret res)) { s with heap := h', toks := tk }) :
    wpAny (model prog w) A.in1 (Builtin.List.listExtendWith (.ref S) (.ref I) res)
      (fun fin s' => match fin with | .done f => R (.ok f) s' | .again c' => c'.quiet = true ∧ codeAny (model prog w) A c' R s') (fun e s' => R (.error e) s') s := by
  unfold Builtin.List.listExtendWith
  refine wpAny_bind (wpAny_typeOf hTy ?_)
  have h1 : Builtin.List.listSameRef (.ref S) (.ref I) = false := by simp [Builtin.List.listSameRef, hSI]
  simp only [h1, h2, h3, Bool.or_false, Bool.false_eq_true, if_false]
  refine wpAny_bind (hIt _ _ _ ?_)
  refine wpAny_bind (wpAny_holding ?_)
  unfold Builtin.List.listLengthHint
  refine wpAny_bind (wpAny_specialOf hTy hl ?_)
  show wpAny _ A.in1 (specialOf (Value.ref I) (Str.ofString "__length_hint__") >>= _) _ _ _
  refine wpAny_bind (wpAny_specialOf hTy hn0 ?_)
  refine wpAny_pure ?_
  show wpAny _ A.in1 (rule "list.extend.makes-room" >>= fun _ => Builtin.List.listTouch (.ref S) >>= fun _ =>
    again (.builtin "list.extend.loop" ⟨[.ref S, .ref I, res], []⟩)) _ _ _
  refine wpAny_bind (wpAny_rule ?_)
  refine wpAny_bind ?_
  show wpAny _ A.in1 (updateSeq S (·.push .none) >>= fun _ => updateSeq S (·.pop)) _ _ _
  refine wpAny_bind (wpAny_updateSeq hS rfl ?_)
  have hS₂ := Heap.get?_update_self (Obj.mapSeq (·.push Value.none)) hS rfl
  refine wpAny_updateSeq (hz := by seq_fits) hS₂ rfl ?_
  have hS₃ := Heap.get?_update_self (Obj.mapSeq (·.pop)) hS₂ rfl
  refine wpAny_pure ⟨plainId_quiet F.plain_extend_loop _, codeAny_extend_loopZ W hn res n _ #[] _ rfl (Nat.zero_le _) (W.frame _ _ _ hst fun b o hb e => ?_) hS₃ fun h' tk acc' c' a1 a2 a3 => ?_⟩
  · exact (Heap.get?_update_other _ _ (Ne.symm hb)).trans ((Heap.get?_update_other _ _ (Ne.symm hb)).trans e)
  · exact hR h' tk acc' c' a1 a2 a3
theorem dz_init {S : Addr} {R : Result → Shared → Prop} (hl : typeLookup (.type T) "__len__" = pure none) (hn0 : typeLookup (.type T) "__length_hint__" = pure none)
    (h2 : (Value.type T == Value.type "list") = false) (h3 : (Value.type T == Value.type "tuple") = false)
    (hTy : ∀ h' : Heap, (∀ b o, b ≠ S → s.heap.get? b = some o → h'.get? b = some o) → ({ s with heap := h' } : Shared).TypeIs (.ref I) T)
    (hIt : ∀ h' : Heap, (∀ b o, b ≠ S → s.heap.get? b = some o → h'.get? b = some o) → ∀ (A : Around) (E : Value → Shared → Prop) (Q : Value → Shared → Prop), Q (.ref I) { s with heap := h' } → wpAny (model prog w) A (pyIter (.ref I)) Q E { s with heap := h' })
    (W : DrawsIn prog w A.in1 I S n St En) (hst : St #[] s.heap) (hSI : S ≠ I) (hn : n ≤ sizeLine) (hS : s.heap.get? S = some { cls := .type "list", data := .seq #[] })
    (hR : ∀ h' tk acc' c', acc'.size = n → En acc' h' → h'.get? S = some { cls := .type "list", dict := none, data := .seq acc' c', slots := #[] } → R (.ok (.ret .none)) { s with heap := h', toks := tk }) :
    wpAny (model prog w) A.in1 (Builtin.«list.__init__» ⟨[.ref S, .ref I], []⟩)
      (fun fin s' => match fin with | .done f => R (.ok f) s' | .again c' => c'.quiet = true ∧ codeAny (model prog w) A c' R s') (fun e s' => R (.error e) s') s := by
  show wpAny _ _ (do let old ← Builtin.List.listItems (.ref S); Builtin.List.listUpdate (.ref S) (fun _ => #[]); letGo old.toList.reverse; Builtin.List.listExtendWith (.ref S) (.ref I) .none) _ _ s
  refine wpAny_bind ?_
  unfold Builtin.List.listItems
  refine wpAny_bind (wpAny_seqItems hS rfl (wpAny_pure ?_))
  show wpAny _ _ (updateSeq S (fun _ => #[]) >>= fun _ => letGo (#[] : Array Value).toList.reverse >>= fun _ => Builtin.List.listExtendWith (.ref S) (.ref I) .none) _ _ s
  refine wpAny_bind (wpAny_updateSeq hS rfl ?_)
  have hS₂ := Heap.get?_update_self (Obj.mapSeq (fun _ => (#[] : Array Value))) hS rfl
  have oth : ∀ b o, b ≠ S → s.heap.get? b = some o → (s.heap.update S (Obj.mapSeq (fun _ => (#[] : Array Value)))).get? b = some o :=
    fun b o hb e => (Heap.get?_update_other _ _ (Ne.symm hb)).trans e
  refine wpAny_bind (wpAny_letGo ?_)
  exact dz_extend hl hn0 h2 h3 (hTy _ oth) (hIt _ oth) W (W.frame _ _ _ hst oth) hSI hn .none _ hS₂ fun h' tk acc' c' a1 a2 a3 => hR h' tk acc' c' a1 a2 a3
theorem dz_call {Q : Value → Shared → Prop} (hl : typeLookup (.type T) "__len__" = pure none) (hn0 : typeLookup (.type T) "__length_hint__" = pure none)
    (h2 : (Value.type T == Value.type "list") = false) (h3 : (Value.type T == Value.type "tuple") = false) (hI : I < s.heap.objs.size)
    (hTy : ∀ h' : Heap, (∀ b o, s.heap.get? b = some o → h'.get? b = some o) → ({ s with heap := h' } : Shared).TypeIs (.ref I) T)
    (hIt : ∀ h' : Heap, (∀ b o, s.heap.get? b = some o → h'.get? b = some o) → ∀ (A : Around) (E : Value → Shared → Prop) (Q : Value → Shared → Prop), Q (.ref I) { s with heap := h' } → wpAny (model prog w) A (pyIter (.ref I)) Q E { s with heap := h' })
    (W : DrawsIn prog w A.in1.in1 I s.heap.objs.size n St En) (hst : St #[] (s.heap.push { cls := .type "list", data := .seq #[] })) (hn : n ≤ sizeLine)
    (hQ : ∀ h' tk acc' c', acc'.size = n → En acc' h' → h'.get? s.heap.objs.size = some { cls := .type "list", dict := none, data := .seq acc' c', slots := #[] } → Q (.ref s.heap.objs.size) { s with heap := h', toks := tk }) :
    wpAny (model prog w) A (call (.type "list") [.ref I]) Q E s := by
  refine callType_codes (Q₁ := fun obj s₁ => obj = .ref s.heap.objs.size ∧ s₁ = { s with heap := s.heap.push { cls := .type "list", data := .seq #[] } }) PySem.F.called_list (PySem.F.typeCall_list_1 _) PySem.F.entry_list_init
    (code_list_new _ ⟨rfl, rfl⟩) fun obj s₁ h₁ => ?_
  obtain ⟨rfl, rfl⟩ := h₁
  have hS : (s.heap.push { cls := .type "list", data := .seq #[] }).get? s.heap.objs.size = some { cls := .type "list", data := .seq #[] } := Heap.get?_push_size _ rfl
  have oth : ∀ h' : Heap, (∀ b o, b ≠ s.heap.objs.size → (s.heap.push { cls := .type "list", data := .seq #[] }).get? b = some o → h'.get? b = some o) → ∀ b o, s.heap.get? b = some o → h'.get? b = some o :=
    fun h' k b o e => k b o (Nat.ne_of_lt (Heap.lt_size e)) (Heap.get?_push_of_some _ e)
  refine ⟨⟨_, hS, rfl⟩, PySem.F.args_list_init_2 _ _, dz_init (A := A.in1) hl hn0 h2 h3 (fun h' k => hTy h' (oth h' k)) (fun h' k => hIt h' (oth h' k)) W hst (Nat.ne_of_gt hI) hn hS fun h' tk acc' c' a1 a2 a3 => ?_⟩
  exact ⟨rfl, hQ h' tk acc' c' a1 a2 a3⟩
end
end PySem

namespace PySem
open Sem (wp)
section
variable {prog : Program} {w : World} {A : Around} {z TI TO i1 i2 S : Addr} {fp1 fp2 : List Addr} {n1 n2 : Nat} {P1 P2 : Nat → Value → Prop} {St1 St2 : Nat → Heap → Prop}
def ZPs (S : Addr) (P1 P2 : Nat → Value → Prop) (acc : Array Value) (h : Heap) : Prop :=
  ∃ ps : List Addr, acc = (ps.map Value.ref).toArray ∧ ps.Nodup ∧ ∀ (j : Nat) (p : Addr), ps[j]? = some p → S < p ∧ ∃ x y, P1 j x ∧ P2 j y ∧ IsTupOf2 h p x y
def ZEn (h0 : Heap) (z TO i1 i2 S : Addr) (P1 P2 : Nat → Value → Prop) (acc : Array Value) (h : Heap) : Prop :=
  (∀ b o, b ≠ S → b ≠ z → b ≠ TO → b ≠ i1 → b ≠ i2 → h0.get? b = some o → h.get? b = some o) ∧ ZPs S P1 P2 acc h
def ZSt (h0 : Heap) (z TI TO i1 i2 S : Addr) (P1 P2 : Nat → Value → Prop) (St1 St2 : Nat → Heap → Prop) (acc : Array Value) (h : Heap) : Prop :=
  ZEn h0 z TO i1 i2 S P1 P2 acc h ∧ St1 acc.size h ∧ St2 acc.size h ∧ IsTupOf2 h TI (.ref i1) (.ref i2) ∧
    ((IsZip h z TI TO .none ∧ ∃ x y, IsTupOf2 h TO x y) ∨ ∃ Th f oT, IsZipHeld h z TI TO Th f ∧ h.get? Th = some oT ∧ S < Th)
theorem ZPs.frame {acc : Array Value} {h h' : Heap} (x : ZPs S P1 P2 acc h) (k : ∀ b o, S < b → h.get? b = some o → h'.get? b = some o) : ZPs S P1 P2 acc h' := by
  obtain ⟨ps, e, nd, f⟩ := x
  refine ⟨ps, e, nd, fun j p hp => ?_⟩
  obtain ⟨h1, u, v, a, b, c⟩ := f j p hp
  exact ⟨h1, u, v, a, b, k _ _ h1 c⟩
theorem ZPs.push {acc : Array Value} {h h' : Heap} {x y : Value} {p : Addr} (q : ZPs S P1 P2 acc h) (k : ∀ b o, S < b → h.get? b = some o → h'.get? b = some o) (hp : h.objs.size ≤ p) (hS : S < p) (h1 : P1 acc.size x) (h2 : P2 acc.size y) (ht : IsTupOf2 h' p x y) :
    ZPs S P1 P2 (acc.push (.ref p)) h' := by
  obtain ⟨ps, e, nd, f⟩ := q
  have lt : ∀ b ∈ ps, b < h.objs.size := fun b hb => by
    obtain ⟨j, hj⟩ := List.getElem?_of_mem hb
    obtain ⟨_, _, _, _, _, c⟩ := f j b hj
    exact Heap.lt_size c
  have hl : acc.size = ps.length := by rw [e]; simp
  refine ⟨ps ++ [p], by rw [e]; simp, ?_, fun j b hb => ?_⟩
  · rw [List.nodup_append]
    exact ⟨nd, by simp, fun a ha b hb => by rw [List.mem_singleton] at hb; subst hb; exact fun e' => absurd (lt a ha) (by rw [e']; exact Nat.not_lt.mpr hp)⟩
  · by_cases hj : j < ps.length
    · rw [List.getElem?_append_left hj] at hb
      obtain ⟨h1, u, v, a, b', c⟩ := f j b hb
      exact ⟨h1, u, v, a, b', k _ _ h1 c⟩
    · have hj2 : j = ps.length := by
        have := (List.getElem?_eq_some_iff.mp hb).1
        simp at this; omega
      subst hj2
      rw [List.getElem?_append_right (Nat.le_refl _), Nat.sub_self] at hb
      cases hb
      rw [hl] at h1 h2
      exact ⟨hS, x, y, h1, h2, ht⟩
theorem zip_drawsIn (h0 : Heap) (Sp : ZipSep2 z TI TO i1 i2 fp1 fp2) (D1 : Draws prog w A.in1 i1 fp1 n1 P1 St1) (D2 : Draws prog w A.in1 i2 fp2 n2 P2 St2)
    (lz : z < S) (lTI : TI < S) (lTO : TO < S) (l1 : i1 < S) (l2 : i2 < S) (f1 : S ∉ fp1) (f2 : S ∉ fp2) :
    DrawsIn prog w A z S (min n1 n2) (ZSt h0 z TI TO i1 i2 S P1 P2 St1 St2) (ZEn h0 z TO i1 i2 S P1 P2) where
  frame := fun acc h h' ⟨⟨k0, zp⟩, s1, s2, hTI, hz⟩ k => by
    refine ⟨⟨fun b o e e1 e2 e3 e4 q => k b o e (k0 b o e e1 e2 e3 e4 q), zp.frame fun b o hb q => k b o (Nat.ne_of_gt hb) q⟩, D1.frame _ _ _ s1 fun b hb o e => k b o (fun q => f1 (q ▸ hb)) e, D2.frame _ _ _ s2 fun b hb o e => k b o (fun q => f2 (q ▸ hb)) e,
      k _ _ (Nat.ne_of_lt lTI) hTI, ?_⟩
    rcases hz with ⟨hz, x, y, hTO⟩ | ⟨Th, f, oT, hz, hT, hS⟩
    · exact .inl ⟨k _ _ (Nat.ne_of_lt lz) hz, x, y, k _ _ (Nat.ne_of_lt lTO) hTO⟩
    · exact .inr ⟨Th, f, oT, k _ _ (Nat.ne_of_lt lz) hz, k _ _ (Nat.ne_of_gt hS) hT, hS⟩
  item := fun acc s Q E hi ⟨⟨k0, zp⟩, s1, s2, hTI, hz⟩ hlt hQ => by
    have nz : ∀ b : Addr, S < b → b ≠ z := fun b hb => Nat.ne_of_gt (Nat.lt_trans lz hb)
    have nT : ∀ b : Addr, S < b → b ≠ TO := fun b hb => Nat.ne_of_gt (Nat.lt_trans lTO hb)
    have n1' : ∀ b : Addr, S < b → b ≠ i1 := fun b hb => Nat.ne_of_gt (Nat.lt_trans l1 hb)
    have n2' : ∀ b : Addr, S < b → b ≠ i2 := fun b hb => Nat.ne_of_gt (Nat.lt_trans l2 hb)
    have a1 : acc.size < n1 := by omega
    have a2 : acc.size < n2 := by omega
    rcases hz with ⟨hz, x, y, hTO⟩ | ⟨Th, f, oT, hz, hT, hS⟩
    · refine wpAny_pyNext_zipD2_item Sp D1 D2 hz hTI hTO s1 s2 a1 a2 fun x1 x2 h' tk y1 y2 b1 b2 d1 d2 b5 b6 k => ?_
      refine hQ _ h' tk ⟨⟨fun b o e e1 e2 e3 e4 q => k b o e1 e2 e3 e4 (k0 b o e e1 e2 e3 e4 q), zp.push (fun b o hb q => k b o (nz b hb) (nT b hb) (n1' b hb) (n2' b hb) q) (Nat.le_refl _) hlt y1 y2 b5⟩, by rw [Array.size_push]; exact d1, by rw [Array.size_push]; exact d2,
        k _ _ Sp.TIz Sp.TITO Sp.TIi1 Sp.TIi2 hTI, .inr ⟨s.heap.objs.size, false, _, b1, b5, hlt⟩⟩ fun o q => k S o (Nat.ne_of_gt lz) (Nat.ne_of_gt lTO) (Nat.ne_of_gt l1) (Nat.ne_of_gt l2) q
    · refine wpAny_pyNext_zipH2_item Sp D1 D2 hz hT hTI s1 s2 a1 a2 fun x1 x2 h' tk y1 y2 b1 d1 d2 b5 b6 k => ?_
      refine hQ _ h' tk ⟨⟨fun b o e e1 e2 e3 e4 q => k b o e1 e3 e4 (k0 b o e e1 e2 e3 e4 q), zp.push (fun b o hb q => k b o (nz b hb) (n1' b hb) (n2' b hb) q) (Nat.le_refl _) hlt y1 y2 b5⟩, by rw [Array.size_push]; exact d1, by rw [Array.size_push]; exact d2,
        k _ _ Sp.TIz Sp.TIi1 Sp.TIi2 hTI, .inr ⟨Th, true, oT, b1, k _ _ (nz _ hS) (n1' _ hS) (n2' _ hS) hT, hS⟩⟩ fun o q => k S o (Nat.ne_of_gt lz) (Nat.ne_of_gt l1) (Nat.ne_of_gt l2) q
  done := fun acc s Q E hi ⟨⟨k0, zp⟩, s1, s2, hTI, hz⟩ hQ => by
    have nz : ∀ b : Addr, S < b → b ≠ z := fun b hb => Nat.ne_of_gt (Nat.lt_trans lz hb)
    have nT : ∀ b : Addr, S < b → b ≠ TO := fun b hb => Nat.ne_of_gt (Nat.lt_trans lTO hb)
    have n1' : ∀ b : Addr, S < b → b ≠ i1 := fun b hb => Nat.ne_of_gt (Nat.lt_trans l1 hb)
    have n2' : ∀ b : Addr, S < b → b ≠ i2 := fun b hb => Nat.ne_of_gt (Nat.lt_trans l2 hb)
    have a1 : acc.size ≤ n1 := by omega
    have a2 : acc.size ≤ n2 := by omega
    have a3 : acc.size = n1 ∨ acc.size = n2 := by omega
    rcases hz with ⟨hz, x, y, hTO⟩ | ⟨Th, f, oT, hz, hT, hS⟩
    · refine wpAny_pyNext_zipD2_end Sp D1 D2 hz hTI hTO s1 s2 a1 a2 a3 fun h' tk k => ?_
      exact hQ h' tk ⟨fun b o e e1 e2 e3 e4 q => k b o e1 e2 e3 e4 (k0 b o e e1 e2 e3 e4 q), zp.frame fun b o hb q => k b o (nz b hb) (nT b hb) (n1' b hb) (n2' b hb) q⟩ fun o q => k S o (Nat.ne_of_gt lz) (Nat.ne_of_gt lTO) (Nat.ne_of_gt l1) (Nat.ne_of_gt l2) q
    · refine wpAny_pyNext_zipH2_end Sp D1 D2 hz hT hTI s1 s2 a1 a2 a3 fun h' tk k => ?_
      exact hQ h' tk ⟨fun b o e e1 e2 e3 e4 q => k b o e1 e3 e4 (k0 b o e e1 e2 e3 e4 q), zp.frame fun b o hb q => k b o (nz b hb) (n1' b hb) (n2' b hb) q⟩ fun o q => k S o (Nat.ne_of_gt lz) (Nat.ne_of_gt l1) (Nat.ne_of_gt l2) q
end
end PySem

namespace PL
open PySem PySem.Spec L2
open PyProof.Rows hiding St
/-! ### list(zip(a, b)) -/
theorem Un.many {fs ex : List Addr} {P : Program} {w : World} {H H' : Hp} {h h' : Heap} (hok : HOk P w H h) (k : ∀ b u, h.get? b = some u → h'.get? b = some u) (e : ∀ b, b < h.objs.size → H' b = H b) : Un fs ex H H' h h' where
  keep := fun b u q _ _ _ => k b u q
  slot := fun b u q _ _ _ => ⟨u.slots, k b u q⟩
  free := fun b u q n _ => by rw [e b (Heap.lt_size q)]; exact n
  there := fun b u q _ => ⟨u, k b u q⟩
  tups := fun b xs q => by rw [e b (hok.lt q)]; exact q
  frzs := fun b u xs q => by rw [e b (hok.lt q)]; exact q
  tbls := fun b ps q => ⟨#[], by rw [e b (hok.lt q), q]; simp⟩
theorem HOk.many {P : Program} {w : World} {H H' : Hp} {h h' : Heap} (hok : HOk P w H h) (k : ∀ b u, h.get? b = some u → h'.get? b = some u) (e : ∀ b, b < h.objs.size → H' b = H b)
    (new : ∀ b o, h.objs.size ≤ b → H' b = some o → ObjOk P w H' h' b o) : HOk P w H' h' := fun b u q => by
  by_cases hb : b < h.objs.size
  · rw [e b hb] at q
    exact (hok b u q).stay (fun c v _ q => k c v q) (fun c q => by rw [e c (hok.lt q)]; exact q) fun c xs q => by rw [e c (hok.lt q)]; exact q
  · exact new b u (Nat.not_lt.mp hb) q
def hpZ (H : Hp) (ps : List Addr) (xs ys : List V) : Hp := fun b => if b ∈ ps then some (.tup [xs.getD (ps.idxOf b) .non, ys.getD (ps.idxOf b) .non]) else H b
theorem hpZ_at {H : Hp} {ps : List Addr} {xs ys : List V} (nd : ps.Nodup) {j : Nat} {p : Addr} {x y : V} (hj : ps[j]? = some p) (hx : xs[j]? = some x) (hy : ys[j]? = some y) : hpZ H ps xs ys p = some (.tup [x, y]) := by
  obtain ⟨hl, e⟩ := List.getElem?_eq_some_iff.mp hj
  have hm : p ∈ ps := List.mem_of_getElem? hj
  have hi : ps.idxOf p = j := by rw [← e]; exact nd.idxOf_getElem j hl
  unfold hpZ
  rw [if_pos hm, hi, List.getD_eq_getElem?_getD, List.getD_eq_getElem?_getD, hx, hy]
  rfl
def tListZip (K : PySem.W.Frag) (ta : TA) : TE := fun σ H Q => ta σ H fun vs H1 => ∃ tp tq a b xs ys, vs = [.ref a, .ref b] ∧ SqB K H1 tp a xs ∧ SqB K H1 tq b ys ∧
  ∀ (Hm : Hp) (S : Addr) (ps : List Addr), Same H1 Hm → Hm S = none → ps.length = min xs.length ys.length →
    (∀ (j : Nat) (p : Addr), ps[j]? = some p → ∃ x y, xs[j]? = some x ∧ ys[j]? = some y ∧ Hm p = some (.tup [x, y])) → Q (.ref S) (upd Hm S (.lst (ps.map .ref)))
theorem vals_refs : ∀ ps : List Addr, Vals (ps.map V.ref) (ps.map Value.ref)
  | [] => .nil
  | p :: ps => .cons rfl (vals_refs ps)
theorem isB_at {h h' : Heap} {tp : Bool} {a : Addr} {its : Array Value} (p : IsB h tp a its) (k : ∀ o, h.get? a = some o → h'.get? a = some o) : IsB h' tp a its := by
  cases tp with
  | true => exact Heap.IsTuple.at p k
  | false => exact Heap.IsList.at p k
theorem pe_listZip {X : Cx} {e e2 : Expr} {ta : TA} {p p2 pos pos2 : Pos} (hc : X.calm = true) (hgl : Gl X "list") (hml : X.mg "list" = none) (hg : Gl X "zip") (hm : X.mg "zip" = none) (ha : PA X [e, e2] ta)
    (hs : starEach [e, e2] X.env = (false, eval e X.env) :: starEach [e2] X.env) (hpl : (backTo pos2 (starEach [e2] X.env)).any (·.1) = false) :
    PE X (.Call (.Name "list" p) [.Call (.Name "zip" p2) [e, e2] [] pos2] [] pos) (tListZip X.K ta) := by
  refine ⟨fun pins s σ H Q I h => ?_⟩
  refine Call_ (ld_blt I hgl hml PyProof.Rows.boot_list (PyProof.Rows.callWith_type1 (PyProof.Rows.args_cons ?_ rfl) rfl rfl))
  refine Call_ (ld_blt I hg hm PyProof.Rows.boot_zip (PyProof.Rows.callWith_type1 (thn (ha.run pos2 pins s σ H _ I h) fun us s1 ⟨vs, H1, I1, r1, q1⟩ => ?_) hs hpl))
  obtain ⟨tp, tq, a, b, xs, ys, rfl, hqx, hqy, q⟩ := q1
  obtain ⟨u, u2, rfl, r, r2⟩ := Vals.two r1
  cases r
  cases r2
  obtain ⟨its, rv, p1⟩ := sqB_inv I1 hqx
  obtain ⟨its2, rv2, p2⟩ := sqB_inv I1 hqy
  have la := isB_lt p1
  have lb := isB_lt p2
  have lx := rv.length
  have ly := rv2.length
  refine zip_begins2 (beginB tp a its.toArray) (beginB tq b its2.toArray) p1 p2 fun h' hz hTI hTO g1 g2 hsz hk => PyProof.Rows.args_nil ?_
  have hh : ∀ A : Around, A.handled = none → A.in1.handled = none := fun A z => z
  have hh0 : X.A.handled = none := I1.ok.hd hc
  have hn : min its.toArray.size its2.toArray.size ≤ sizeLine := by
    obtain ⟨its', rv', _⟩ := sqB_inv I1 hqx
    have : xs.length ≤ sizeLine := by
      cases tp with
      | true => obtain ⟨_, _, _, hz⟩ := I1.tuple hqx; omega
      | false => obtain ⟨_, _, _, hz⟩ := I1.list hqx; omega
    rw [List.size_toArray, List.size_toArray]; omega
  have hz4 : h'.objs.size = s1.heap.objs.size + 5 := hsz
  have lt5 : ∀ k : Nat, k < 5 → s1.heap.objs.size + k < h'.objs.size := fun k hk => by rw [hz4]; exact Nat.add_lt_add_left hk _
  have nm : ∀ (k : Nat) (c : Addr), k < 5 → c < s1.heap.objs.size → h'.objs.size ∉ [s1.heap.objs.size + k, c] := fun k c hk hc hm => by
    rcases List.mem_cons.mp hm with e | e
    · exact Nat.ne_of_gt (lt5 k hk) e
    · exact Nat.ne_of_gt (Nat.lt_trans hc (Nat.lt_of_le_of_lt (Nat.le_add_right _ 0) (lt5 0 (by decide)))) (List.mem_singleton.mp e)
  let s2 : Shared := { s1 with heap := h' }
  have W := zip_drawsIn (prog := X.prog) (w := X.w) (A := X.A.in1.in1) (S := h'.objs.size) s1.heap (zip_sep2 (fp1 := [a]) (fp2 := [b]) (by simpa using la) (by simpa using lb)) (drawB (A := X.A.in1.in1.in1) hh0 tp s1.heap.objs.size a (Nat.ne_of_lt la) its.toArray) (drawB (A := X.A.in1.in1.in1) hh0 tq (s1.heap.objs.size + 1) b (Nat.ne_of_lt (Nat.lt_succ_of_lt lb)) its2.toArray)
    (lt5 4 (by decide)) (lt5 2 (by decide)) (lt5 3 (by decide)) (lt5 0 (by decide)) (lt5 1 (by decide)) (nm 0 a (by decide) la) (nm 1 b (by decide) lb)
  have kq : ∀ b o, h'.get? b = some o → (h'.push { cls := .type "list", data := .seq #[] }).get? b = some o := fun b o e => Heap.get?_push_of_some _ e
  refine dz_call (s := s2) (T := "zip") PySem.F.nolen_zp PySem.F.nohint_zp (by decide) (by decide) (lt5 4 (by decide)) (fun h2 k => ⟨_, k _ _ hz, rfl⟩) (fun h2 k A E Q q => wpAny_pyIter_zip (k _ _ hz) q) W
    ⟨⟨fun b o _ _ _ _ _ e => kq _ _ (hk _ _ e), [], rfl, List.nodup_nil, fun j p e => by simp at e⟩, ?_, ?_, kq _ _ hTI, .inl ⟨kq _ _ hz, _, _, kq _ _ hTO⟩⟩ hn fun h2 tk acc c hsz2 ⟨kp, ps, eps, nd, fps⟩ hS => ?_
  · exact ⟨itB_at (obB_it g1) fun o e => kq _ _ e, isB_at p1 fun o e => kq _ _ (hk _ _ e)⟩
  · exact ⟨itB_at (obB_it g2) fun o e => kq _ _ e, isB_at p2 fun o e => kq _ _ (hk _ _ e)⟩
  have hps : ps.length = min xs.length ys.length := by
    rw [eps] at hsz2
    simp at hsz2
    omega
  have kp1 : ∀ b o, s1.heap.get? b = some o → h2.get? b = some o := fun b o e => by
    have hb := Heap.lt_size e
    have ne : ∀ k : Nat, b ≠ s1.heap.objs.size + k := fun k => Nat.ne_of_lt (Nat.lt_of_lt_of_le hb (Nat.le_add_right _ k))
    exact kp b o (Nat.ne_of_lt (Nat.lt_trans hb (lt5 0 (by decide)))) (ne 4) (ne 3) (ne 0) (ne 1) e
  have big : ∀ p ∈ ps, s1.heap.objs.size ≤ p := fun p hp => by
    obtain ⟨j, hj⟩ := List.getElem?_of_mem hp
    exact Nat.le_of_lt (Nat.lt_trans (lt5 0 (by decide)) (fps j p hj).1)
  have Sb : s1.heap.objs.size ≤ h'.objs.size := Nat.le_of_lt (lt5 0 (by decide))
  have Sn : h'.objs.size ∉ ps := fun hp => by
    obtain ⟨j, hj⟩ := List.getElem?_of_mem hp
    exact Nat.lt_irrefl _ (fps j _ hj).1
  have tup : ∀ (j : Nat) (p : Addr), ps[j]? = some p → ∃ x y, xs[j]? = some x ∧ ys[j]? = some y ∧ ∃ u v, RelV x u ∧ RelV y v ∧ IsTupOf2 h2 p u v := fun j p hj => by
    obtain ⟨_, u, v, hu, hv, ht⟩ := fps j p hj
    have hl := (List.getElem?_eq_some_iff.mp hj).1
    have hx : xs[j]? = some (xs[j]'(by omega)) := List.getElem?_eq_getElem _
    have hy : ys[j]? = some (ys[j]'(by omega)) := List.getElem?_eq_getElem _
    obtain ⟨u', hu', ru⟩ := rv.get hx
    obtain ⟨v', hv', rv'⟩ := rv2.get hy
    rw [List.getElem?_toArray] at hu hv
    rw [hu'] at hu
    rw [hv'] at hv
    cases hu
    cases hv
    exact ⟨_, _, hx, hy, _, _, ru, rv', ht⟩
  have sm : Same H1 (hpZ H1 ps xs ys) := fun b o e => by
    unfold hpZ
    rw [if_neg fun hb => by rw [I1.hok.fresh (big b hb)] at e; cases e]
    exact e
  have hSn : hpZ H1 ps xs ys h'.objs.size = none := by
    unfold hpZ
    rw [if_neg Sn]
    exact I1.hok.fresh Sb
  have qq := q (hpZ H1 ps xs ys) h'.objs.size ps sm hSn hps fun j p hj => by
    obtain ⟨x, y, hx, hy, _⟩ := tup j p hj
    exact ⟨x, y, hx, hy, hpZ_at nd hj hx hy⟩
  have eqH : ∀ b, b < s1.heap.objs.size → upd (hpZ H1 ps xs ys) h'.objs.size (.lst (ps.map .ref)) b = H1 b := fun b hb => by
    rw [upd_ne (Nat.ne_of_lt (Nat.lt_of_lt_of_le hb Sb))]
    unfold hpZ
    rw [if_neg fun hm => absurd hb (Nat.not_lt.mpr (big b hm))]
  have J : L2.Inv X pins σ (upd (hpZ H1 ps xs ys) h'.objs.size (.lst (ps.map .ref))) { s1 with heap := h2, toks := tk } := by
    refine I1.call (ch := []) (Un.many I1.hok kp1 eqH) (HOk.many I1.hok kp1 eqH fun b o hb ho => ?_) I1.bare (fun _ z => nomatch z)
    by_cases hbS : b = h'.objs.size
    · subst hbS
      rw [upd_same] at ho
      cases ho
      refine ⟨by rw [List.length_map, hps, lx, ly]; simpa using hn, ps.map Value.ref, c, vals_refs ps, ?_⟩
      rw [← eps]; exact hS
    · rw [upd_ne hbS] at ho
      unfold hpZ at ho
      by_cases hm : b ∈ ps
      · obtain ⟨j, hj⟩ := List.getElem?_of_mem hm
        obtain ⟨x, y, hx, hy, u, v, ru, rv', ht⟩ := tup j b hj
        have := hpZ_at (H := H1) nd hj hx hy
        unfold hpZ at this
        rw [this] at ho
        cases ho
        exact ⟨by show 2 ≤ sizeLine; rw [sizeLine_eq]; decide, [u, v], .cons ru (.cons rv' .nil), ⟨_, ht, rfl, _, rfl⟩⟩
      · rw [if_neg hm, I1.hok.fresh hb] at ho
        cases ho
  exact ⟨.ref h'.objs.size, _, J, rfl, qq⟩
/-! the layer's rule -/
theorem zip_new {K : PySem.W.Frag} {g : G} {H Hm : Hp} {xs ys : List V} : ∀ {ts us : List T} {ps : List Addr}, Same H Hm → RepTs K g H ts xs → RepTs K g H us ys → ps.length = min xs.length ys.length →
    (∀ (j : Nat) (p : Addr), ps[j]? = some p → ∃ x y, xs[j]? = some x ∧ ys[j]? = some y ∧ Hm p = some (.tup [x, y])) → RepTs K g Hm (zipT2 ts us) (ps.map .ref) := by
  intro ts us ps sm rx ry hl f
  have l1 := rx.length
  have l2 := ry.length
  refine reps_iff.mpr ⟨by rw [zipT2_len, List.length_map, hl, l1, l2], fun i t v e1 e2 => ?_⟩
  obtain ⟨x, y, hx, hy, rfl⟩ := zipT2_get _ _ _ _ e1
  rw [List.getElem?_map] at e2
  obtain ⟨p, hp, rfl⟩ := Option.map_eq_some_iff.mp e2
  obtain ⟨u, v, hu, hv, ht⟩ := f i p hp
  show RepT _ _ _ _ _
  simp only [RepT]
  refine ⟨p, [u, v], rfl, .inl ht, u, [v], rfl, ?_, v, [], rfl, ?_, rfl⟩
  · exact RepT.step (Step.same sm) _ _ ((reps_iff.mp rx).2 i _ _ hx hu)
  · exact RepT.step (Step.same sm) _ _ ((reps_iff.mp ry).2 i _ _ hy hv)
def mListZip (mu : Bool) (as : ME (List D)) : ME D := fun env st => (as env st).bind fun ds s1 => match ds with
  | [d1, d2] => match asSeq s1 d1, asSeq s1 d2 with
    | some ts, some us => if mu = true then alloc (zipT2 ts us) s1 else .ok (.v (.list (zipT2 ts us))) s1
    | _, _ => .bad
  | _ => .bad
theorem se_listZip {mu : Bool} {X : Cx} {E : XK} {e e2 : Expr} {mas : ME (List D)} {p p2 pos pos2 : Pos} (hc : X.calm = true) (hml : X.mg "list" = none) (hm : X.mg "zip" = none) (ha : SA X E [e, e2] mas) (hgl : Gl X "list" := by rfl) (hg : Gl X "zip" := by rfl)
    (hs : starEach [e, e2] X.env = (false, eval e X.env) :: starEach [e2] X.env := by rfl) (hpl : (backTo pos2 (starEach [e2] X.env)).any (·.1) = false := by rfl) :
    SE X E (.Call (.Name "list" p) [.Call (.Name "zip" p2) [e, e2] [] pos2] [] pos) (mListZip mu mas) := by
  refine PE.mono (pe_listZip hc hgl hml hg hm ha hs hpl) fun σ H Q ⟨g, env, st, re, rs, h⟩ => ⟨g, env, st, re, rs, Post.bind h fun g1 H1 ds s1 vs s rs1 rd h1 => ?_⟩
  split at h1
  · rename_i d1 d2
    split at h1
    · rename_i ts us e1 e2
      obtain ⟨v, u, rfl, rv, ru⟩ := rep2 rd
      obtain ⟨a, ws, rfl, hq, r⟩ := seq_now e1 rs1 rv
      obtain ⟨b, ws2, rfl, hq2, r2⟩ := seq_now e2 rs1 ru
      refine ⟨isTD d1, isTD d2, a, b, ws, ws2, rfl, hq, hq2, fun Hm S ps sm hS hl f => ?_⟩
      have rz := zip_new sm r r2 hl f
      have rs2 := rs1.same sm
      have h2 := Post.from (Step.same sm) h1
      cases mu with
      | true => exact Post.newM rs2 hS rz h2
      | false => exact Post.newL rs2 hS rz h2
    · exact h1.elim
  · exact h1.elim
end PL

namespace PL
open PySem PySem.Spec L2
open PyProof.Rows hiding St
/-! ### repr of a list display, some of its items lists that are changed elsewhere -/
def toTs (st : Sto) : List D → Option (List T)
  | [] => some []
  | d :: ds => match toT st d, toTs st ds with
    | some t, some ts => some (t :: ts)
    | _, _ => none
theorem toTs_dx {K : PySem.W.Frag} {g : G} {H : Hp} {st : Sto} (rs : RelS K g H st) : ∀ {ds : List D} {ts : List T} {vs : List V}, toTs st ds = some ts → RepDs K g H ds vs → DxAll K H vs ts
  | [], ts, vs, e, r => by cases e; cases r; exact .nil
  | d :: ds, ts, vs, e, ⟨v, w, e2, h1, h2⟩ => by
    unfold toTs at e
    subst e2
    split at e
    · rename_i t ts' e3 e4
      cases e
      exact .cons (toT_dx e3 rs h1) (toTs_dx rs e4 h2)
    · cases e
theorem toTs_len {st : Sto} : ∀ {ds : List D} {ts : List T}, toTs st ds = some ts → ts.length = ds.length
  | [], ts, e => by cases e; rfl
  | d :: ds, ts, e => by
    unfold toTs at e
    split at e
    · rename_i t ts' e3 e4
      cases e
      simp [toTs_len e4]
    · cases e
theorem RepDs.length {K : PySem.W.Frag} {g : G} {H : Hp} : ∀ {ds : List D} {vs : List V}, RepDs K g H ds vs → ds.length = vs.length
  | [], vs, h => by cases h; rfl
  | d :: ds, vs, ⟨v, w, e, _, h2⟩ => by subst e; simp [RepDs.length h2]
def mReprL (m : ME (List D)) : ME D := fun env st => (m env st).bind fun ds s1 => match toTs s1 ds with
  | some ts => if ts.length ≤ sizeLine ∧ (PyData.list ts).showable = true ∧ (PyData.list ts).depth ≤ 64 ∧ (PyData.list ts).shown.length ≤ sizeLine then .ok (.v (.str (PyData.list ts).shown)) s1 else .bad
  | none => .bad
theorem se_reprL {X : Cx} {E : XK} {es : List Expr} {mas : ME (List D)} {p pos pl : Pos} (hgd : X.A.guards = some []) (hu : X.A.units + 65 < cLine) (hm : X.mg "repr" = none) (hv : bootBuiltins "repr" = some (.builtin "repr")) (ha : SA X E es mas)
    (hg : Gl X "repr" := by rfl) (he : starEach [.List es pl] X.env = (false, eval (.List es pl) X.env) :: starEach [] X.env := by rfl) : SE X E (.Call (.Name "repr" p) [.List es pl] [] pos) (mReprL mas) := by
  refine PE.mono (pe_callB (call_reprX hgd hu) hg hm hv (pa_cons (pe_lst ha) pa_nil he) (by decide) (by decide) he rfl) fun σ H Q ⟨g, env, st, re, rs, h⟩ => ⟨g, env, st, re, rs, Post.bind h fun g1 H1 ds s1 vs s rs1 rd h1 => ?_⟩
  split at h1
  · rename_i ts e
    obtain ⟨⟨h2, h3, h4, h5⟩, h1⟩ := if_bad h1
    have l1 := toTs_len e
    have l2 := RepDs.length rd
    refine ⟨by omega, fun q hq => ⟨.ref q, .list ts, rfl, .lst (.inl (.inl upd_same)) (toTs_dx (rs1.same (Same.new hq)) e (rd.step (Step.new hq))), h3, h4, h5, ?_⟩⟩
    exact h1 g1 _ _ (Step.new hq) (rs1.same (Same.new hq)) (rep_v.2.2.2 _)
  · exact h1.elim
end PL

namespace PL
open PySem PySem.Spec L2
open PyProof.Rows hiding St
/-! ### tuple * 1: the tuple itself -/
theorem tuple_mul1 (l : Addr) (items : Array Value) (n : Nat) (dd : Option Addr) (sl : Array (Option Value)) (u : Tok) :
    Meets (Builtin.«tuple.__mul__» ⟨[.ref l, .int 1 u], []⟩) (fun _ R s => s.heap.get? l = some { cls := .type "tuple", dict := dd, data := .seq items n, slots := sl } ∧ R (.ok (.ret (Value.ref l))) s) :=
  .of_wp fun prog w A R s h => by
    obtain ⟨hp, g, d, tk, os⟩ := s
    obtain ⟨hl, h⟩ := h
    have f1 := AutoSeq1.idx_int
    wp_walk using wpAny_loadPart' hl
    exact ⟨_, rfl, h⟩
def rRep1 (K : PySem.W.Frag) : R2 := fun x y H Q => ∃ l xs, x = .ref l ∧ y = .int 1 ∧ SqT K H l xs ∧ Q (.ref l) H
theorem op_rep1 {X : Cx} : OpR X (binaryOp .Mult) (rRep1 X.K) := by
  intro pins s σ H x y v u Q I rx ry h
  obtain ⟨l, xs, rfl, rfl, hT, q⟩ := h
  cases rx
  obtain ⟨t, rfl⟩ := ry
  obtain ⟨its, r, ⟨⟨cls, dd, data, sl⟩, ho, hc, n, hd⟩, hs⟩ := I.tuple hT
  simp only at hc hd
  subst hc hd
  refine wpAny_binaryOp_repeat_ref (T := "tuple") (U := "int") (by decide) ⟨_, ho, rfl⟩ (fun s' => typeIs_int s' 1 t) noFill_tuple_mul PySem.F.fills_int_mul PySem.F.slot_int_rmul repeat_tuple PySem.F.slot_int_index.lookup
    (call_meets PySem.F.slot_int_rmul (typeIs_int s 1 t) PySem.F.entry_int_rmul (PySem.F.args_int_rmul_2 _ _) (int_rmul_tuple 1 t l its.toArray n dd sl)
      ⟨ho, rfl, ⟨_, ho, rfl⟩, call_meets PySem.F.slot_tuple_mul ⟨_, ho, rfl⟩ PySem.F.entry_tuple_mul (PySem.F.args_tuple_mul_2 _ _) (tuple_mul1 l its.toArray n dd sl t) ⟨ho, ?_⟩⟩)
  exact ⟨.ref l, H, I, rfl, q⟩
def opMulX (x y : D) (st : Sto) : R D := match x, y with
  | .v (.tuple xs), .v (.int 1) => .ok (.v (.tuple xs)) st
  | x, y => opMul x y st
theorem os_mulX {K : PySem.W.Frag} {E : XK} : OpS K E (fun v u H Q => rRep1 K v u H Q ∨ rMulA K v u H Q) opMulX := by
  intro g H st x y v u Q rs rx ry h
  unfold opMulX at h
  split at h
  · obtain ⟨a, vs, rfl, ta, ra⟩ := rep_tup rx
    obtain rfl := rep_int ry
    exact .inl ⟨a, vs, rfl, rfl, ta.sq, Post.at rs rx h⟩
  · exact .inr (os_mul g H st x y v u Q rs rx ry h)
theorem se_mulX {X : Cx} {E : XK} {pos : Pos} {a b : Expr} {ma mb : ME D} (ha : SE X E a ma) (hb : SE X E b mb) : SE X E (.BinOp a .Mult b pos) (mBin opMulX ma mb) := PE.mono (pe_op (op_rep1.or op_mulA) ha hb) fun _ _ _ h => t_bin os_mulX h
/-! ### a bool among ints: value + 1 where value may be True -/
theorem op_add_bi {X : Cx} : OpR X (binaryOp .Add) (fun x y H Q => ∃ k j, x = .bl k ∧ y = .int j ∧ Q (.int ((if k = true then (1 : Int) else 0) + j)) H) := by
  intro pins s σ H x y v u Q I rx ry h
  obtain ⟨k, j, rfl, rfl, q⟩ := h
  cases rx
  obtain ⟨t, rfl⟩ := ry
  exact PySem.IntBool.add_bool_int ⟨.int ((if k = true then (1 : Int) else 0) + j), H, I.tok _, ⟨_, rfl⟩, q⟩
theorem op_sub_bi {X : Cx} : OpR X (binaryOp .Sub) (fun x y H Q => ∃ k j, x = .bl k ∧ y = .int j ∧ Q (.int ((if k = true then (1 : Int) else 0) - j)) H) := by
  intro pins s σ H x y v u Q I rx ry h
  obtain ⟨k, j, rfl, rfl, q⟩ := h
  cases rx
  obtain ⟨t, rfl⟩ := ry
  exact PySem.IntBool.sub_bool_int ⟨.int ((if k = true then (1 : Int) else 0) - j), H, I.tok _, ⟨_, rfl⟩, q⟩
def opAddX (x y : D) (st : Sto) : R D := match x, y with
  | .v (.bool k), .v (.int j) => .ok (.v (.int ((if k = true then (1 : Int) else 0) + j))) st
  | x, y => opAdd x y st
def opSubX (x y : D) (st : Sto) : R D := match x, y with
  | .v (.bool k), .v (.int j) => .ok (.v (.int ((if k = true then (1 : Int) else 0) - j))) st
  | x, y => opSub x y st
section
variable {X : Cx} {E : XK} {pos : Pos} {a b : Expr} {ma mb : ME D}
theorem se_addX (ha : SE X E a ma) (hb : SE X E b mb) : SE X E (.BinOp a .Add b pos) (mBin opAddX ma mb) := by
  refine PE.mono (pe_op (op_add_bi.or op_addA) ha hb) fun _ _ _ h => t_bin (f := opAddX) ?_ h
  intro g H st x y v u Q rs rx ry h
  unfold opAddX at h
  split at h
  · obtain rfl := rep_bool rx
    obtain rfl := rep_int ry
    exact .inl ⟨_, _, rfl, rfl, Post.at rs (rep_v.2.2.1 _) h⟩
  · exact .inr (os_add g H st x y v u Q rs rx ry h)
theorem se_subX (ha : SE X E a ma) (hb : SE X E b mb) : SE X E (.BinOp a .Sub b pos) (mBin opSubX ma mb) := by
  refine PE.mono (pe_op (op_sub_bi.or op_sub) ha hb) fun _ _ _ h => t_bin (f := opSubX) ?_ h
  intro g H st x y v u Q rs rx ry h
  unfold opSubX at h
  split at h
  · obtain rfl := rep_bool rx
    obtain rfl := rep_int ry
    exact .inl ⟨_, _, rfl, rfl, Post.at rs (rep_v.2.2.1 _) h⟩
  · exact .inr (os_I0 (fun _ _ => rfl) g H st x y v u Q rs rx ry h)
end
end PL

namespace HeadX
open PySem PySem.Spec PyProof.Rows L2
def top (i : Nat) : Stmt := PySem.Challenge.pw_leadcases_k13_any_value_as_case.main.body.getD i (.Pass ⟨0, 0, 0, 0⟩)
def dd (n : Str) (i : Nat) : He.DefD := ⟨(n, none), n, n, defArgs (top i), defBody (top i), defScope (top i), [], []⟩
def fn : List He.DefD := [dd "is_integer" 1, dd "is_within" 2, dd "is_tuple" 3, dd "are_rising" 4, dd "is_lot" 5, dd "are_mosts" 18, dd "is_ground" 19, dd "is_issue_of" 20, dd "is_court_of" 21, dd "is_book_any" 22, dd "want_book" 23, dd "are_facts" 24, dd "are_findings" 25, dd "is_point_of" 26, dd "mosts_in" 27, dd "point_in" 28, dd "rulings_in" 29, dd "is_borne" 31, dd "flaw_of_reason" 32, dd "flaw_of_case" 33, dd "want_own_case" 34, dd "is_case" 35, dd "case_flaw" 36, dd "rulings_of" 37, dd "_law_pot" 39, dd "_law_draw" 40, dd "_law_pick" 41, dd "_law_issues" 42, dd "_law_book" 43, dd "_law_facts" 44, dd "_law_findings" 45, dd "_law_point" 46, dd "_law_mosts" 47, dd "_law_reason" 48, dd "_law_case" 49, dd "_law_number" 50, dd "_law_are" 51, dd "_law_is_reason" 52, dd "_law_flaw" 53, dd "_law_leaf" 54, dd "_law_bent" 55, dd "_law_deep" 56, dd "_law_right" 57, dd "law" 58]
def fa : List He.Fa := [.glo "is_integer", .glo "is_within", .glo "is_tuple", .glo "are_rising", .glo "is_lot", .glo "are_mosts", .glo "is_ground", .glo "is_issue_of", .glo "is_court_of", .glo "is_book_any", .glo "want_book", .glo "are_facts", .glo "are_findings", .glo "is_point_of", .glo "mosts_in", .glo "point_in", .glo "rulings_in", .glo "is_borne", .glo "flaw_of_reason", .glo "flaw_of_case", .glo "want_own_case", .glo "is_case", .glo "case_flaw", .glo "rulings_of", .glo "_law_pot", .glo "_law_draw", .glo "_law_pick", .glo "_law_issues", .glo "_law_book", .glo "_law_facts", .glo "_law_findings", .glo "_law_point", .glo "_law_mosts", .glo "_law_reason", .glo "_law_case", .glo "_law_number", .glo "_law_are", .glo "_law_is_reason", .glo "_law_flaw", .glo "_law_leaf", .glo "_law_bent", .glo "_law_deep", .glo "_law_right", .glo "law", .int "MOST_FACTS" 10, .int "MOST_AMOUNT" 9, .int "MOST_ISSUES" 6, .int "MOST_GROUNDS" 8, .int "MOST_COURTS" 8, .str "FACT" "fact", .str "ISSUE" "issue", .free "ValueError", .free "abs", .free "all", .free "bool", .free "divmod", .free "enumerate", .free "int", .free "isinstance", .free "len", .free "list", .free "max", .free "min", .free "range", .free "repr", .free "set", .free "sorted", .free "str", .free "sum", .free "tuple", .free "zip"]
def loose : List Str := [("is_integer" : Str), ("is_within" : Str), ("is_tuple" : Str), ("are_rising" : Str), ("is_lot" : Str), ("WorkError" : Str), ("InvalidBook" : Str), ("InvalidCase" : Str), ("MOST_FACTS" : Str), ("MOST_AMOUNT" : Str), ("MOST_ISSUES" : Str), ("MOST_GROUNDS" : Str), ("MOST_COURTS" : Str), ("FACT" : Str), ("ISSUE" : Str), ("are_mosts" : Str), ("is_ground" : Str), ("is_issue_of" : Str), ("is_court_of" : Str), ("is_book_any" : Str), ("want_book" : Str), ("are_facts" : Str), ("are_findings" : Str), ("is_point_of" : Str), ("mosts_in" : Str), ("point_in" : Str), ("rulings_in" : Str), ("is_borne" : Str), ("flaw_of_reason" : Str), ("flaw_of_case" : Str), ("want_own_case" : Str), ("is_case" : Str), ("case_flaw" : Str), ("rulings_of" : Str), ("_law_pot" : Str), ("_law_draw" : Str), ("_law_pick" : Str), ("_law_issues" : Str), ("_law_book" : Str), ("_law_facts" : Str), ("_law_findings" : Str), ("_law_point" : Str), ("_law_mosts" : Str), ("_law_reason" : Str), ("_law_case" : Str), ("_law_number" : Str), ("_law_are" : Str), ("_law_is_reason" : Str), ("_law_flaw" : Str), ("_law_leaf" : Str), ("_law_bent" : Str), ("_law_deep" : Str), ("_law_right" : Str)]
abbrev R : PySem.W.OpenRow := PySem.W.OpenLaw.row PySem.Challenge.rw_leadcases_k13_any_value_as_case
abbrev hk : PySem.W.Hook := He.hookD 4 fa fn
def ob (s : PySem.W.SharedT) : He.AlD := He.obsDG 4 fa fn (HandSHeadRun.getT s)
theorem ob_eq (s : PySem.W.SharedT) : ob s = hk.obs s.abs := He.obsDG_eq (HandSHeadRun.getT_eq s)
set_option maxHeartbeats 0 in
theorem run (w : World) : HandSHeadRun.RunEq R (PySem.W.view R.prog [58]) hk ob 4000 loose w := by
  intro os
  kernel_rfl
end HeadX

namespace Law
open PySem PySem.Spec L2 PL
open PyProof.Rows hiding St
noncomputable section
structure Nm (mg : Str → Option Value) : Prop where
  n_abs : mg "abs" = none
  n_all : mg "all" = none
  n_bool : mg "bool" = none
  n_divmod : mg "divmod" = none
  n_enumerate : mg "enumerate" = none
  n_int : mg "int" = none
  n_isinstance : mg "isinstance" = none
  n_len : mg "len" = none
  n_list : mg "list" = none
  n_max : mg "max" = none
  n_min : mg "min" = none
  n_range : mg "range" = none
  n_repr : mg "repr" = none
  n_set : mg "set" = none
  n_sorted : mg "sorted" = none
  n_str : mg "str" = none
  n_sum : mg "sum" = none
  n_tuple : mg "tuple" = none
  n_zip : mg "zip" = none
  c_FACT : ∃ t, mg "FACT" = some (.str ("fact" : Str) t)
  c_ISSUE : ∃ t, mg "ISSUE" = some (.str ("issue" : Str) t)
  c_MOST_AMOUNT : ∃ t, mg "MOST_AMOUNT" = some (.int 9 t)
  c_MOST_COURTS : ∃ t, mg "MOST_COURTS" = some (.int 8 t)
  c_MOST_FACTS : ∃ t, mg "MOST_FACTS" = some (.int 10 t)
  c_MOST_GROUNDS : ∃ t, mg "MOST_GROUNDS" = some (.int 8 t)
  c_MOST_ISSUES : ∃ t, mg "MOST_ISSUES" = some (.int 6 t)
def m_lw_draw : MS := (mSeq (mIfS (mCmpT opGt (mBin opIx (mVar 0) (mC (.v (.int 0)))) (mC (.v (.int 0)))) (mSeq (mAsg (mCall fDivmod (mCons (mBin opIx (mVar 0) (mC (.v (.int 0)))) (mCons (mVar 1) mNil))) (gTu 2 (gCons (gSb (mVar 0) (mC (.v (.int 0)))) (gCons (gNm 2) gNil))))
  (mRet (mVar 2))) mSkip)
  (mSeq (mAsg (mBin opMod (mCall fInt (mCons (mBin opAdd (mBin opMul (mBin opIx (mVar 0) (mC (.v (.int 1)))) (mC (.v (.int 41358)))) (mC (.v (.int 8101)))) mNil)) (mC (.v (.int 2147483587)))) (gSb (mVar 0) (mC (.v (.int 1)))))
  (mRet (mBin opMod (mCall fInt (mCons (mBin opDiv (mBin opMod (mCall fInt (mCons (mBin opMul (mBin opIx (mVar 0) (mC (.v (.int 1)))) (mBin opIx (mVar 0) (mC (.v (.int 1))))) mNil)) (mC (.v (.int 2147483549)))) (mC (.v (.int 23)))) mNil)) (mVar 1)))))
def F_lw_draw : List D → Sto → R D := runB fin 3 m_lw_draw
theorem sc_lw_draw : FnScope [("pot" : Str), ("size" : Str), ("digit" : Str)] [("pot" : Str), ("size" : Str)] (defScope (HeadX.top 40)) := ⟨rfl, rfl, rfl, by decide +kernel, rfl, by decide +kernel, by decide +kernel⟩
theorem g_lw_draw {P : Program} {w : World} {K : PySem.W.Frag} {mg : Str → Option Value} {base : Heap} (nm : Nm mg)  (F : FunX K mg ("_law_draw" : Str) (HeadX.top 40)) :
    Fnx P w K mg base 1 ("_law_draw" : Str) (HeadX.top 40) [("pot" : Str), ("size" : Str)] F_lw_draw := by
  refine fnx (k := 0) F sc_lw_draw fo_fin (fun _ _ _ _ _ _ us hl => match us, hl with | [_, _], _ => rfl) rfl fun f cdv A outer s H E hr hgd => ?_
  unfold m_lw_draw
  exact (sss_cons (ss_if (st_gt (se_ix (se_var 0) se_int) se_int) (sss_cons (ss_asg (se_callB oc_divmod call_divmod nm.n_divmod bb_divmod (sa_cons (se_ix (se_var 0) se_int) (sa_cons (se_var 1) sa_nil))) (sg_tup rfl (sgs_cons (sg_sub (E := E) (se_var 0) se_int) (sgs_cons (sg_name 2 sc_lw_draw.nd) sgs_nil))) (q_tu (q_cons (q_sb q_var q_c) (q_cons q_name q_nil))))
  (sss_one (ss_ret (se_var 2)))) sss_nil)
  (sss_cons (ss_asg (se_mod (se_callTy oc_int call_int1 nm.n_int bt_int (sa_cons (se_add (se_mul (se_ix (se_var 0) se_int) se_int) se_int) sa_nil)) se_int) (sg_sub (E := E) (se_var 0) se_int) (q_sb q_var q_c))
  (sss_one (ss_ret (se_mod (se_callTy oc_int call_int1 nm.n_int bt_int (sa_cons (se_div (se_mod (se_callTy oc_int call_int1 nm.n_int bt_int (sa_cons (se_mul (se_ix (se_var 0) se_int) (se_ix (se_var 0) se_int)) sa_nil)) se_int) se_int) sa_nil)) (se_var 1))))))
def m_lw_pick : MS := (mRet (mBin opIx (mVar 1) (mFn 2 F_lw_draw (mCons (mVar 0) (mCons (mCall fLen (mCons (mVar 1) mNil)) mNil)) [])))
def F_lw_pick : List D → Sto → R D := runB fin 2 m_lw_pick
theorem sc_lw_pick : FnScope [("pot" : Str), ("some" : Str)] [("pot" : Str), ("some" : Str)] (defScope (HeadX.top 41)) := ⟨rfl, rfl, rfl, by decide +kernel, rfl, by decide +kernel, by decide +kernel⟩
theorem g_lw_pick {P : Program} {w : World} {K : PySem.W.Frag} {mg : Str → Option Value} {base : Heap} (nm : Nm mg) (c_lw_draw : Fnx P w K mg base 1 ("_law_draw" : Str) (HeadX.top 40) [("pot" : Str), ("size" : Str)] F_lw_draw) (F : FunX K mg ("_law_pick" : Str) (HeadX.top 41)) :
    Fnx P w K mg base 2 ("_law_pick" : Str) (HeadX.top 41) [("pot" : Str), ("some" : Str)] F_lw_pick := by
  refine fnx (k := 1) F sc_lw_pick fo_fin (fun _ _ _ _ _ _ us hl => match us, hl with | [_, _], _ => rfl) rfl fun f cdv A outer s H E hr hgd => ?_
  unfold m_lw_pick
  exact (sss_one (ss_ret (se_ix (se_var 1) (se_callF (j := 1) (k := 1) (ps := [("pot" : Str), ("size" : Str)]) (st := HeadX.top 40) (F := F_lw_draw) c_lw_draw hr hgd body_passes (sa_cons (se_var 0) (sa_cons (se_callB oc_len call_len nm.n_len bb_len (sa_cons (se_var 1) sa_nil)) sa_nil))))))
def m_lw_issues : MS := (mSeq (mAsg (mLstM mNil) (gNm 3))
  (mSeq (mFor (mItR1 (mCons (mVar 2) mNil)) (gNm 4) (mSeq (mPar2 8 9 (mCons (mLstM mNil) (mCons (mLstRgM (mRg1 (mVar 1))) mNil)))
  (mSeq (mFor (mItR1 (mCons (mBin opAdd (mC (.v (.int 1))) (mFn 2 F_lw_draw (mCons (mVar 0) (mCons (mCall fMin2 (mCons (mC (.v (.int 3))) (mCons (mVar 1) mNil))) mNil)) [])) mNil)) (gNm 5) (mDrop (mMeth fAppend (mVar 8) (mCons (mTup (mCons (mC (.v (.str ("fact" : Str)))) (mCons (mMeth fPop (mVar 9) (mCons (mFn 2 F_lw_draw (mCons (mVar 0) (mCons (mCall fLen (mCons (mVar 9) mNil)) mNil)) []) mNil)) (mCons (mFn 2 F_lw_draw (mCons (mVar 0) (mCons (mC (.v (.int 2))) mNil)) []) mNil)))) mNil))))
  (mSeq (mFor (mItR2 (mCons (mBin opAdd (mVar 4) (mC (.v (.int 1)))) (mCons (mVar 2) mNil))) (gNm 6) (mIfS (mAndT (mCmpT opGt (mFn 2 F_lw_draw (mCons (mVar 0) (mCons (mC (.v (.int 3))) mNil)) []) (mC (.v (.int 0)))) (mCmpT opLt (mCall fLen (mCons (mVar 8) mNil)) (mC (.v (.int 8))))) (mDrop (mMeth fAppend (mVar 8) (mCons (mTup (mCons (mC (.v (.str ("issue" : Str)))) (mCons (mVar 6) (mCons (mFn 2 F_lw_pick (mCons (mVar 0) (mCons (mLst (mCons (mC (.v (.int 1))) (mCons (mC (.v (.int 1))) (mCons (mC (.v (.int 0))) mNil)))) mNil)) []) mNil)))) mNil))) mSkip))
  (mSeq (mAsg (mFn 2 F_lw_draw (mCons (mVar 0) (mCons (mCall fLen (mCons (mVar 8) mNil)) mNil)) []) (gNm 7))
  (mDrop (mMeth fAppend (mVar 3) (mCons (mCall fTup (mCons (mBin opAdd (mSlice (mVar 8) (mPart (mVar 7)) mNoP) (mSlice (mVar 8) mNoP (mPart (mVar 7)))) mNil)) mNil))))))))
  (mRet (mCall fTup (mCons (mVar 3) mNil)))))
def F_lw_issues : List D → Sto → R D := runB fin 10 m_lw_issues
theorem sc_lw_issues : FnScope [("pot" : Str), ("facts" : Str), ("many" : Str), ("issues" : Str), ("own" : Str), ("turn" : Str), ("later" : Str), ("at" : Str), ("grounds" : Str), ("left" : Str)] [("pot" : Str), ("facts" : Str), ("many" : Str)] (defScope (HeadX.top 42)) := ⟨rfl, rfl, rfl, by decide +kernel, rfl, by decide +kernel, by decide +kernel⟩
theorem g_lw_issues {P : Program} {w : World} {K : PySem.W.Frag} {mg : Str → Option Value} {base : Heap} (nm : Nm mg) (c_lw_draw : Fnx P w K mg base 1 ("_law_draw" : Str) (HeadX.top 40) [("pot" : Str), ("size" : Str)] F_lw_draw) (c_lw_pick : Fnx P w K mg base 2 ("_law_pick" : Str) (HeadX.top 41) [("pot" : Str), ("some" : Str)] F_lw_pick) (F : FunX K mg ("_law_issues" : Str) (HeadX.top 42)) :
    Fnx P w K mg base 3 ("_law_issues" : Str) (HeadX.top 42) [("pot" : Str), ("facts" : Str), ("many" : Str)] F_lw_issues := by
  refine fnx (k := 2) F sc_lw_issues fo_fin (fun _ _ _ _ _ _ us hl => match us, hl with | [_, _, _], _ => rfl) rfl fun f cdv A outer s H E hr hgd => ?_
  unfold m_lw_issues
  exact (sss_cons (ss_set 3 (se_lstM sa_nil) sc_lw_issues.nd)
  (sss_cons (ss_for body_own rfl (si_rg1 nm.n_range (sa_cons (se_var 2) sa_nil)) (sg_name 4 sc_lw_issues.nd) q_name (sss_cons (ss_par2 (i := 8) (j := 9) (sa_cons (se_lstM sa_nil) (sa_cons (se_listRgM rfl nm.n_list (srg_1 nm.n_range (se_var 1))) sa_nil)) rfl sc_lw_issues.nd)
  (sss_cons (ss_for body_own rfl (si_rg1 nm.n_range (sa_cons (se_add se_int (se_callF (j := 1) (k := 2) (ps := [("pot" : Str), ("size" : Str)]) (st := HeadX.top 40) (F := F_lw_draw) c_lw_draw hr hgd body_passes (sa_cons (se_var 0) (sa_cons (se_callB oc_min2 (call_min2 rfl) nm.n_min bb_min (sa_cons se_int (sa_cons (se_var 1) sa_nil))) sa_nil)))) sa_nil)) (sg_name 5 sc_lw_issues.nd) q_name (sss_one (ss_expr (se_bm om_append sl_append (by kernel_rfl) mt_append (se_var 8) (sa_cons (se_tup (sa_cons se_str (sa_cons (se_bm om_pop sl_pop (by kernel_rfl) mt_pops (se_var 9) (sa_cons (se_callF (j := 1) (k := 2) (ps := [("pot" : Str), ("size" : Str)]) (st := HeadX.top 40) (F := F_lw_draw) c_lw_draw hr hgd body_passes (sa_cons (se_var 0) (sa_cons (se_callB oc_len call_len nm.n_len bb_len (sa_cons (se_var 9) sa_nil)) sa_nil))) sa_nil)) (sa_cons (se_callF (j := 1) (k := 2) (ps := [("pot" : Str), ("size" : Str)]) (st := HeadX.top 40) (F := F_lw_draw) c_lw_draw hr hgd body_passes (sa_cons (se_var 0) (sa_cons se_int sa_nil))) sa_nil)))) sa_nil)))))
  (sss_cons (ss_for body_own rfl (si_rg2 nm.n_range (sa_cons (se_add (se_var 4) se_int) (sa_cons (se_var 2) sa_nil))) (sg_name 6 sc_lw_issues.nd) q_name (sss_one (ss_if (SW.st (sw_and (st_gt (se_callF (j := 1) (k := 2) (ps := [("pot" : Str), ("size" : Str)]) (st := HeadX.top 40) (F := F_lw_draw) c_lw_draw hr hgd body_passes (sa_cons (se_var 0) (sa_cons se_int sa_nil))) se_int) (sw_and1 (st_lt (se_callB oc_len call_len nm.n_len bb_len (sa_cons (se_var 8) sa_nil)) se_int)))) (sss_one (ss_expr (se_bm om_append sl_append (by kernel_rfl) mt_append (se_var 8) (sa_cons (se_tup (sa_cons se_str (sa_cons (se_var 6) (sa_cons (se_callF (j := 2) (k := 2) (ps := [("pot" : Str), ("some" : Str)]) (st := HeadX.top 41) (F := F_lw_pick) c_lw_pick hr hgd body_passes (sa_cons (se_var 0) (sa_cons (se_lst (sa_cons se_int (sa_cons se_int (sa_cons se_int sa_nil)))) sa_nil))) sa_nil)))) sa_nil)))) sss_nil)))
  (sss_cons (ss_set 7 (se_callF (j := 1) (k := 2) (ps := [("pot" : Str), ("size" : Str)]) (st := HeadX.top 40) (F := F_lw_draw) c_lw_draw hr hgd body_passes (sa_cons (se_var 0) (sa_cons (se_callB oc_len call_len nm.n_len bb_len (sa_cons (se_var 8) sa_nil)) sa_nil))) sc_lw_issues.nd)
  (sss_one (ss_expr (se_bm om_append sl_append (by kernel_rfl) mt_append (se_var 3) (sa_cons (se_callTy oc_tup call_tuple_of nm.n_tuple bt_tuple (sa_cons (se_add (se_slice (se_var 8) (so_some (se_var 7)) so_none) (se_slice (se_var 8) so_none (so_some (se_var 7)))) sa_nil)) sa_nil)))))))))
  (sss_one (ss_ret (se_callTy oc_tup call_tuple_of nm.n_tuple bt_tuple (sa_cons (se_var 3) sa_nil))))))
def m_lw_book : MS := (mSeq (mAsg (mCall fTup (mCons (fun env st => (mLc (mItR1 (mCons (mBin opAdd (mC (.v (.int 1))) (mFn 2 F_lw_draw (mCons (mVar 0) (mCons (mVar 1) mNil)) [])) mNil)) (gNm 7) mYes (mBin opAdd (mC (.v (.int 1))) (mFn 2 F_lw_draw (mCons (mVar 0) (mCons (mC (.v (.int 3))) mNil)) [])) [7] env st).bind finF) mNil)) (gNm 4))
  (mSeq (mAsg (mLstM (mCons (mTup (mCons (mC (.v .none)) (mCons (mBin opEq (mFn 2 F_lw_draw (mCons (mVar 0) (mCons (mC (.v (.int 2))) mNil)) []) (mC (.v (.int 0)))) mNil))) mNil)) (gNm 5))
  (mSeq (mFor (mItR2 (mCons (mC (.v (.int 1))) (mCons (mBin opAdd (mC (.v (.int 1))) (mFn 2 F_lw_draw (mCons (mVar 0) (mCons (mVar 3) mNil)) [])) mNil))) (gNm 6) (mDrop (mMeth fAppend (mVar 5) (mCons (mTup (mCons (mFn 2 F_lw_draw (mCons (mVar 0) (mCons (mVar 6) mNil)) []) (mCons (mBin opEq (mFn 2 F_lw_draw (mCons (mVar 0) (mCons (mC (.v (.int 2))) mNil)) []) (mC (.v (.int 0)))) mNil))) mNil))))
  (mRet (mTup (mCons (mC (.v (.str ("book" : Str)))) (mCons (mVar 4) (mCons (mFn 3 F_lw_issues (mCons (mVar 0) (mCons (mCall fLen (mCons (mVar 4) mNil)) (mCons (mBin opAdd (mC (.v (.int 1))) (mFn 2 F_lw_draw (mCons (mVar 0) (mCons (mVar 2) mNil)) [])) mNil))) []) (mCons (mCall fTup (mCons (mVar 5) mNil)) mNil)))))))))
def F_lw_book : List D → Sto → R D := runB fin 8 m_lw_book
theorem sc_lw_book : FnScope [("pot" : Str), ("most_facts" : Str), ("most_issues" : Str), ("most_courts" : Str), ("mosts" : Str), ("courts" : Str), ("own" : Str), ("fact" : Str)] [("pot" : Str), ("most_facts" : Str), ("most_issues" : Str), ("most_courts" : Str)] (defScope (HeadX.top 43)) := ⟨rfl, rfl, rfl, by decide +kernel, rfl, by decide +kernel, by decide +kernel⟩
theorem g_lw_book {P : Program} {w : World} {K : PySem.W.Frag} {mg : Str → Option Value} {base : Heap} (nm : Nm mg) (c_lw_draw : Fnx P w K mg base 1 ("_law_draw" : Str) (HeadX.top 40) [("pot" : Str), ("size" : Str)] F_lw_draw) (c_lw_issues : Fnx P w K mg base 3 ("_law_issues" : Str) (HeadX.top 42) [("pot" : Str), ("facts" : Str), ("many" : Str)] F_lw_issues) (F : FunX K mg ("_law_book" : Str) (HeadX.top 43)) :
    Fnx P w K mg base 4 ("_law_book" : Str) (HeadX.top 43) [("pot" : Str), ("most_facts" : Str), ("most_issues" : Str), ("most_courts" : Str)] F_lw_book := by
  refine fnx (k := 3) F sc_lw_book fo_fin (fun _ _ _ _ _ _ us hl => match us, hl with | [_, _, _, _], _ => rfl) rfl fun f cdv A outer s H E hr hgd => ?_
  unfold m_lw_book
  exact (sss_cons (ss_set 4 (se_callTy oc_tup call_tuple_of nm.n_tuple bt_tuple (sa_cons (se_lcG (own := [(("fact" : Str), 7)]) fin_frz rfl sc_lw_book.nd (si_rg1 nm.n_range (sa_cons (se_add se_int (se_callF (j := 1) (k := 3) (ps := [("pot" : Str), ("size" : Str)]) (st := HeadX.top 40) (F := F_lw_draw) c_lw_draw hr hgd body_passes (sa_cons (se_var 0) (sa_cons (se_var 1) sa_nil)))) sa_nil)) (blk_ok (by kernel_rfl)) (fun _ _ _ _ _ => by exact (sg_name 7 sc_lw_book.nd)) q_name (by decide) (fun _ _ _ _ _ => by exact sts_nil) (fun _ _ _ _ _ => by exact (se_add se_int (se_callF (j := 1) (k := 3) (ps := [("pot" : Str), ("size" : Str)]) (st := HeadX.top 40) (F := F_lw_draw) c_lw_draw hr hgd passL (sa_cons (se_var 0) (sa_cons se_int sa_nil)))))) sa_nil)) sc_lw_book.nd)
  (sss_cons (ss_set 5 (se_lstM (sa_cons (se_tup (sa_cons se_non (sa_cons (se_eq (hu64 hr) (se_callF (j := 1) (k := 3) (ps := [("pot" : Str), ("size" : Str)]) (st := HeadX.top 40) (F := F_lw_draw) c_lw_draw hr hgd body_passes (sa_cons (se_var 0) (sa_cons se_int sa_nil))) se_int) sa_nil))) sa_nil)) sc_lw_book.nd)
  (sss_cons (ss_for body_own rfl (si_rg2 nm.n_range (sa_cons se_int (sa_cons (se_add se_int (se_callF (j := 1) (k := 3) (ps := [("pot" : Str), ("size" : Str)]) (st := HeadX.top 40) (F := F_lw_draw) c_lw_draw hr hgd body_passes (sa_cons (se_var 0) (sa_cons (se_var 3) sa_nil)))) sa_nil))) (sg_name 6 sc_lw_book.nd) q_name (sss_one (ss_expr (se_bm om_append sl_append (by kernel_rfl) mt_append (se_var 5) (sa_cons (se_tup (sa_cons (se_callF (j := 1) (k := 3) (ps := [("pot" : Str), ("size" : Str)]) (st := HeadX.top 40) (F := F_lw_draw) c_lw_draw hr hgd body_passes (sa_cons (se_var 0) (sa_cons (se_var 6) sa_nil))) (sa_cons (se_eq (hu64 hr) (se_callF (j := 1) (k := 3) (ps := [("pot" : Str), ("size" : Str)]) (st := HeadX.top 40) (F := F_lw_draw) c_lw_draw hr hgd body_passes (sa_cons (se_var 0) (sa_cons se_int sa_nil))) se_int) sa_nil))) sa_nil)))))
  (sss_one (ss_ret (se_tup (sa_cons se_str (sa_cons (se_var 4) (sa_cons (se_callF (j := 3) (k := 3) (ps := [("pot" : Str), ("facts" : Str), ("many" : Str)]) (st := HeadX.top 42) (F := F_lw_issues) c_lw_issues hr hgd body_passes (sa_cons (se_var 0) (sa_cons (se_callB oc_len call_len nm.n_len bb_len (sa_cons (se_var 4) sa_nil)) (sa_cons (se_add se_int (se_callF (j := 1) (k := 3) (ps := [("pot" : Str), ("size" : Str)]) (st := HeadX.top 40) (F := F_lw_draw) c_lw_draw hr hgd body_passes (sa_cons (se_var 0) (sa_cons (se_var 2) sa_nil)))) sa_nil)))) (sa_cons (se_callTy oc_tup call_tuple_of nm.n_tuple bt_tuple (sa_cons (se_var 5) sa_nil)) sa_nil))))))))))
def m_lw_facts : MS := (mRet (mCall fTup (mCons (fun env st => (mLc (mItS (mBin opIx (mVar 1) (mC (.v (.int 1))))) (gNm 2) mYes (mFn 2 F_lw_draw (mCons (mVar 0) (mCons (mBin opAdd (mVar 2) (mC (.v (.int 1)))) mNil)) []) [2] env st).bind finF) mNil)))
def F_lw_facts : List D → Sto → R D := runB fin 3 m_lw_facts
theorem sc_lw_facts : FnScope [("pot" : Str), ("book" : Str), ("most" : Str)] [("pot" : Str), ("book" : Str)] (defScope (HeadX.top 44)) := ⟨rfl, rfl, rfl, by decide +kernel, rfl, by decide +kernel, by decide +kernel⟩
theorem g_lw_facts {P : Program} {w : World} {K : PySem.W.Frag} {mg : Str → Option Value} {base : Heap} (nm : Nm mg) (c_lw_draw : Fnx P w K mg base 1 ("_law_draw" : Str) (HeadX.top 40) [("pot" : Str), ("size" : Str)] F_lw_draw) (F : FunX K mg ("_law_facts" : Str) (HeadX.top 44)) :
    Fnx P w K mg base 2 ("_law_facts" : Str) (HeadX.top 44) [("pot" : Str), ("book" : Str)] F_lw_facts := by
  refine fnx (k := 1) F sc_lw_facts fo_fin (fun _ _ _ _ _ _ us hl => match us, hl with | [_, _], _ => rfl) rfl fun f cdv A outer s H E hr hgd => ?_
  unfold m_lw_facts
  exact (sss_one (ss_ret (se_callTy oc_tup call_tuple_of nm.n_tuple bt_tuple (sa_cons (se_lcG (own := [(("most" : Str), 2)]) fin_frz rfl sc_lw_facts.nd (si_seq (se_ix (se_var 1) se_int)) (blk_ok (by kernel_rfl)) (fun _ _ _ _ _ => by exact (sg_name 2 sc_lw_facts.nd)) q_name (by decide) (fun _ _ _ _ _ => by exact sts_nil) (fun _ _ _ _ _ => by exact (se_callF (j := 1) (k := 1) (ps := [("pot" : Str), ("size" : Str)]) (st := HeadX.top 40) (F := F_lw_draw) c_lw_draw hr hgd passL (sa_cons (se_var 0) (sa_cons (se_add (se_var 2) se_int) sa_nil))))) sa_nil))))
def m_lw_findings : MS := (mRet (mCall fTup (mCons (fun env st => (mLc (mItS (mBin opIx (mVar 1) (mC (.v (.int 2))))) (gNm 2) mYes (mFn 2 F_lw_draw (mCons (mVar 0) (mCons (mC (.v (.int 2))) mNil)) []) [2] env st).bind finF) mNil)))
def F_lw_findings : List D → Sto → R D := runB fin 3 m_lw_findings
theorem sc_lw_findings : FnScope [("pot" : Str), ("book" : Str), ("issue" : Str)] [("pot" : Str), ("book" : Str)] (defScope (HeadX.top 45)) := ⟨rfl, rfl, rfl, by decide +kernel, rfl, by decide +kernel, by decide +kernel⟩
theorem g_lw_findings {P : Program} {w : World} {K : PySem.W.Frag} {mg : Str → Option Value} {base : Heap} (nm : Nm mg) (c_lw_draw : Fnx P w K mg base 1 ("_law_draw" : Str) (HeadX.top 40) [("pot" : Str), ("size" : Str)] F_lw_draw) (F : FunX K mg ("_law_findings" : Str) (HeadX.top 45)) :
    Fnx P w K mg base 2 ("_law_findings" : Str) (HeadX.top 45) [("pot" : Str), ("book" : Str)] F_lw_findings := by
  refine fnx (k := 1) F sc_lw_findings fo_fin (fun _ _ _ _ _ _ us hl => match us, hl with | [_, _], _ => rfl) rfl fun f cdv A outer s H E hr hgd => ?_
  unfold m_lw_findings
  exact (sss_one (ss_ret (se_callTy oc_tup call_tuple_of nm.n_tuple bt_tuple (sa_cons (se_lcG (own := [(("issue" : Str), 2)]) fin_frz rfl sc_lw_findings.nd (si_seq (se_ix (se_var 1) se_int)) (blk_ok (by kernel_rfl)) (fun _ _ _ _ _ => by exact (sg_name 2 sc_lw_findings.nd)) q_name (by decide) (fun _ _ _ _ _ => by exact sts_nil) (fun _ _ _ _ _ => by exact (se_callF (j := 1) (k := 1) (ps := [("pot" : Str), ("size" : Str)]) (st := HeadX.top 40) (F := F_lw_draw) c_lw_draw hr hgd passL (sa_cons (se_var 0) (sa_cons se_int sa_nil))))) sa_nil))))
def m_lw_point : MS := (mSeq (mAsg (mLstM mNil) (gNm 4))
  (mSeq (mFor (mItS (mBin opIx (mBin opIx (mVar 0) (mC (.v (.int 2)))) (mVar 3))) (gTu 3 (gCons (gNm 5) (gCons (gNm 6) (gCons (gNm 7) gNil)))) (mSeq (mAsg (mIf (mCmpT opEq (mVar 5) (mC (.v (.str ("fact" : Str))))) (mTup (mCons (mBin opIx (mVar 1) (mVar 6)) (mCons (mBin opIx (mBin opIx (mVar 0) (mC (.v (.int 1)))) (mVar 6)) mNil))) (mTup (mCons (mBin opIx (mVar 2) (mVar 6)) (mCons (mC (.v (.int 1))) mNil)))) (gTu 2 (gCons (gNm 8) (gCons (gNm 9) gNil))))
  (mDrop (mMeth fAppend (mVar 4) (mCons (mIf (mCmpT opEq (mVar 7) (mC (.v (.int 1)))) (mVar 8) (mBin opSub (mVar 9) (mVar 8))) mNil)))))
  (mRet (mCall fTup (mCons (mVar 4) mNil)))))
def F_lw_point : List D → Sto → R D := runB fin 10 m_lw_point
theorem sc_lw_point : FnScope [("book" : Str), ("facts" : Str), ("findings" : Str), ("issue" : Str), ("found" : Str), ("word" : Str), ("number" : Str), ("side" : Str), ("amount" : Str), ("most" : Str)] [("book" : Str), ("facts" : Str), ("findings" : Str), ("issue" : Str)] (defScope (HeadX.top 46)) := ⟨rfl, rfl, rfl, by decide +kernel, rfl, by decide +kernel, by decide +kernel⟩
theorem g_lw_point {P : Program} {w : World} {K : PySem.W.Frag} {mg : Str → Option Value} {base : Heap} (nm : Nm mg)  (F : FunX K mg ("_law_point" : Str) (HeadX.top 46)) :
    Fnx P w K mg base 1 ("_law_point" : Str) (HeadX.top 46) [("book" : Str), ("facts" : Str), ("findings" : Str), ("issue" : Str)] F_lw_point := by
  refine fnx (k := 0) F sc_lw_point fo_fin (fun _ _ _ _ _ _ us hl => match us, hl with | [_, _, _, _], _ => rfl) rfl fun f cdv A outer s H E hr hgd => ?_
  unfold m_lw_point
  exact (sss_cons (ss_set 4 (se_lstM sa_nil) sc_lw_point.nd)
  (sss_cons (ss_for body_own rfl (si_seq (se_ix (se_ix (se_var 0) se_int) (se_var 3))) (sg_tup rfl (sgs_cons (sg_name 5 sc_lw_point.nd) (sgs_cons (sg_name 6 sc_lw_point.nd) (sgs_cons (sg_name 7 sc_lw_point.nd) sgs_nil)))) (q_tu (q_cons q_name (q_cons q_name (q_cons q_name q_nil)))) (sss_cons (ss_asg (se_if (st_eq (hu64 hr) (se_var 5) se_str) (se_tup (sa_cons (se_ix (se_var 1) (se_var 6)) (sa_cons (se_ix (se_ix (se_var 0) se_int) (se_var 6)) sa_nil))) (se_tup (sa_cons (se_ix (se_var 2) (se_var 6)) (sa_cons se_int sa_nil)))) (sg_tup rfl (sgs_cons (sg_name 8 sc_lw_point.nd) (sgs_cons (sg_name 9 sc_lw_point.nd) sgs_nil))) (q_tu (q_cons q_name (q_cons q_name q_nil))))
  (sss_one (ss_expr (se_bm om_append sl_append (by kernel_rfl) mt_append (se_var 4) (sa_cons (se_if (st_eq (hu64 hr) (se_var 7) se_int) (se_var 8) (se_sub (se_var 9) (se_var 8))) sa_nil))))))
  (sss_one (ss_ret (se_callTy oc_tup call_tuple_of nm.n_tuple bt_tuple (sa_cons (se_var 4) sa_nil))))))
def m_lw_mosts : MS := (mRet (mCall fTup (mCons (fun env st => (mLc (mItS (mBin opIx (mBin opIx (mVar 0) (mC (.v (.int 2)))) (mVar 1))) (gTu 3 (gCons (gNm 2) (gCons (gNm 3) (gCons (gNm 4) gNil)))) mYes (mIf (mCmpT opEq (mVar 2) (mC (.v (.str ("fact" : Str))))) (mBin opIx (mBin opIx (mVar 0) (mC (.v (.int 1)))) (mVar 3)) (mC (.v (.int 1)))) [2, 3, 4] env st).bind finF) mNil)))
def F_lw_mosts : List D → Sto → R D := runB fin 5 m_lw_mosts
theorem sc_lw_mosts : FnScope [("book" : Str), ("issue" : Str), ("word" : Str), ("number" : Str), ("side" : Str)] [("book" : Str), ("issue" : Str)] (defScope (HeadX.top 47)) := ⟨rfl, rfl, rfl, by decide +kernel, rfl, by decide +kernel, by decide +kernel⟩
theorem g_lw_mosts {P : Program} {w : World} {K : PySem.W.Frag} {mg : Str → Option Value} {base : Heap} (nm : Nm mg)  (F : FunX K mg ("_law_mosts" : Str) (HeadX.top 47)) :
    Fnx P w K mg base 1 ("_law_mosts" : Str) (HeadX.top 47) [("book" : Str), ("issue" : Str)] F_lw_mosts := by
  refine fnx (k := 0) F sc_lw_mosts fo_fin (fun _ _ _ _ _ _ us hl => match us, hl with | [_, _], _ => rfl) rfl fun f cdv A outer s H E hr hgd => ?_
  unfold m_lw_mosts
  exact (sss_one (ss_ret (se_callTy oc_tup call_tuple_of nm.n_tuple bt_tuple (sa_cons (se_lcG (own := [(("word" : Str), 2), (("number" : Str), 3), (("side" : Str), 4)]) fin_frz rfl sc_lw_mosts.nd (si_seq (se_ix (se_ix (se_var 0) se_int) (se_var 1))) (blk_ok (by kernel_rfl)) (fun _ _ _ _ _ => by exact (sg_tup rfl (sgs_cons (sg_name 2 sc_lw_mosts.nd) (sgs_cons (sg_name 3 sc_lw_mosts.nd) (sgs_cons (sg_name 4 sc_lw_mosts.nd) sgs_nil))))) (q_tu (q_cons q_name (q_cons q_name (q_cons q_name q_nil)))) (by decide) (fun _ _ _ _ _ => by exact sts_nil) (fun _ _ _ _ _ => by exact (se_if (st_eq (hu64 hr) (se_var 2) se_str) (se_ix (se_ix (se_var 0) se_int) (se_var 3)) se_int))) sa_nil))))
def m_lw_reason : MS := (mSeq (mPar2 5 6 (mCons (mFn 4 F_lw_point (mCons (mVar 1) (mCons (mVar 2) (mCons (mVar 3) (mCons (mVar 4) mNil)))) []) (mCons (mLstM mNil) mNil)))
  (mSeq (mFor (mItZ3 (mCons (mBin opIx (mBin opIx (mVar 1) (mC (.v (.int 2)))) (mVar 4)) (mCons (mVar 5) (mCons (mFn 2 F_lw_mosts (mCons (mVar 1) (mCons (mVar 4) mNil)) []) mNil)))) (gTu 3 (gCons (gTu 3 (gCons (gNm 9) (gCons (gNm 10) (gCons (gNm 11) gNil)))) (gCons (gNm 7) (gCons (gNm 8) gNil)))) (mIfS (mOrT (mCmpT opNe (mVar 11) (mBin opIx (mVar 3) (mVar 4))) (mCmpT opEq (mFn 2 F_lw_draw (mCons (mVar 0) (mCons (mC (.v (.int 2))) mNil)) []) (mC (.v (.int 0))))) (mDrop (mMeth fAppend (mVar 6) (mCons (mVar 7) mNil))) (mDrop (mMeth fAppend (mVar 6) (mCons (mIf (mCmpT opEq (mVar 11) (mC (.v (.int 1)))) (mFn 2 F_lw_draw (mCons (mVar 0) (mCons (mBin opAdd (mVar 7) (mC (.v (.int 1)))) mNil)) []) (mBin opAdd (mVar 7) (mFn 2 F_lw_draw (mCons (mVar 0) (mCons (mBin opAdd (mBin opSub (mVar 8) (mVar 7)) (mC (.v (.int 1)))) mNil)) []))) mNil)))))
  (mRet (mCall fTup (mCons (mVar 6) mNil)))))
def F_lw_reason : List D → Sto → R D := runB fin 12 m_lw_reason
theorem sc_lw_reason : FnScope [("pot" : Str), ("book" : Str), ("facts" : Str), ("findings" : Str), ("issue" : Str), ("point" : Str), ("found" : Str), ("own" : Str), ("most" : Str), ("word" : Str), ("number" : Str), ("side" : Str)] [("pot" : Str), ("book" : Str), ("facts" : Str), ("findings" : Str), ("issue" : Str)] (defScope (HeadX.top 48)) := ⟨rfl, rfl, rfl, by decide +kernel, rfl, by decide +kernel, by decide +kernel⟩
theorem g_lw_reason {P : Program} {w : World} {K : PySem.W.Frag} {mg : Str → Option Value} {base : Heap} (nm : Nm mg) (c_lw_point : Fnx P w K mg base 1 ("_law_point" : Str) (HeadX.top 46) [("book" : Str), ("facts" : Str), ("findings" : Str), ("issue" : Str)] F_lw_point) (c_lw_mosts : Fnx P w K mg base 1 ("_law_mosts" : Str) (HeadX.top 47) [("book" : Str), ("issue" : Str)] F_lw_mosts) (c_lw_draw : Fnx P w K mg base 1 ("_law_draw" : Str) (HeadX.top 40) [("pot" : Str), ("size" : Str)] F_lw_draw) (F : FunX K mg ("_law_reason" : Str) (HeadX.top 48)) :
    Fnx P w K mg base 2 ("_law_reason" : Str) (HeadX.top 48) [("pot" : Str), ("book" : Str), ("facts" : Str), ("findings" : Str), ("issue" : Str)] F_lw_reason := by
  refine fnx (k := 1) F sc_lw_reason fo_fin (fun _ _ _ _ _ _ us hl => match us, hl with | [_, _, _, _, _], _ => rfl) rfl fun f cdv A outer s H E hr hgd => ?_
  unfold m_lw_reason
  exact (sss_cons (ss_par2 (i := 5) (j := 6) (sa_cons (se_callF (j := 1) (k := 1) (ps := [("book" : Str), ("facts" : Str), ("findings" : Str), ("issue" : Str)]) (st := HeadX.top 46) (F := F_lw_point) c_lw_point hr hgd body_passes (sa_cons (se_var 1) (sa_cons (se_var 2) (sa_cons (se_var 3) (sa_cons (se_var 4) sa_nil))))) (sa_cons (se_lstM sa_nil) sa_nil)) rfl sc_lw_reason.nd)
  (sss_cons (ss_for body_own rfl (si_z3 nm.n_zip (sa_cons (se_ix (se_ix (se_var 1) se_int) (se_var 4)) (sa_cons (se_var 5) (sa_cons (se_callF (j := 1) (k := 1) (ps := [("book" : Str), ("issue" : Str)]) (st := HeadX.top 47) (F := F_lw_mosts) c_lw_mosts hr hgd body_passes (sa_cons (se_var 1) (sa_cons (se_var 4) sa_nil))) sa_nil)))) (sg_tup rfl (sgs_cons (sg_tup rfl (sgs_cons (sg_name 9 sc_lw_reason.nd) (sgs_cons (sg_name 10 sc_lw_reason.nd) (sgs_cons (sg_name 11 sc_lw_reason.nd) sgs_nil)))) (sgs_cons (sg_name 7 sc_lw_reason.nd) (sgs_cons (sg_name 8 sc_lw_reason.nd) sgs_nil)))) (q_tu (q_cons (q_tu (q_cons q_name (q_cons q_name (q_cons q_name q_nil)))) (q_cons q_name (q_cons q_name q_nil)))) (sss_one (ss_if (SW.st (sw_or (st_ne (hu64 hr) (se_var 11) (se_ix (se_var 3) (se_var 4))) (sw_or1 (st_eq (hu64 hr) (se_callF (j := 1) (k := 1) (ps := [("pot" : Str), ("size" : Str)]) (st := HeadX.top 40) (F := F_lw_draw) c_lw_draw hr hgd body_passes (sa_cons (se_var 0) (sa_cons se_int sa_nil))) se_int)))) (sss_one (ss_expr (se_bm om_append sl_append (by kernel_rfl) mt_append (se_var 6) (sa_cons (se_var 7) sa_nil)))) (sss_one (ss_expr (se_bm om_append sl_append (by kernel_rfl) mt_append (se_var 6) (sa_cons (se_if (st_eq (hu64 hr) (se_var 11) se_int) (se_callF (j := 1) (k := 1) (ps := [("pot" : Str), ("size" : Str)]) (st := HeadX.top 40) (F := F_lw_draw) c_lw_draw hr hgd body_passes (sa_cons (se_var 0) (sa_cons (se_add (se_var 7) se_int) sa_nil))) (se_add (se_var 7) (se_callF (j := 1) (k := 1) (ps := [("pot" : Str), ("size" : Str)]) (st := HeadX.top 40) (F := F_lw_draw) c_lw_draw hr hgd body_passes (sa_cons (se_var 0) (sa_cons (se_add (se_sub (se_var 8) (se_var 7)) se_int) sa_nil))))) sa_nil)))))))
  (sss_one (ss_ret (se_callTy oc_tup call_tuple_of nm.n_tuple bt_tuple (sa_cons (se_var 6) sa_nil))))))
def m_lw_case : MS := (mSeq (mParN [4, 5] (mCons (mFn 2 F_lw_facts (mCons (mVar 0) (mCons (mVar 1) mNil)) []) (mCons (mFn 2 F_lw_findings (mCons (mVar 0) (mCons (mVar 1) mNil)) []) mNil)))
  (mSeq (mAsg (mCall fTup (mCons (fun env st => (mLc (mItR1 (mCons (mCall fLen (mCons (mBin opIx (mVar 1) (mC (.v (.int 2)))) mNil)) mNil)) (gNm 6) mYes (mFn 5 F_lw_reason (mCons (mVar 0) (mCons (mVar 1) (mCons (mVar 4) (mCons (mVar 5) (mCons (mVar 6) mNil))))) []) [6] env st).bind finF) mNil)) (gNm 3))
  (mRet (mTup (mCons (mC (.v (.str ("case" : Str)))) (mCons (mFn 2 F_lw_draw (mCons (mVar 0) (mCons (mCall fLen (mCons (mBin opIx (mVar 1) (mC (.v (.int 3)))) mNil)) mNil)) []) (mCons (mVar 4) (mCons (mVar 5) (mCons (mVar 3) (mCons (mVar 2) mNil))))))))))
def F_lw_case : List D → Sto → R D := runB fin 7 m_lw_case
theorem sc_lw_case : FnScope [("pot" : Str), ("book" : Str), ("struck" : Str), ("reasons" : Str), ("facts" : Str), ("findings" : Str), ("issue" : Str)] [("pot" : Str), ("book" : Str), ("struck" : Str)] (defScope (HeadX.top 49)) := ⟨rfl, rfl, rfl, by decide +kernel, rfl, by decide +kernel, by decide +kernel⟩
theorem g_lw_case {P : Program} {w : World} {K : PySem.W.Frag} {mg : Str → Option Value} {base : Heap} (nm : Nm mg) (c_lw_findings : Fnx P w K mg base 2 ("_law_findings" : Str) (HeadX.top 45) [("pot" : Str), ("book" : Str)] F_lw_findings) (c_lw_facts : Fnx P w K mg base 2 ("_law_facts" : Str) (HeadX.top 44) [("pot" : Str), ("book" : Str)] F_lw_facts) (c_lw_reason : Fnx P w K mg base 2 ("_law_reason" : Str) (HeadX.top 48) [("pot" : Str), ("book" : Str), ("facts" : Str), ("findings" : Str), ("issue" : Str)] F_lw_reason) (c_lw_draw : Fnx P w K mg base 1 ("_law_draw" : Str) (HeadX.top 40) [("pot" : Str), ("size" : Str)] F_lw_draw) (F : FunX K mg ("_law_case" : Str) (HeadX.top 49)) :
    Fnx P w K mg base 3 ("_law_case" : Str) (HeadX.top 49) [("pot" : Str), ("book" : Str), ("struck" : Str)] F_lw_case := by
  refine fnx (k := 2) F sc_lw_case fo_fin (fun _ _ _ _ _ _ us hl => match us, hl with | [_, _, _], _ => rfl) rfl fun f cdv A outer s H E hr hgd => ?_
  unfold m_lw_case
  exact (sss_cons (ss_parN (sa_cons (se_callF (j := 2) (k := 2) (ps := [("pot" : Str), ("book" : Str)]) (st := HeadX.top 44) (F := F_lw_facts) c_lw_facts hr hgd body_passes (sa_cons (se_var 0) (sa_cons (se_var 1) sa_nil))) (sa_cons (se_callF (j := 2) (k := 2) (ps := [("pot" : Str), ("book" : Str)]) (st := HeadX.top 45) (F := F_lw_findings) c_lw_findings hr hgd body_passes (sa_cons (se_var 0) (sa_cons (se_var 1) sa_nil))) sa_nil)) rfl (sgd_cons 4 (sgd_cons 5 sgd_nil sc_lw_case.nd) sc_lw_case.nd))
  (sss_cons (ss_set 3 (se_callTy oc_tup call_tuple_of nm.n_tuple bt_tuple (sa_cons (se_lcG (own := [(("issue" : Str), 6)]) fin_frz rfl sc_lw_case.nd (si_rg1 nm.n_range (sa_cons (se_callB oc_len call_len nm.n_len bb_len (sa_cons (se_ix (se_var 1) se_int) sa_nil)) sa_nil)) (blk_ok (by kernel_rfl)) (fun _ _ _ _ _ => by exact (sg_name 6 sc_lw_case.nd)) q_name (by decide) (fun _ _ _ _ _ => by exact sts_nil) (fun _ _ _ _ _ => by exact (se_callF (j := 2) (k := 2) (ps := [("pot" : Str), ("book" : Str), ("facts" : Str), ("findings" : Str), ("issue" : Str)]) (st := HeadX.top 48) (F := F_lw_reason) c_lw_reason hr hgd passL (sa_cons (se_var 0) (sa_cons (se_var 1) (sa_cons (se_var 4) (sa_cons (se_var 5) (sa_cons (se_var 6) sa_nil)))))))) sa_nil)) sc_lw_case.nd)
  (sss_one (ss_ret (se_tup (sa_cons se_str (sa_cons (se_callF (j := 1) (k := 2) (ps := [("pot" : Str), ("size" : Str)]) (st := HeadX.top 40) (F := F_lw_draw) c_lw_draw hr hgd body_passes (sa_cons (se_var 0) (sa_cons (se_callB oc_len call_len nm.n_len bb_len (sa_cons (se_ix (se_var 1) se_int) sa_nil)) sa_nil))) (sa_cons (se_var 4) (sa_cons (se_var 5) (sa_cons (se_var 3) (sa_cons (se_var 2) sa_nil)))))))))))
def m_lw_number : MS := (mRet (mAndV (mCall fIsi (mCons (mVar 0) (mCons (mC (.ty "int")) mNil))) (mAndV (mNotV (mCall fIsi (mCons (mVar 0) (mCons (mC (.ty "bool")) mNil)))) (mChain opLe opLe (mVar 1) (mVar 0) (mVar 2)))))
def F_lw_number : List D → Sto → R D := runB fin 3 m_lw_number
theorem sc_lw_number : FnScope [("value" : Str), ("least" : Str), ("most" : Str)] [("value" : Str), ("least" : Str), ("most" : Str)] (defScope (HeadX.top 50)) := ⟨rfl, rfl, rfl, by decide +kernel, rfl, by decide +kernel, by decide +kernel⟩
theorem g_lw_number {P : Program} {w : World} {K : PySem.W.Frag} {mg : Str → Option Value} {base : Heap} (nm : Nm mg)  (F : FunX K mg ("_law_number" : Str) (HeadX.top 50)) :
    Fnx P w K mg base 1 ("_law_number" : Str) (HeadX.top 50) [("value" : Str), ("least" : Str), ("most" : Str)] F_lw_number := by
  refine fnx (k := 0) F sc_lw_number fo_fin (fun _ _ _ _ _ _ us hl => match us, hl with | [_, _, _], _ => rfl) rfl fun f cdv A outer s H E hr hgd => ?_
  unfold m_lw_number
  exact (sss_one (ss_ret (se_and (se_callB oc_isi call_isi nm.n_isinstance bb_isinstance (sa_cons (se_var 0) (sa_cons (se_ty nm.n_int bt_int) sa_nil))) (se_and (se_not (se_callB oc_isi call_isi nm.n_isinstance bb_isinstance (sa_cons (se_var 0) (sa_cons (se_ty nm.n_bool bt_bool) sa_nil)))) (se_one (se_lele (se_var 1) (se_var 0) (se_var 2)))))))
def m_lw_are : MS := (mRet (mAndV (mCall fIsi (mCons (mVar 0) (mCons (mC (.ty "tuple")) mNil))) (mAndV (mBin opEq (mCall fLen (mCons (mVar 0) mNil)) (mCall fLen (mCons (mVar 1) mNil))) (mCall fAll (mCons (fun env st => (mLc (mItZ2 (mCons (mVar 0) (mCons (mVar 1) mNil))) (gTu 2 (gCons (gNm 2) (gCons (gNm 3) gNil))) mYes (mFn 3 F_lw_number (mCons (mVar 2) (mCons (mC (.v (.int 0))) (mCons (mVar 3) mNil))) []) [2, 3] env st).bind finF) mNil)))))
def F_lw_are : List D → Sto → R D := runB fin 4 m_lw_are
theorem sc_lw_are : FnScope [("value" : Str), ("mosts" : Str), ("one" : Str), ("most" : Str)] [("value" : Str), ("mosts" : Str)] (defScope (HeadX.top 51)) := ⟨rfl, rfl, rfl, by decide +kernel, rfl, by decide +kernel, by decide +kernel⟩
theorem g_lw_are {P : Program} {w : World} {K : PySem.W.Frag} {mg : Str → Option Value} {base : Heap} (nm : Nm mg) (c_lw_number : Fnx P w K mg base 1 ("_law_number" : Str) (HeadX.top 50) [("value" : Str), ("least" : Str), ("most" : Str)] F_lw_number) (F : FunX K mg ("_law_are" : Str) (HeadX.top 51)) :
    Fnx P w K mg base 2 ("_law_are" : Str) (HeadX.top 51) [("value" : Str), ("mosts" : Str)] F_lw_are := by
  refine fnx (k := 1) F sc_lw_are fo_fin (fun _ _ _ _ _ _ us hl => match us, hl with | [_, _], _ => rfl) rfl fun f cdv A outer s H E hr hgd => ?_
  unfold m_lw_are
  exact (sss_one (ss_ret (se_and (se_callB oc_isi call_isi nm.n_isinstance bb_isinstance (sa_cons (se_var 0) (sa_cons (se_ty nm.n_tuple bt_tuple) sa_nil))) (se_and (se_eq (hu64 hr) (se_callB oc_len call_len nm.n_len bb_len (sa_cons (se_var 0) sa_nil)) (se_callB oc_len call_len nm.n_len bb_len (sa_cons (se_var 1) sa_nil))) (se_one (se_callB oc_all (cr_all rfl) nm.n_all bb_all (sa_cons (se_lcG (own := [(("one" : Str), 2), (("most" : Str), 3)]) fin_frz rfl sc_lw_are.nd (si_z2 nm.n_zip (sa_cons (se_var 0) (sa_cons (se_var 1) sa_nil))) (blk_ok (by kernel_rfl)) (fun _ _ _ _ _ => by exact (sg_tup rfl (sgs_cons (sg_name 2 sc_lw_are.nd) (sgs_cons (sg_name 3 sc_lw_are.nd) sgs_nil)))) (q_tu (q_cons q_name (q_cons q_name q_nil))) (by decide) (fun _ _ _ _ _ => by exact sts_nil) (fun _ _ _ _ _ => by exact (se_callF (j := 1) (k := 1) (ps := [("value" : Str), ("least" : Str), ("most" : Str)]) (st := HeadX.top 50) (F := F_lw_number) c_lw_number hr hgd passL (sa_cons (se_var 2) (sa_cons se_int (sa_cons (se_var 3) sa_nil)))))) sa_nil)))))))
def m_lw_is_reason : MS := (mSeq (mIfS (mNotT (mTru (mFn 2 F_lw_are (mCons (mVar 4) (mCons (mFn 2 F_lw_mosts (mCons (mVar 0) (mCons (mVar 3) mNil)) []) mNil)) []))) (mRet (mC (.v (.bool false)))) mSkip)
  (mSeq (mPar2 5 6 (mCons (mFn 4 F_lw_point (mCons (mVar 0) (mCons (mVar 1) (mCons (mVar 2) (mCons (mVar 3) mNil)))) []) (mCons (mBin opIx (mVar 2) (mVar 3)) mNil)))
  (mSeq (mFor (mItZ3 (mCons (mVar 5) (mCons (mVar 4) (mCons (mBin opIx (mBin opIx (mVar 0) (mC (.v (.int 2)))) (mVar 3)) mNil)))) (gTu 3 (gCons (gNm 7) (gCons (gNm 8) (gCons (gTu 3 (gCons (gNm 9) (gCons (gNm 10) (gCons (gNm 11) gNil)))) gNil)))) (mIfS (mOrT (mAndT (mCmpT opNe (mVar 11) (mVar 6)) (mCmpT opNe (mVar 8) (mVar 7))) (mOrT (mAndT (mCmpT opEq (mVar 6) (mC (.v (.int 1)))) (mCmpT opGt (mVar 8) (mVar 7))) (mAndT (mCmpT opEq (mVar 6) (mC (.v (.int 0)))) (mCmpT opLt (mVar 8) (mVar 7))))) (mRet (mC (.v (.bool false)))) mSkip))
  (mRet (mC (.v (.bool true)))))))
def F_lw_is_reason : List D → Sto → R D := runB fin 12 m_lw_is_reason
theorem sc_lw_is_reason : FnScope [("book" : Str), ("facts" : Str), ("findings" : Str), ("issue" : Str), ("value" : Str), ("point" : Str), ("finding" : Str), ("own" : Str), ("strength" : Str), ("word" : Str), ("number" : Str), ("side" : Str)] [("book" : Str), ("facts" : Str), ("findings" : Str), ("issue" : Str), ("value" : Str)] (defScope (HeadX.top 52)) := ⟨rfl, rfl, rfl, by decide +kernel, rfl, by decide +kernel, by decide +kernel⟩
theorem g_lw_is_reason {P : Program} {w : World} {K : PySem.W.Frag} {mg : Str → Option Value} {base : Heap} (nm : Nm mg) (c_lw_are : Fnx P w K mg base 2 ("_law_are" : Str) (HeadX.top 51) [("value" : Str), ("mosts" : Str)] F_lw_are) (c_lw_mosts : Fnx P w K mg base 1 ("_law_mosts" : Str) (HeadX.top 47) [("book" : Str), ("issue" : Str)] F_lw_mosts) (c_lw_point : Fnx P w K mg base 1 ("_law_point" : Str) (HeadX.top 46) [("book" : Str), ("facts" : Str), ("findings" : Str), ("issue" : Str)] F_lw_point) (F : FunX K mg ("_law_is_reason" : Str) (HeadX.top 52)) :
    Fnx P w K mg base 3 ("_law_is_reason" : Str) (HeadX.top 52) [("book" : Str), ("facts" : Str), ("findings" : Str), ("issue" : Str), ("value" : Str)] F_lw_is_reason := by
  refine fnx (k := 2) F sc_lw_is_reason fo_fin (fun _ _ _ _ _ _ us hl => match us, hl with | [_, _, _, _, _], _ => rfl) rfl fun f cdv A outer s H E hr hgd => ?_
  unfold m_lw_is_reason
  exact (sss_cons (ss_if (st_not (st_tru (se_callF (j := 2) (k := 2) (ps := [("value" : Str), ("mosts" : Str)]) (st := HeadX.top 51) (F := F_lw_are) c_lw_are hr hgd body_passes (sa_cons (se_var 4) (sa_cons (se_callF (j := 1) (k := 2) (ps := [("book" : Str), ("issue" : Str)]) (st := HeadX.top 47) (F := F_lw_mosts) c_lw_mosts hr hgd body_passes (sa_cons (se_var 0) (sa_cons (se_var 3) sa_nil))) sa_nil))))) (sss_one (ss_ret se_bl)) sss_nil)
  (sss_cons (ss_par2 (i := 5) (j := 6) (sa_cons (se_callF (j := 1) (k := 2) (ps := [("book" : Str), ("facts" : Str), ("findings" : Str), ("issue" : Str)]) (st := HeadX.top 46) (F := F_lw_point) c_lw_point hr hgd body_passes (sa_cons (se_var 0) (sa_cons (se_var 1) (sa_cons (se_var 2) (sa_cons (se_var 3) sa_nil))))) (sa_cons (se_ix (se_var 2) (se_var 3)) sa_nil)) rfl sc_lw_is_reason.nd)
  (sss_cons (ss_for body_own rfl (si_z3 nm.n_zip (sa_cons (se_var 5) (sa_cons (se_var 4) (sa_cons (se_ix (se_ix (se_var 0) se_int) (se_var 3)) sa_nil)))) (sg_tup rfl (sgs_cons (sg_name 7 sc_lw_is_reason.nd) (sgs_cons (sg_name 8 sc_lw_is_reason.nd) (sgs_cons (sg_tup rfl (sgs_cons (sg_name 9 sc_lw_is_reason.nd) (sgs_cons (sg_name 10 sc_lw_is_reason.nd) (sgs_cons (sg_name 11 sc_lw_is_reason.nd) sgs_nil)))) sgs_nil)))) (q_tu (q_cons q_name (q_cons q_name (q_cons (q_tu (q_cons q_name (q_cons q_name (q_cons q_name q_nil)))) q_nil)))) (sss_one (ss_if (SW.st (sw_or (SW.st (sw_and (st_ne (hu64 hr) (se_var 11) (se_var 6)) (sw_and1 (st_ne (hu64 hr) (se_var 8) (se_var 7))))) (sw_or (SW.st (sw_and (st_eq (hu64 hr) (se_var 6) se_int) (sw_and1 (st_gt (se_var 8) (se_var 7))))) (sw_or1 (SW.st (sw_and (st_eq (hu64 hr) (se_var 6) se_int) (sw_and1 (st_lt (se_var 8) (se_var 7))))))))) (sss_one (ss_ret se_bl)) sss_nil)))
  (sss_one (ss_ret se_bl)))))
def m_lw_flaw : MS := (mSeq (mIfS (mOrT (mNotT (mTru (mCall fIsi (mCons (mVar 1) (mCons (mC (.ty "tuple")) mNil))))) (mOrT (mCmpT opNe (mCall fLen (mCons (mVar 1) mNil)) (mC (.v (.int 6)))) (mOrT (mNotT (mTru (mCall fIsi (mCons (mBin opIx (mVar 1) (mC (.v (.int 0)))) (mCons (mC (.ty "str")) mNil))))) (mCmpT opNe (mBin opIx (mVar 1) (mC (.v (.int 0)))) (mC (.v (.str ("case" : Str)))))))) (mRet (mTup (mCons (mC (.v (.str ("form" : Str)))) (mCons (mC (.v .none)) mNil)))) mSkip)
  (mSeq (mIfS (mNotT (mTru (mFn 3 F_lw_number (mCons (mBin opIx (mVar 1) (mC (.v (.int 1)))) (mCons (mC (.v (.int 0))) (mCons (mBin opSub (mCall fLen (mCons (mBin opIx (mVar 0) (mC (.v (.int 3)))) mNil)) (mC (.v (.int 1)))) mNil))) []))) (mRet (mTup (mCons (mC (.v (.str ("court" : Str)))) (mCons (mC (.v .none)) mNil)))) mSkip)
  (mSeq (mIfS (mNotT (mTru (mFn 2 F_lw_are (mCons (mBin opIx (mVar 1) (mC (.v (.int 2)))) (mCons (mBin opIx (mVar 0) (mC (.v (.int 1)))) mNil)) []))) (mRet (mTup (mCons (mC (.v (.str ("facts" : Str)))) (mCons (mC (.v .none)) mNil)))) mSkip)
  (mSeq (mIfS (mNotT (mTru (mFn 2 F_lw_are (mCons (mBin opIx (mVar 1) (mC (.v (.int 3)))) (mCons (mBin opMulX (mTup (mCons (mC (.v (.int 1))) mNil)) (mCall fLen (mCons (mBin opIx (mVar 0) (mC (.v (.int 2)))) mNil))) mNil)) []))) (mRet (mTup (mCons (mC (.v (.str ("findings" : Str)))) (mCons (mC (.v .none)) mNil)))) mSkip)
  (mSeq (mIfS (mOrT (mNotT (mTru (mCall fIsi (mCons (mBin opIx (mVar 1) (mC (.v (.int 4)))) (mCons (mC (.ty "tuple")) mNil))))) (mCmpT opNe (mCall fLen (mCons (mBin opIx (mVar 1) (mC (.v (.int 4)))) mNil)) (mCall fLen (mCons (mBin opIx (mVar 0) (mC (.v (.int 2)))) mNil)))) (mRet (mTup (mCons (mC (.v (.str ("reasons" : Str)))) (mCons (mC (.v .none)) mNil)))) mSkip)
  (mSeq (mFor (mItE (mCons (mBin opIx (mVar 1) (mC (.v (.int 4)))) mNil)) (gTu 2 (gCons (gNm 3) (gCons (gNm 4) gNil))) (mIfS (mNotT (mTru (mFn 5 F_lw_is_reason (mCons (mVar 0) (mCons (mBin opIx (mVar 1) (mC (.v (.int 2)))) (mCons (mBin opIx (mVar 1) (mC (.v (.int 3)))) (mCons (mVar 3) (mCons (mVar 4) mNil))))) []))) (mRet (mTup (mCons (mC (.v (.str ("reason" : Str)))) (mCons (mVar 3) mNil)))) mSkip))
  (mSeq (mAsg (mBin opIx (mVar 1) (mC (.v (.int 5)))) (gNm 2))
  (mSeq (mIfS (mOrT (mNotT (mTru (mCall fIsi (mCons (mVar 2) (mCons (mC (.ty "tuple")) mNil))))) (mNotT (mTru (mCall fAll (mCons (fun env st => (mLc (mItS (mVar 2)) (gNm 5) mYes (mFn 3 F_lw_number (mCons (mVar 5) (mCons (mC (.v (.int 0))) (mCons (mBin opPow (mC (.v (.int 10))) (mC (.v (.int 40)))) mNil))) []) [5] env st).bind finF) mNil))))) (mRet (mTup (mCons (mC (.v (.str ("struck" : Str)))) (mCons (mC (.v .none)) mNil)))) mSkip)
  (mRet (mIf (mCmpT opEq (mCall fList (mCons (mVar 2) mNil)) (mSortSet (mVar 2))) (mC (.v .none)) (mTup (mCons (mC (.v (.str ("struck" : Str)))) (mCons (mC (.v .none)) mNil)))))))))))))
def F_lw_flaw : List D → Sto → R D := runB fin 6 m_lw_flaw
theorem sc_lw_flaw : FnScope [("book" : Str), ("value" : Str), ("struck" : Str), ("issue" : Str), ("reason" : Str), ("one" : Str)] [("book" : Str), ("value" : Str)] (defScope (HeadX.top 53)) := ⟨rfl, rfl, rfl, by decide +kernel, rfl, by decide +kernel, by decide +kernel⟩
theorem g_lw_flaw {P : Program} {w : World} {K : PySem.W.Frag} {mg : Str → Option Value} {base : Heap} (nm : Nm mg) (c_lw_number : Fnx P w K mg base 1 ("_law_number" : Str) (HeadX.top 50) [("value" : Str), ("least" : Str), ("most" : Str)] F_lw_number) (c_lw_are : Fnx P w K mg base 2 ("_law_are" : Str) (HeadX.top 51) [("value" : Str), ("mosts" : Str)] F_lw_are) (c_lw_is_reason : Fnx P w K mg base 3 ("_law_is_reason" : Str) (HeadX.top 52) [("book" : Str), ("facts" : Str), ("findings" : Str), ("issue" : Str), ("value" : Str)] F_lw_is_reason) (F : FunX K mg ("_law_flaw" : Str) (HeadX.top 53)) :
    Fnx P w K mg base 4 ("_law_flaw" : Str) (HeadX.top 53) [("book" : Str), ("value" : Str)] F_lw_flaw := by
  refine fnx (k := 3) F sc_lw_flaw fo_fin (fun _ _ _ _ _ _ us hl => match us, hl with | [_, _], _ => rfl) rfl fun f cdv A outer s H E hr hgd => ?_
  unfold m_lw_flaw
  exact (sss_cons (ss_if (SW.st (sw_or (st_not (st_tru (se_callB oc_isi call_isi nm.n_isinstance bb_isinstance (sa_cons (se_var 1) (sa_cons (se_ty nm.n_tuple bt_tuple) sa_nil))))) (sw_or (st_ne (hu64 hr) (se_callB oc_len call_len nm.n_len bb_len (sa_cons (se_var 1) sa_nil)) se_int) (sw_or (st_not (st_tru (se_callB oc_isi call_isi nm.n_isinstance bb_isinstance (sa_cons (se_ix (se_var 1) se_int) (sa_cons (se_ty nm.n_str bt_str) sa_nil))))) (sw_or1 (st_ne (hu64 hr) (se_ix (se_var 1) se_int) se_str)))))) (sss_one (ss_ret (se_tup (sa_cons se_str (sa_cons se_non sa_nil))))) sss_nil)
  (sss_cons (ss_if (st_not (st_tru (se_callF (j := 1) (k := 3) (ps := [("value" : Str), ("least" : Str), ("most" : Str)]) (st := HeadX.top 50) (F := F_lw_number) c_lw_number hr hgd body_passes (sa_cons (se_ix (se_var 1) se_int) (sa_cons se_int (sa_cons (se_sub (se_callB oc_len call_len nm.n_len bb_len (sa_cons (se_ix (se_var 0) se_int) sa_nil)) se_int) sa_nil)))))) (sss_one (ss_ret (se_tup (sa_cons se_str (sa_cons se_non sa_nil))))) sss_nil)
  (sss_cons (ss_if (st_not (st_tru (se_callF (j := 2) (k := 3) (ps := [("value" : Str), ("mosts" : Str)]) (st := HeadX.top 51) (F := F_lw_are) c_lw_are hr hgd body_passes (sa_cons (se_ix (se_var 1) se_int) (sa_cons (se_ix (se_var 0) se_int) sa_nil))))) (sss_one (ss_ret (se_tup (sa_cons se_str (sa_cons se_non sa_nil))))) sss_nil)
  (sss_cons (ss_if (st_not (st_tru (se_callF (j := 2) (k := 3) (ps := [("value" : Str), ("mosts" : Str)]) (st := HeadX.top 51) (F := F_lw_are) c_lw_are hr hgd body_passes (sa_cons (se_ix (se_var 1) se_int) (sa_cons (se_mulX (se_tup (sa_cons se_int sa_nil)) (se_callB oc_len call_len nm.n_len bb_len (sa_cons (se_ix (se_var 0) se_int) sa_nil))) sa_nil))))) (sss_one (ss_ret (se_tup (sa_cons se_str (sa_cons se_non sa_nil))))) sss_nil)
  (sss_cons (ss_if (SW.st (sw_or (st_not (st_tru (se_callB oc_isi call_isi nm.n_isinstance bb_isinstance (sa_cons (se_ix (se_var 1) se_int) (sa_cons (se_ty nm.n_tuple bt_tuple) sa_nil))))) (sw_or1 (st_ne (hu64 hr) (se_callB oc_len call_len nm.n_len bb_len (sa_cons (se_ix (se_var 1) se_int) sa_nil)) (se_callB oc_len call_len nm.n_len bb_len (sa_cons (se_ix (se_var 0) se_int) sa_nil)))))) (sss_one (ss_ret (se_tup (sa_cons se_str (sa_cons se_non sa_nil))))) sss_nil)
  (sss_cons (ss_for body_own rfl (si_en nm.n_enumerate (sa_cons (se_ix (se_var 1) se_int) sa_nil)) (sg_tup rfl (sgs_cons (sg_name 3 sc_lw_flaw.nd) (sgs_cons (sg_name 4 sc_lw_flaw.nd) sgs_nil))) (q_tu (q_cons q_name (q_cons q_name q_nil))) (sss_one (ss_if (st_not (st_tru (se_callF (j := 3) (k := 3) (ps := [("book" : Str), ("facts" : Str), ("findings" : Str), ("issue" : Str), ("value" : Str)]) (st := HeadX.top 52) (F := F_lw_is_reason) c_lw_is_reason hr hgd body_passes (sa_cons (se_var 0) (sa_cons (se_ix (se_var 1) se_int) (sa_cons (se_ix (se_var 1) se_int) (sa_cons (se_var 3) (sa_cons (se_var 4) sa_nil)))))))) (sss_one (ss_ret (se_tup (sa_cons se_str (sa_cons (se_var 3) sa_nil))))) sss_nil)))
  (sss_cons (ss_set 2 (se_ix (se_var 1) se_int) sc_lw_flaw.nd)
  (sss_cons (ss_if (SW.st (sw_or (st_not (st_tru (se_callB oc_isi call_isi nm.n_isinstance bb_isinstance (sa_cons (se_var 2) (sa_cons (se_ty nm.n_tuple bt_tuple) sa_nil))))) (sw_or1 (st_not (st_tru (se_callB oc_all (cr_all rfl) nm.n_all bb_all (sa_cons (se_lcG (own := [(("one" : Str), 5)]) fin_frz rfl sc_lw_flaw.nd (si_seq (se_var 2)) (blk_ok (by kernel_rfl)) (fun _ _ _ _ _ => by exact (sg_name 5 sc_lw_flaw.nd)) q_name (by decide) (fun _ _ _ _ _ => by exact sts_nil) (fun _ _ _ _ _ => by exact (se_callF (j := 1) (k := 3) (ps := [("value" : Str), ("least" : Str), ("most" : Str)]) (st := HeadX.top 50) (F := F_lw_number) c_lw_number hr hgd passL (sa_cons (se_var 5) (sa_cons se_int (sa_cons (se_pow se_int se_int) sa_nil)))))) sa_nil))))))) (sss_one (ss_ret (se_tup (sa_cons se_str (sa_cons se_non sa_nil))))) sss_nil)
  (sss_one (ss_ret (se_if (st_eq (hu64 hr) (se_callTy oc_list call_list_of nm.n_list bt_list (sa_cons (se_var 2) sa_nil)) (se_sortedSet rfl nm.n_sorted nm.n_set (se_var 2))) se_non (se_tup (sa_cons se_str (sa_cons se_non sa_nil))))))))))))))
def m_lw_leaf : MS := (mSeq (mIfS (mTru (mCall fIsi (mCons (mVar 1) (mCons (mC (.ty "str")) mNil)))) (mRet (mFn 2 F_lw_pick (mCons (mVar 0) (mCons (mLst (mCons (mC (.v (.str ("case" : Str)))) (mCons (mC (.v (.str ("Case" : Str)))) (mCons (mC (.v (.str ("cases" : Str)))) (mCons (mC (.v (.str ("" : Str)))) (mCons (mC (.v .none)) (mCons (mC (.v (.int 0))) mNil))))))) mNil)) [])) mSkip)
  (mSeq (mIfS (mTru (mCall fIsi (mCons (mVar 1) (mCons (mC (.ty "int")) mNil)))) (mRet (mFn 2 F_lw_pick (mCons (mVar 0) (mCons (mLst (mCons (mBin opAddX (mVar 1) (mC (.v (.int 1)))) (mCons (mBin opSubX (mVar 1) (mC (.v (.int 1)))) (mCons (mC (.v (.int 0))) (mCons (mC (.v (.int 1))) (mCons (mUn opNeg (mC (.v (.int 1)))) (mCons (mC (.v (.bool true))) (mCons (mC (.v (.bool false))) (mCons (mC (.v .none)) (mCons (mC (.v (.str ("1" : Str)))) (mCons (mTup (mCons (mVar 1) mNil)) (mCons (mBin opPow (mC (.v (.int 10))) (mC (.v (.int 20)))) mNil)))))))))))) mNil)) [])) mSkip)
  (mRet (mFn 2 F_lw_pick (mCons (mVar 0) (mCons (mLst (mCons (mC (.v .none)) (mCons (mC (.v (.int 0))) (mCons (mTup mNil) (mCons (mLst mNil) (mCons (mC (.v (.str ("a" : Str)))) (mCons (mTup (mCons (mC (.v (.int 0))) mNil)) (mCons (mTup (mCons (mC (.v (.int 0))) (mCons (mC (.v (.int 1))) mNil))) (mCons (mTup (mCons (mC (.v (.int 1))) (mCons (mC (.v (.int 0))) mNil))) (mCons (mC (.v (.dict []))) (mCons (mIf (mTru (mCall fIsi (mCons (mVar 1) (mCons (mC (.ty "tuple")) mNil)))) (mCall fList (mCons (mVar 1) mNil)) (mC (.v (.int 1)))) mNil))))))))))) mNil)) []))))
def F_lw_leaf : List D → Sto → R D := runB fin 2 m_lw_leaf
theorem sc_lw_leaf : FnScope [("pot" : Str), ("value" : Str)] [("pot" : Str), ("value" : Str)] (defScope (HeadX.top 54)) := ⟨rfl, rfl, rfl, by decide +kernel, rfl, by decide +kernel, by decide +kernel⟩
theorem g_lw_leaf {P : Program} {w : World} {K : PySem.W.Frag} {mg : Str → Option Value} {base : Heap} (nm : Nm mg) (c_lw_pick : Fnx P w K mg base 2 ("_law_pick" : Str) (HeadX.top 41) [("pot" : Str), ("some" : Str)] F_lw_pick) (F : FunX K mg ("_law_leaf" : Str) (HeadX.top 54)) :
    Fnx P w K mg base 3 ("_law_leaf" : Str) (HeadX.top 54) [("pot" : Str), ("value" : Str)] F_lw_leaf := by
  refine fnx (k := 2) F sc_lw_leaf fo_fin (fun _ _ _ _ _ _ us hl => match us, hl with | [_, _], _ => rfl) rfl fun f cdv A outer s H E hr hgd => ?_
  unfold m_lw_leaf
  exact (sss_cons (ss_if (st_tru (se_callB oc_isi call_isi nm.n_isinstance bb_isinstance (sa_cons (se_var 1) (sa_cons (se_ty nm.n_str bt_str) sa_nil)))) (sss_one (ss_ret (se_callF (j := 2) (k := 2) (ps := [("pot" : Str), ("some" : Str)]) (st := HeadX.top 41) (F := F_lw_pick) c_lw_pick hr hgd body_passes (sa_cons (se_var 0) (sa_cons (se_lst (sa_cons se_str (sa_cons se_str (sa_cons se_str (sa_cons se_str (sa_cons se_non (sa_cons se_int sa_nil))))))) sa_nil))))) sss_nil)
  (sss_cons (ss_if (st_tru (se_callB oc_isi call_isi nm.n_isinstance bb_isinstance (sa_cons (se_var 1) (sa_cons (se_ty nm.n_int bt_int) sa_nil)))) (sss_one (ss_ret (se_callF (j := 2) (k := 2) (ps := [("pot" : Str), ("some" : Str)]) (st := HeadX.top 41) (F := F_lw_pick) c_lw_pick hr hgd body_passes (sa_cons (se_var 0) (sa_cons (se_lst (sa_cons (se_addX (se_var 1) se_int) (sa_cons (se_subX (se_var 1) se_int) (sa_cons se_int (sa_cons se_int (sa_cons (se_neg se_int) (sa_cons se_bl (sa_cons se_bl (sa_cons se_non (sa_cons se_str (sa_cons (se_tup (sa_cons (se_var 1) sa_nil)) (sa_cons (se_pow se_int se_int) sa_nil)))))))))))) sa_nil))))) sss_nil)
  (sss_one (ss_ret (se_callF (j := 2) (k := 2) (ps := [("pot" : Str), ("some" : Str)]) (st := HeadX.top 41) (F := F_lw_pick) c_lw_pick hr hgd body_passes (sa_cons (se_var 0) (sa_cons (se_lst (sa_cons se_non (sa_cons se_int (sa_cons (se_tup sa_nil) (sa_cons (se_lst sa_nil) (sa_cons se_str (sa_cons (se_tup (sa_cons se_int sa_nil)) (sa_cons (se_tup (sa_cons se_int (sa_cons se_int sa_nil))) (sa_cons (se_tup (sa_cons se_int (sa_cons se_int sa_nil))) (sa_cons se_dict0 (sa_cons (se_if (st_tru (se_callB oc_isi call_isi nm.n_isinstance bb_isinstance (sa_cons (se_var 1) (sa_cons (se_ty nm.n_tuple bt_tuple) sa_nil)))) (se_callTy oc_list call_list_of nm.n_list bt_list (sa_cons (se_var 1) sa_nil)) se_int) sa_nil))))))))))) sa_nil)))))))
def m_lw_bent : MS := (mSeq (mIfS (mOrT (mNotT (mTru (mCall fIsi (mCons (mVar 1) (mCons (mC (.ty "tuple")) mNil))))) (mCmpT opEq (mCall fLen (mCons (mVar 1) mNil)) (mC (.v (.int 0))))) (mRet (mFn 2 F_lw_leaf (mCons (mVar 0) (mCons (mVar 1) mNil)) [])) mSkip)
  (mSeq (mPar2 2 3 (mCons (mFn 2 F_lw_draw (mCons (mVar 0) (mCons (mCall fLen (mCons (mVar 1) mNil)) mNil)) []) (mCons (mFn 2 F_lw_draw (mCons (mVar 0) (mCons (mC (.v (.int 7))) mNil)) []) mNil)))
  (mSeq (mIfS (mCmpT opEq (mVar 3) (mC (.v (.int 0)))) (mRet (mBin opAdd (mSlice (mVar 1) mNoP (mPart (mVar 2))) (mSlice (mVar 1) (mPart (mBin opAdd (mVar 2) (mC (.v (.int 1))))) mNoP))) mSkip)
  (mSeq (mIfS (mCmpT opEq (mVar 3) (mC (.v (.int 1)))) (mRet (mBin opAdd (mSlice (mVar 1) mNoP (mPart (mBin opAdd (mVar 2) (mC (.v (.int 1)))))) (mSlice (mVar 1) (mPart (mVar 2)) mNoP))) mSkip)
  (mSeq (mIfS (mCmpT opEq (mVar 3) (mC (.v (.int 2)))) (mRet (mIf (mCmpT opEq (mFn 2 F_lw_draw (mCons (mVar 0) (mCons (mC (.v (.int 2))) mNil)) []) (mC (.v (.int 0)))) (mCall fList (mCons (mVar 1) mNil)) (mUn opRev (mVar 1)))) mSkip)
  (mRet (mBin opAdd (mBin opAdd (mSlice (mVar 1) mNoP (mPart (mVar 2))) (mTup (mCons (mFn 2 F_lw_leaf (mCons (mVar 0) (mCons (mBin opIx (mVar 1) (mVar 2)) mNil)) []) mNil))) (mSlice (mVar 1) (mPart (mBin opAdd (mVar 2) (mC (.v (.int 1))))) mNoP))))))))
def F_lw_bent : List D → Sto → R D := runB fin 4 m_lw_bent
theorem sc_lw_bent : FnScope [("pot" : Str), ("value" : Str), ("at" : Str), ("way" : Str)] [("pot" : Str), ("value" : Str)] (defScope (HeadX.top 55)) := ⟨rfl, rfl, rfl, by decide +kernel, rfl, by decide +kernel, by decide +kernel⟩
theorem g_lw_bent {P : Program} {w : World} {K : PySem.W.Frag} {mg : Str → Option Value} {base : Heap} (nm : Nm mg) (c_lw_leaf : Fnx P w K mg base 3 ("_law_leaf" : Str) (HeadX.top 54) [("pot" : Str), ("value" : Str)] F_lw_leaf) (c_lw_draw : Fnx P w K mg base 1 ("_law_draw" : Str) (HeadX.top 40) [("pot" : Str), ("size" : Str)] F_lw_draw) (F : FunX K mg ("_law_bent" : Str) (HeadX.top 55)) :
    Fnx P w K mg base 4 ("_law_bent" : Str) (HeadX.top 55) [("pot" : Str), ("value" : Str)] F_lw_bent := by
  refine fnx (k := 3) F sc_lw_bent fo_fin (fun _ _ _ _ _ _ us hl => match us, hl with | [_, _], _ => rfl) rfl fun f cdv A outer s H E hr hgd => ?_
  unfold m_lw_bent
  exact (sss_cons (ss_if (SW.st (sw_or (st_not (st_tru (se_callB oc_isi call_isi nm.n_isinstance bb_isinstance (sa_cons (se_var 1) (sa_cons (se_ty nm.n_tuple bt_tuple) sa_nil))))) (sw_or1 (st_eq (hu64 hr) (se_callB oc_len call_len nm.n_len bb_len (sa_cons (se_var 1) sa_nil)) se_int)))) (sss_one (ss_ret (se_callF (j := 3) (k := 3) (ps := [("pot" : Str), ("value" : Str)]) (st := HeadX.top 54) (F := F_lw_leaf) c_lw_leaf hr hgd body_passes (sa_cons (se_var 0) (sa_cons (se_var 1) sa_nil))))) sss_nil)
  (sss_cons (ss_par2 (i := 2) (j := 3) (sa_cons (se_callF (j := 1) (k := 3) (ps := [("pot" : Str), ("size" : Str)]) (st := HeadX.top 40) (F := F_lw_draw) c_lw_draw hr hgd body_passes (sa_cons (se_var 0) (sa_cons (se_callB oc_len call_len nm.n_len bb_len (sa_cons (se_var 1) sa_nil)) sa_nil))) (sa_cons (se_callF (j := 1) (k := 3) (ps := [("pot" : Str), ("size" : Str)]) (st := HeadX.top 40) (F := F_lw_draw) c_lw_draw hr hgd body_passes (sa_cons (se_var 0) (sa_cons se_int sa_nil))) sa_nil)) rfl sc_lw_bent.nd)
  (sss_cons (ss_if (st_eq (hu64 hr) (se_var 3) se_int) (sss_one (ss_ret (se_add (se_slice (se_var 1) so_none (so_some (se_var 2))) (se_slice (se_var 1) (so_some (se_add (se_var 2) se_int)) so_none)))) sss_nil)
  (sss_cons (ss_if (st_eq (hu64 hr) (se_var 3) se_int) (sss_one (ss_ret (se_add (se_slice (se_var 1) so_none (so_some (se_add (se_var 2) se_int))) (se_slice (se_var 1) (so_some (se_var 2)) so_none)))) sss_nil)
  (sss_cons (ss_if (st_eq (hu64 hr) (se_var 3) se_int) (sss_one (ss_ret (se_if (st_eq (hu64 hr) (se_callF (j := 1) (k := 3) (ps := [("pot" : Str), ("size" : Str)]) (st := HeadX.top 40) (F := F_lw_draw) c_lw_draw hr hgd body_passes (sa_cons (se_var 0) (sa_cons se_int sa_nil))) se_int) (se_callTy oc_list call_list_of nm.n_list bt_list (sa_cons (se_var 1) sa_nil)) (se_turn (se_var 1))))) sss_nil)
  (sss_one (ss_ret (se_add (se_add (se_slice (se_var 1) so_none (so_some (se_var 2))) (se_tup (sa_cons (se_callF (j := 3) (k := 3) (ps := [("pot" : Str), ("value" : Str)]) (st := HeadX.top 54) (F := F_lw_leaf) c_lw_leaf hr hgd body_passes (sa_cons (se_var 0) (sa_cons (se_ix (se_var 1) (se_var 2)) sa_nil))) sa_nil))) (se_slice (se_var 1) (so_some (se_add (se_var 2) se_int)) so_none)))))))))
def m_lw_deep : MS := (mSeq (mAsg (mFn 2 F_lw_draw (mCons (mVar 0) (mCons (mCall fLen (mCons (mVar 1) mNil)) mNil)) []) (gNm 2))
  (mSeq (mAsg (mBin opIx (mVar 1) (mVar 2)) (gNm 3))
  (mSeq (mIfS (mAndT (mTru (mCall fIsi (mCons (mVar 3) (mCons (mC (.ty "tuple")) mNil)))) (mAndT (mCmpT opGt (mCall fLen (mCons (mVar 3) mNil)) (mC (.v (.int 0)))) (mCmpT opGt (mFn 2 F_lw_draw (mCons (mVar 0) (mCons (mC (.v (.int 4))) mNil)) []) (mC (.v (.int 0)))))) (mSeq (mAsg (mFn 2 F_lw_draw (mCons (mVar 0) (mCons (mCall fLen (mCons (mVar 3) mNil)) mNil)) []) (gNm 4))
  (mAsg (mBin opAdd (mBin opAdd (mSlice (mVar 3) mNoP (mPart (mVar 4))) (mTup (mCons (mFn 2 F_lw_bent (mCons (mVar 0) (mCons (mBin opIx (mVar 3) (mVar 4)) mNil)) []) mNil))) (mSlice (mVar 3) (mPart (mBin opAdd (mVar 4) (mC (.v (.int 1))))) mNoP)) (gNm 3))) (mAsg (mFn 2 F_lw_bent (mCons (mVar 0) (mCons (mVar 3) mNil)) []) (gNm 3)))
  (mRet (mBin opAdd (mBin opAdd (mSlice (mVar 1) mNoP (mPart (mVar 2))) (mTup (mCons (mVar 3) mNil))) (mSlice (mVar 1) (mPart (mBin opAdd (mVar 2) (mC (.v (.int 1))))) mNoP))))))
def F_lw_deep : List D → Sto → R D := runB fin 5 m_lw_deep
theorem sc_lw_deep : FnScope [("pot" : Str), ("case" : Str), ("at" : Str), ("part" : Str), ("spot" : Str)] [("pot" : Str), ("case" : Str)] (defScope (HeadX.top 56)) := ⟨rfl, rfl, rfl, by decide +kernel, rfl, by decide +kernel, by decide +kernel⟩
theorem g_lw_deep {P : Program} {w : World} {K : PySem.W.Frag} {mg : Str → Option Value} {base : Heap} (nm : Nm mg) (c_lw_draw : Fnx P w K mg base 1 ("_law_draw" : Str) (HeadX.top 40) [("pot" : Str), ("size" : Str)] F_lw_draw) (c_lw_bent : Fnx P w K mg base 4 ("_law_bent" : Str) (HeadX.top 55) [("pot" : Str), ("value" : Str)] F_lw_bent) (F : FunX K mg ("_law_deep" : Str) (HeadX.top 56)) :
    Fnx P w K mg base 5 ("_law_deep" : Str) (HeadX.top 56) [("pot" : Str), ("case" : Str)] F_lw_deep := by
  refine fnx (k := 4) F sc_lw_deep fo_fin (fun _ _ _ _ _ _ us hl => match us, hl with | [_, _], _ => rfl) rfl fun f cdv A outer s H E hr hgd => ?_
  unfold m_lw_deep
  exact (sss_cons (ss_set 2 (se_callF (j := 1) (k := 4) (ps := [("pot" : Str), ("size" : Str)]) (st := HeadX.top 40) (F := F_lw_draw) c_lw_draw hr hgd body_passes (sa_cons (se_var 0) (sa_cons (se_callB oc_len call_len nm.n_len bb_len (sa_cons (se_var 1) sa_nil)) sa_nil))) sc_lw_deep.nd)
  (sss_cons (ss_set 3 (se_ix (se_var 1) (se_var 2)) sc_lw_deep.nd)
  (sss_cons (ss_if (SW.st (sw_and (st_tru (se_callB oc_isi call_isi nm.n_isinstance bb_isinstance (sa_cons (se_var 3) (sa_cons (se_ty nm.n_tuple bt_tuple) sa_nil)))) (sw_and (st_gt (se_callB oc_len call_len nm.n_len bb_len (sa_cons (se_var 3) sa_nil)) se_int) (sw_and1 (st_gt (se_callF (j := 1) (k := 4) (ps := [("pot" : Str), ("size" : Str)]) (st := HeadX.top 40) (F := F_lw_draw) c_lw_draw hr hgd body_passes (sa_cons (se_var 0) (sa_cons se_int sa_nil))) se_int))))) (sss_cons (ss_set 4 (se_callF (j := 1) (k := 4) (ps := [("pot" : Str), ("size" : Str)]) (st := HeadX.top 40) (F := F_lw_draw) c_lw_draw hr hgd body_passes (sa_cons (se_var 0) (sa_cons (se_callB oc_len call_len nm.n_len bb_len (sa_cons (se_var 3) sa_nil)) sa_nil))) sc_lw_deep.nd)
  (sss_one (ss_set 3 (se_add (se_add (se_slice (se_var 3) so_none (so_some (se_var 4))) (se_tup (sa_cons (se_callF (j := 4) (k := 4) (ps := [("pot" : Str), ("value" : Str)]) (st := HeadX.top 55) (F := F_lw_bent) c_lw_bent hr hgd body_passes (sa_cons (se_var 0) (sa_cons (se_ix (se_var 3) (se_var 4)) sa_nil))) sa_nil))) (se_slice (se_var 3) (so_some (se_add (se_var 4) se_int)) so_none)) sc_lw_deep.nd))) (sss_one (ss_set 3 (se_callF (j := 4) (k := 4) (ps := [("pot" : Str), ("value" : Str)]) (st := HeadX.top 55) (F := F_lw_bent) c_lw_bent hr hgd body_passes (sa_cons (se_var 0) (sa_cons (se_var 3) sa_nil))) sc_lw_deep.nd)))
  (sss_one (ss_ret (se_add (se_add (se_slice (se_var 1) so_none (so_some (se_var 2))) (se_tup (sa_cons (se_var 3) sa_nil))) (se_slice (se_var 1) (so_some (se_add (se_var 2) se_int)) so_none)))))))
def m_is_tuple : MS := (mRet (mAndV (mCall fIsi (mCons (mVar 0) (mCons (mC (.ty "tuple")) mNil))) (mBin opEq (mCall fLen (mCons (mVar 0) mNil)) (mVar 1))))
def F_is_tuple : List D → Sto → R D := runB fin 2 m_is_tuple
theorem sc_is_tuple : FnScope [("value" : Str), ("many" : Str)] [("value" : Str), ("many" : Str)] (defScope (HeadX.top 3)) := ⟨rfl, rfl, rfl, by decide +kernel, rfl, by decide +kernel, by decide +kernel⟩
theorem g_is_tuple {P : Program} {w : World} {K : PySem.W.Frag} {mg : Str → Option Value} {base : Heap} (nm : Nm mg)  (F : FunX K mg ("is_tuple" : Str) (HeadX.top 3)) :
    Fnx P w K mg base 1 ("is_tuple" : Str) (HeadX.top 3) [("value" : Str), ("many" : Str)] F_is_tuple := by
  refine fnx (k := 0) F sc_is_tuple fo_fin (fun _ _ _ _ _ _ us hl => match us, hl with | [_, _], _ => rfl) rfl fun f cdv A outer s H E hr hgd => ?_
  unfold m_is_tuple
  exact (sss_one (ss_ret (se_and (se_callB oc_isi call_isi nm.n_isinstance bb_isinstance (sa_cons (se_var 0) (sa_cons (se_ty nm.n_tuple bt_tuple) sa_nil))) (se_one (se_eq (hu64 hr) (se_callB oc_len call_len nm.n_len bb_len (sa_cons (se_var 0) sa_nil)) (se_var 1))))))
def m_is_integer : MS := (mRet (mAndV (mCall fIsi (mCons (mVar 0) (mCons (mC (.ty "int")) mNil))) (mNotV (mCall fIsi (mCons (mVar 0) (mCons (mC (.ty "bool")) mNil))))))
def F_is_integer : List D → Sto → R D := runB fin 1 m_is_integer
theorem sc_is_integer : FnScope [("value" : Str)] [("value" : Str)] (defScope (HeadX.top 1)) := ⟨rfl, rfl, rfl, by decide +kernel, rfl, by decide +kernel, by decide +kernel⟩
theorem g_is_integer {P : Program} {w : World} {K : PySem.W.Frag} {mg : Str → Option Value} {base : Heap} (nm : Nm mg)  (F : FunX K mg ("is_integer" : Str) (HeadX.top 1)) :
    Fnx P w K mg base 1 ("is_integer" : Str) (HeadX.top 1) [("value" : Str)] F_is_integer := by
  refine fnx (k := 0) F sc_is_integer fo_fin (fun _ _ _ _ _ _ us hl => match us, hl with | [_], _ => rfl) rfl fun f cdv A outer s H E hr hgd => ?_
  unfold m_is_integer
  exact (sss_one (ss_ret (se_and (se_callB oc_isi call_isi nm.n_isinstance bb_isinstance (sa_cons (se_var 0) (sa_cons (se_ty nm.n_int bt_int) sa_nil))) (se_one (se_not (se_callB oc_isi call_isi nm.n_isinstance bb_isinstance (sa_cons (se_var 0) (sa_cons (se_ty nm.n_bool bt_bool) sa_nil))))))))
def m_is_within : MS := (mRet (mAndV (mFn 1 F_is_integer (mCons (mVar 0) mNil) []) (mChain opLe opLe (mVar 1) (mVar 0) (mVar 2))))
def F_is_within : List D → Sto → R D := runB fin 3 m_is_within
theorem sc_is_within : FnScope [("value" : Str), ("least" : Str), ("most" : Str)] [("value" : Str), ("least" : Str), ("most" : Str)] (defScope (HeadX.top 2)) := ⟨rfl, rfl, rfl, by decide +kernel, rfl, by decide +kernel, by decide +kernel⟩
theorem g_is_within {P : Program} {w : World} {K : PySem.W.Frag} {mg : Str → Option Value} {base : Heap} (nm : Nm mg) (c_is_integer : Fnx P w K mg base 1 ("is_integer" : Str) (HeadX.top 1) [("value" : Str)] F_is_integer) (F : FunX K mg ("is_within" : Str) (HeadX.top 2)) :
    Fnx P w K mg base 2 ("is_within" : Str) (HeadX.top 2) [("value" : Str), ("least" : Str), ("most" : Str)] F_is_within := by
  refine fnx (k := 1) F sc_is_within fo_fin (fun _ _ _ _ _ _ us hl => match us, hl with | [_, _, _], _ => rfl) rfl fun f cdv A outer s H E hr hgd => ?_
  unfold m_is_within
  exact (sss_one (ss_ret (se_and (se_callF (j := 1) (k := 1) (ps := [("value" : Str)]) (st := HeadX.top 1) (F := F_is_integer) c_is_integer hr hgd body_passes (sa_cons (se_var 0) sa_nil)) (se_one (se_lele (se_var 1) (se_var 0) (se_var 2))))))
def m_are_mosts : MS := (mSeq (mIfS (mOrT (mNotT (mTru (mCall fIsi (mCons (mVar 0) (mCons (mC (.ty "tuple")) mNil))))) (mNotT (mB (mChain opLe opLe (mC (.v (.int 1))) (mCall fLen (mCons (mVar 0) mNil)) (mC (.v (.int 10))))))) (mRet (mC (.v (.bool false)))) mSkip)
  (mRet (mCall fAll (mCons (fun env st => (mLc (mItS (mVar 0)) (gNm 1) mYes (mFn 3 F_is_within (mCons (mVar 1) (mCons (mC (.v (.int 1))) (mCons (mC (.v (.int 9))) mNil))) []) [1] env st).bind finF) mNil))))
def F_are_mosts : List D → Sto → R D := runB fin 2 m_are_mosts
theorem sc_are_mosts : FnScope [("value" : Str), ("one" : Str)] [("value" : Str)] (defScope (HeadX.top 18)) := ⟨rfl, rfl, rfl, by decide +kernel, rfl, by decide +kernel, by decide +kernel⟩
theorem g_are_mosts {P : Program} {w : World} {K : PySem.W.Frag} {mg : Str → Option Value} {base : Heap} (nm : Nm mg) (c_is_within : Fnx P w K mg base 2 ("is_within" : Str) (HeadX.top 2) [("value" : Str), ("least" : Str), ("most" : Str)] F_is_within) (F : FunX K mg ("are_mosts" : Str) (HeadX.top 18)) :
    Fnx P w K mg base 3 ("are_mosts" : Str) (HeadX.top 18) [("value" : Str)] F_are_mosts := by
  refine fnx (k := 2) F sc_are_mosts fo_fin (fun _ _ _ _ _ _ us hl => match us, hl with | [_], _ => rfl) rfl fun f cdv A outer s H E hr hgd => ?_
  unfold m_are_mosts
  exact (sss_cons (ss_if (SW.st (sw_or (st_not (st_tru (se_callB oc_isi call_isi nm.n_isinstance bb_isinstance (sa_cons (se_var 0) (sa_cons (se_ty nm.n_tuple bt_tuple) sa_nil))))) (sw_or1 (st_not (st_lele se_int (se_callB oc_len call_len nm.n_len bb_len (sa_cons (se_var 0) sa_nil)) (se_gint nm.c_MOST_FACTS)))))) (sss_one (ss_ret se_bl)) sss_nil)
  (sss_one (ss_ret (se_callB oc_all (cr_all rfl) nm.n_all bb_all (sa_cons (se_lcG (own := [(("one" : Str), 1)]) fin_frz rfl sc_are_mosts.nd (si_seq (se_var 0)) (blk_ok (by kernel_rfl)) (fun _ _ _ _ _ => by exact (sg_name 1 sc_are_mosts.nd)) q_name (by decide) (fun _ _ _ _ _ => by exact sts_nil) (fun _ _ _ _ _ => by exact (se_callF (j := 2) (k := 2) (ps := [("value" : Str), ("least" : Str), ("most" : Str)]) (st := HeadX.top 2) (F := F_is_within) c_is_within hr hgd passL (sa_cons (se_var 1) (sa_cons se_int (sa_cons (se_gint nm.c_MOST_AMOUNT) sa_nil)))))) sa_nil)))))
def m_is_court_of : MS := (mSeq (mIfS (mOrT (mNotT (mTru (mFn 2 F_is_tuple (mCons (mVar 0) (mCons (mC (.v (.int 2))) mNil)) []))) (mNotT (mTru (mCall fIsi (mCons (mBin opIx (mVar 0) (mC (.v (.int 1)))) (mCons (mC (.ty "bool")) mNil)))))) (mRet (mC (.v (.bool false)))) mSkip)
  (mRet (mIf (mCmpT opEq (mVar 1) (mC (.v (.int 0)))) (mBin (opIsN false) (mBin opIx (mVar 0) (mC (.v (.int 0)))) (mC (.v .none))) (mFn 3 F_is_within (mCons (mBin opIx (mVar 0) (mC (.v (.int 0)))) (mCons (mC (.v (.int 0))) (mCons (mBin opSub (mVar 1) (mC (.v (.int 1)))) mNil))) []))))
def F_is_court_of : List D → Sto → R D := runB fin 2 m_is_court_of
theorem sc_is_court_of : FnScope [("value" : Str), ("own" : Str)] [("value" : Str), ("own" : Str)] (defScope (HeadX.top 21)) := ⟨rfl, rfl, rfl, by decide +kernel, rfl, by decide +kernel, by decide +kernel⟩
theorem g_is_court_of {P : Program} {w : World} {K : PySem.W.Frag} {mg : Str → Option Value} {base : Heap} (nm : Nm mg) (c_is_tuple : Fnx P w K mg base 1 ("is_tuple" : Str) (HeadX.top 3) [("value" : Str), ("many" : Str)] F_is_tuple) (c_is_within : Fnx P w K mg base 2 ("is_within" : Str) (HeadX.top 2) [("value" : Str), ("least" : Str), ("most" : Str)] F_is_within) (F : FunX K mg ("is_court_of" : Str) (HeadX.top 21)) :
    Fnx P w K mg base 3 ("is_court_of" : Str) (HeadX.top 21) [("value" : Str), ("own" : Str)] F_is_court_of := by
  refine fnx (k := 2) F sc_is_court_of fo_fin (fun _ _ _ _ _ _ us hl => match us, hl with | [_, _], _ => rfl) rfl fun f cdv A outer s H E hr hgd => ?_
  unfold m_is_court_of
  exact (sss_cons (ss_if (SW.st (sw_or (st_not (st_tru (se_callF (j := 1) (k := 2) (ps := [("value" : Str), ("many" : Str)]) (st := HeadX.top 3) (F := F_is_tuple) c_is_tuple hr hgd body_passes (sa_cons (se_var 0) (sa_cons se_int sa_nil))))) (sw_or1 (st_not (st_tru (se_callB oc_isi call_isi nm.n_isinstance bb_isinstance (sa_cons (se_ix (se_var 0) se_int) (sa_cons (se_ty nm.n_bool bt_bool) sa_nil)))))))) (sss_one (ss_ret se_bl)) sss_nil)
  (sss_one (ss_ret (se_if (st_eq (hu64 hr) (se_var 1) se_int) (se_is (se_ix (se_var 0) se_int) se_non) (se_callF (j := 2) (k := 2) (ps := [("value" : Str), ("least" : Str), ("most" : Str)]) (st := HeadX.top 2) (F := F_is_within) c_is_within hr hgd body_passes (sa_cons (se_ix (se_var 0) se_int) (sa_cons se_int (sa_cons (se_sub (se_var 1) se_int) sa_nil))))))))
def m_is_ground : MS := (mSeq (mIfS (mOrT (mNotT (mTru (mFn 2 F_is_tuple (mCons (mVar 0) (mCons (mC (.v (.int 3))) mNil)) []))) (mOrT (mNotT (mTru (mCall fIsi (mCons (mBin opIx (mVar 0) (mC (.v (.int 0)))) (mCons (mC (.ty "str")) mNil))))) (mNotT (mTru (mFn 3 F_is_within (mCons (mBin opIx (mVar 0) (mC (.v (.int 2)))) (mCons (mC (.v (.int 0))) (mCons (mC (.v (.int 1))) mNil))) []))))) (mRet (mC (.v (.bool false)))) mSkip)
  (mSeq (mIfS (mCmpT opEq (mBin opIx (mVar 0) (mC (.v (.int 0)))) (mC (.v (.str ("fact" : Str))))) (mRet (mFn 3 F_is_within (mCons (mBin opIx (mVar 0) (mC (.v (.int 1)))) (mCons (mC (.v (.int 0))) (mCons (mBin opSub (mVar 1) (mC (.v (.int 1)))) mNil))) [])) mSkip)
  (mRet (mAndV (mBin opEq (mBin opIx (mVar 0) (mC (.v (.int 0)))) (mC (.v (.str ("issue" : Str))))) (mFn 3 F_is_within (mCons (mBin opIx (mVar 0) (mC (.v (.int 1)))) (mCons (mBin opAdd (mVar 3) (mC (.v (.int 1)))) (mCons (mBin opSub (mVar 2) (mC (.v (.int 1)))) mNil))) [])))))
def F_is_ground : List D → Sto → R D := runB fin 4 m_is_ground
theorem sc_is_ground : FnScope [("value" : Str), ("facts" : Str), ("issues" : Str), ("own" : Str)] [("value" : Str), ("facts" : Str), ("issues" : Str), ("own" : Str)] (defScope (HeadX.top 19)) := ⟨rfl, rfl, rfl, by decide +kernel, rfl, by decide +kernel, by decide +kernel⟩
theorem g_is_ground {P : Program} {w : World} {K : PySem.W.Frag} {mg : Str → Option Value} {base : Heap} (nm : Nm mg) (c_is_tuple : Fnx P w K mg base 1 ("is_tuple" : Str) (HeadX.top 3) [("value" : Str), ("many" : Str)] F_is_tuple) (c_is_within : Fnx P w K mg base 2 ("is_within" : Str) (HeadX.top 2) [("value" : Str), ("least" : Str), ("most" : Str)] F_is_within) (F : FunX K mg ("is_ground" : Str) (HeadX.top 19)) :
    Fnx P w K mg base 3 ("is_ground" : Str) (HeadX.top 19) [("value" : Str), ("facts" : Str), ("issues" : Str), ("own" : Str)] F_is_ground := by
  refine fnx (k := 2) F sc_is_ground fo_fin (fun _ _ _ _ _ _ us hl => match us, hl with | [_, _, _, _], _ => rfl) rfl fun f cdv A outer s H E hr hgd => ?_
  unfold m_is_ground
  exact (sss_cons (ss_if (SW.st (sw_or (st_not (st_tru (se_callF (j := 1) (k := 2) (ps := [("value" : Str), ("many" : Str)]) (st := HeadX.top 3) (F := F_is_tuple) c_is_tuple hr hgd body_passes (sa_cons (se_var 0) (sa_cons se_int sa_nil))))) (sw_or (st_not (st_tru (se_callB oc_isi call_isi nm.n_isinstance bb_isinstance (sa_cons (se_ix (se_var 0) se_int) (sa_cons (se_ty nm.n_str bt_str) sa_nil))))) (sw_or1 (st_not (st_tru (se_callF (j := 2) (k := 2) (ps := [("value" : Str), ("least" : Str), ("most" : Str)]) (st := HeadX.top 2) (F := F_is_within) c_is_within hr hgd body_passes (sa_cons (se_ix (se_var 0) se_int) (sa_cons se_int (sa_cons se_int sa_nil)))))))))) (sss_one (ss_ret se_bl)) sss_nil)
  (sss_cons (ss_if (st_eq (hu64 hr) (se_ix (se_var 0) se_int) (se_gstr nm.c_FACT)) (sss_one (ss_ret (se_callF (j := 2) (k := 2) (ps := [("value" : Str), ("least" : Str), ("most" : Str)]) (st := HeadX.top 2) (F := F_is_within) c_is_within hr hgd body_passes (sa_cons (se_ix (se_var 0) se_int) (sa_cons se_int (sa_cons (se_sub (se_var 1) se_int) sa_nil)))))) sss_nil)
  (sss_one (ss_ret (se_and (se_eq (hu64 hr) (se_ix (se_var 0) se_int) (se_gstr nm.c_ISSUE)) (se_one (se_callF (j := 2) (k := 2) (ps := [("value" : Str), ("least" : Str), ("most" : Str)]) (st := HeadX.top 2) (F := F_is_within) c_is_within hr hgd body_passes (sa_cons (se_ix (se_var 0) se_int) (sa_cons (se_add (se_var 3) se_int) (sa_cons (se_sub (se_var 2) se_int) sa_nil))))))))))
def m_is_issue_of : MS := (mSeq (mIfS (mOrT (mNotT (mTru (mCall fIsi (mCons (mVar 0) (mCons (mC (.ty "tuple")) mNil))))) (mNotT (mB (mChain opLe opLe (mC (.v (.int 1))) (mCall fLen (mCons (mVar 0) mNil)) (mC (.v (.int 8))))))) (mRet (mC (.v (.bool false)))) mSkip)
  (mSeq (mIfS (mNotT (mTru (mCall fAll (mCons (fun env st => (mLc (mItS (mVar 0)) (gNm 4) mYes (mFn 4 F_is_ground (mCons (mVar 4) (mCons (mVar 1) (mCons (mVar 2) (mCons (mVar 3) mNil)))) []) [4] env st).bind finF) mNil)))) (mRet (mC (.v (.bool false)))) mSkip)
  (mRet (mBin opEq (mLenSet (fun env st => (mLc (mItS (mVar 0)) (gNm 4) mYes (mSlice (mVar 4) mNoP (mPart (mC (.v (.int 2))))) [4] env st).bind finF)) (mCall fLen (mCons (mVar 0) mNil))))))
def F_is_issue_of : List D → Sto → R D := runB fin 5 m_is_issue_of
theorem sc_is_issue_of : FnScope [("value" : Str), ("facts" : Str), ("issues" : Str), ("own" : Str), ("one" : Str)] [("value" : Str), ("facts" : Str), ("issues" : Str), ("own" : Str)] (defScope (HeadX.top 20)) := ⟨rfl, rfl, rfl, by decide +kernel, rfl, by decide +kernel, by decide +kernel⟩
theorem g_is_issue_of {P : Program} {w : World} {K : PySem.W.Frag} {mg : Str → Option Value} {base : Heap} (nm : Nm mg) (c_is_ground : Fnx P w K mg base 3 ("is_ground" : Str) (HeadX.top 19) [("value" : Str), ("facts" : Str), ("issues" : Str), ("own" : Str)] F_is_ground) (F : FunX K mg ("is_issue_of" : Str) (HeadX.top 20)) :
    Fnx P w K mg base 4 ("is_issue_of" : Str) (HeadX.top 20) [("value" : Str), ("facts" : Str), ("issues" : Str), ("own" : Str)] F_is_issue_of := by
  refine fnx (k := 3) F sc_is_issue_of fo_fin (fun _ _ _ _ _ _ us hl => match us, hl with | [_, _, _, _], _ => rfl) rfl fun f cdv A outer s H E hr hgd => ?_
  unfold m_is_issue_of
  exact (sss_cons (ss_if (SW.st (sw_or (st_not (st_tru (se_callB oc_isi call_isi nm.n_isinstance bb_isinstance (sa_cons (se_var 0) (sa_cons (se_ty nm.n_tuple bt_tuple) sa_nil))))) (sw_or1 (st_not (st_lele se_int (se_callB oc_len call_len nm.n_len bb_len (sa_cons (se_var 0) sa_nil)) (se_gint nm.c_MOST_GROUNDS)))))) (sss_one (ss_ret se_bl)) sss_nil)
  (sss_cons (ss_if (st_not (st_tru (se_callB oc_all (cr_all rfl) nm.n_all bb_all (sa_cons (se_lcG (own := [(("one" : Str), 4)]) fin_frz rfl sc_is_issue_of.nd (si_seq (se_var 0)) (blk_ok (by kernel_rfl)) (fun _ _ _ _ _ => by exact (sg_name 4 sc_is_issue_of.nd)) q_name (by decide) (fun _ _ _ _ _ => by exact sts_nil) (fun _ _ _ _ _ => by exact (se_callF (j := 3) (k := 3) (ps := [("value" : Str), ("facts" : Str), ("issues" : Str), ("own" : Str)]) (st := HeadX.top 19) (F := F_is_ground) c_is_ground hr hgd passL (sa_cons (se_var 4) (sa_cons (se_var 1) (sa_cons (se_var 2) (sa_cons (se_var 3) sa_nil))))))) sa_nil)))) (sss_one (ss_ret se_bl)) sss_nil)
  (sss_one (ss_ret (se_eq (hu64 hr) (se_lenSetN rfl (hu16 hr) nm.n_len nm.n_set (se_lcG (own := [(("one" : Str), 4)]) fin_frz rfl sc_is_issue_of.nd (si_seq (se_var 0)) (blk_ok (by kernel_rfl)) (fun _ _ _ _ _ => by exact (sg_name 4 sc_is_issue_of.nd)) q_name (by decide) (fun _ _ _ _ _ => by exact sts_nil) (fun _ _ _ _ _ => by exact (se_slice (se_var 4) so_none (so_some se_int))))) (se_callB oc_len call_len nm.n_len bb_len (sa_cons (se_var 0) sa_nil)))))))
def m_is_book_any : MS := (mSeq (mIfS (mOrT (mNotT (mTru (mFn 2 F_is_tuple (mCons (mVar 0) (mCons (mC (.v (.int 4))) mNil)) []))) (mOrT (mNotT (mTru (mCall fIsi (mCons (mBin opIx (mVar 0) (mC (.v (.int 0)))) (mCons (mC (.ty "str")) mNil))))) (mOrT (mCmpT opNe (mBin opIx (mVar 0) (mC (.v (.int 0)))) (mC (.v (.str ("book" : Str))))) (mNotT (mTru (mFn 1 F_are_mosts (mCons (mBin opIx (mVar 0) (mC (.v (.int 1)))) mNil) [])))))) (mRet (mC (.v (.bool false)))) mSkip)
  (mSeq (mParN [1, 2] (mCons (mBin opIx (mVar 0) (mC (.v (.int 2)))) (mCons (mBin opIx (mVar 0) (mC (.v (.int 3)))) mNil)))
  (mSeq (mIfS (mOrT (mNotT (mTru (mCall fIsi (mCons (mVar 1) (mCons (mC (.ty "tuple")) mNil))))) (mNotT (mB (mChain opLe opLe (mC (.v (.int 1))) (mCall fLen (mCons (mVar 1) mNil)) (mC (.v (.int 6))))))) (mRet (mC (.v (.bool false)))) mSkip)
  (mSeq (mIfS (mNotT (mTru (mCall fAll (mCons (fun env st => (mLc (mItE (mCons (mVar 1) mNil)) (gTu 2 (gCons (gNm 3) (gCons (gNm 4) gNil))) mYes (mFn 4 F_is_issue_of (mCons (mVar 4) (mCons (mCall fLen (mCons (mBin opIx (mVar 0) (mC (.v (.int 1)))) mNil)) (mCons (mCall fLen (mCons (mVar 1) mNil)) (mCons (mVar 3) mNil)))) []) [3, 4] env st).bind finF) mNil)))) (mRet (mC (.v (.bool false)))) mSkip)
  (mSeq (mIfS (mOrT (mNotT (mTru (mCall fIsi (mCons (mVar 2) (mCons (mC (.ty "tuple")) mNil))))) (mNotT (mB (mChain opLe opLe (mC (.v (.int 1))) (mCall fLen (mCons (mVar 2) mNil)) (mC (.v (.int 8))))))) (mRet (mC (.v (.bool false)))) mSkip)
  (mRet (mCall fAll (mCons (fun env st => (mLc (mItE (mCons (mVar 2) mNil)) (gTu 2 (gCons (gNm 3) (gCons (gNm 4) gNil))) mYes (mFn 2 F_is_court_of (mCons (mVar 4) (mCons (mVar 3) mNil)) []) [3, 4] env st).bind finF) mNil))))))))
def F_is_book_any : List D → Sto → R D := runB fin 5 m_is_book_any
theorem sc_is_book_any : FnScope [("value" : Str), ("issues" : Str), ("courts" : Str), ("own" : Str), ("one" : Str)] [("value" : Str)] (defScope (HeadX.top 22)) := ⟨rfl, rfl, rfl, by decide +kernel, rfl, by decide +kernel, by decide +kernel⟩
theorem g_is_book_any {P : Program} {w : World} {K : PySem.W.Frag} {mg : Str → Option Value} {base : Heap} (nm : Nm mg) (c_is_tuple : Fnx P w K mg base 1 ("is_tuple" : Str) (HeadX.top 3) [("value" : Str), ("many" : Str)] F_is_tuple) (c_are_mosts : Fnx P w K mg base 3 ("are_mosts" : Str) (HeadX.top 18) [("value" : Str)] F_are_mosts) (c_is_issue_of : Fnx P w K mg base 4 ("is_issue_of" : Str) (HeadX.top 20) [("value" : Str), ("facts" : Str), ("issues" : Str), ("own" : Str)] F_is_issue_of) (c_is_court_of : Fnx P w K mg base 3 ("is_court_of" : Str) (HeadX.top 21) [("value" : Str), ("own" : Str)] F_is_court_of) (F : FunX K mg ("is_book_any" : Str) (HeadX.top 22)) :
    Fnx P w K mg base 5 ("is_book_any" : Str) (HeadX.top 22) [("value" : Str)] F_is_book_any := by
  refine fnx (k := 4) F sc_is_book_any fo_fin (fun _ _ _ _ _ _ us hl => match us, hl with | [_], _ => rfl) rfl fun f cdv A outer s H E hr hgd => ?_
  unfold m_is_book_any
  exact (sss_cons (ss_if (SW.st (sw_or (st_not (st_tru (se_callF (j := 1) (k := 4) (ps := [("value" : Str), ("many" : Str)]) (st := HeadX.top 3) (F := F_is_tuple) c_is_tuple hr hgd body_passes (sa_cons (se_var 0) (sa_cons se_int sa_nil))))) (sw_or (st_not (st_tru (se_callB oc_isi call_isi nm.n_isinstance bb_isinstance (sa_cons (se_ix (se_var 0) se_int) (sa_cons (se_ty nm.n_str bt_str) sa_nil))))) (sw_or (st_ne (hu64 hr) (se_ix (se_var 0) se_int) se_str) (sw_or1 (st_not (st_tru (se_callF (j := 3) (k := 4) (ps := [("value" : Str)]) (st := HeadX.top 18) (F := F_are_mosts) c_are_mosts hr hgd body_passes (sa_cons (se_ix (se_var 0) se_int) sa_nil))))))))) (sss_one (ss_ret se_bl)) sss_nil)
  (sss_cons (ss_parN (sa_cons (se_ix (se_var 0) se_int) (sa_cons (se_ix (se_var 0) se_int) sa_nil)) rfl (sgd_cons 1 (sgd_cons 2 sgd_nil sc_is_book_any.nd) sc_is_book_any.nd))
  (sss_cons (ss_if (SW.st (sw_or (st_not (st_tru (se_callB oc_isi call_isi nm.n_isinstance bb_isinstance (sa_cons (se_var 1) (sa_cons (se_ty nm.n_tuple bt_tuple) sa_nil))))) (sw_or1 (st_not (st_lele se_int (se_callB oc_len call_len nm.n_len bb_len (sa_cons (se_var 1) sa_nil)) (se_gint nm.c_MOST_ISSUES)))))) (sss_one (ss_ret se_bl)) sss_nil)
  (sss_cons (ss_if (st_not (st_tru (se_callB oc_all (cr_all rfl) nm.n_all bb_all (sa_cons (se_lcG (own := [(("own" : Str), 3), (("one" : Str), 4)]) fin_frz rfl sc_is_book_any.nd (si_en nm.n_enumerate (sa_cons (se_var 1) sa_nil)) (blk_ok (by kernel_rfl)) (fun _ _ _ _ _ => by exact (sg_tup rfl (sgs_cons (sg_name 3 sc_is_book_any.nd) (sgs_cons (sg_name 4 sc_is_book_any.nd) sgs_nil)))) (q_tu (q_cons q_name (q_cons q_name q_nil))) (by decide) (fun _ _ _ _ _ => by exact sts_nil) (fun _ _ _ _ _ => by exact (se_callF (j := 4) (k := 4) (ps := [("value" : Str), ("facts" : Str), ("issues" : Str), ("own" : Str)]) (st := HeadX.top 20) (F := F_is_issue_of) c_is_issue_of hr hgd passL (sa_cons (se_var 4) (sa_cons (se_callB oc_len call_len nm.n_len bb_len (sa_cons (se_ix (se_var 0) se_int) sa_nil)) (sa_cons (se_callB oc_len call_len nm.n_len bb_len (sa_cons (se_var 1) sa_nil)) (sa_cons (se_var 3) sa_nil))))))) sa_nil)))) (sss_one (ss_ret se_bl)) sss_nil)
  (sss_cons (ss_if (SW.st (sw_or (st_not (st_tru (se_callB oc_isi call_isi nm.n_isinstance bb_isinstance (sa_cons (se_var 2) (sa_cons (se_ty nm.n_tuple bt_tuple) sa_nil))))) (sw_or1 (st_not (st_lele se_int (se_callB oc_len call_len nm.n_len bb_len (sa_cons (se_var 2) sa_nil)) (se_gint nm.c_MOST_COURTS)))))) (sss_one (ss_ret se_bl)) sss_nil)
  (sss_one (ss_ret (se_callB oc_all (cr_all rfl) nm.n_all bb_all (sa_cons (se_lcG (own := [(("own" : Str), 3), (("one" : Str), 4)]) fin_frz rfl sc_is_book_any.nd (si_en nm.n_enumerate (sa_cons (se_var 2) sa_nil)) (blk_ok (by kernel_rfl)) (fun _ _ _ _ _ => by exact (sg_tup rfl (sgs_cons (sg_name 3 sc_is_book_any.nd) (sgs_cons (sg_name 4 sc_is_book_any.nd) sgs_nil)))) (q_tu (q_cons q_name (q_cons q_name q_nil))) (by decide) (fun _ _ _ _ _ => by exact sts_nil) (fun _ _ _ _ _ => by exact (se_callF (j := 3) (k := 4) (ps := [("value" : Str), ("own" : Str)]) (st := HeadX.top 21) (F := F_is_court_of) c_is_court_of hr hgd passL (sa_cons (se_var 4) (sa_cons (se_var 3) sa_nil))))) sa_nil)))))))))
def m_want_book : MS := (mIfS (mNotT (mTru (mFn 1 F_is_book_any (mCons (mVar 0) mNil) []))) mNo mSkip)
def F_want_book : List D → Sto → R D := runB fin 1 m_want_book
theorem sc_want_book : FnScope [("book" : Str)] [("book" : Str)] (defScope (HeadX.top 23)) := ⟨rfl, rfl, rfl, by decide +kernel, rfl, by decide +kernel, by decide +kernel⟩
theorem g_want_book {P : Program} {w : World} {K : PySem.W.Frag} {mg : Str → Option Value} {base : Heap} (nm : Nm mg) (c_is_book_any : Fnx P w K mg base 5 ("is_book_any" : Str) (HeadX.top 22) [("value" : Str)] F_is_book_any) (F : FunX K mg ("want_book" : Str) (HeadX.top 23)) :
    Fnx P w K mg base 6 ("want_book" : Str) (HeadX.top 23) [("book" : Str)] F_want_book := by
  refine fnx (k := 5) F sc_want_book fo_fin (fun _ _ _ _ _ _ us hl => match us, hl with | [_], _ => rfl) rfl fun f cdv A outer s H E hr hgd => ?_
  unfold m_want_book
  exact (sss_one (ss_if (st_not (st_tru (se_callF (j := 5) (k := 5) (ps := [("value" : Str)]) (st := HeadX.top 22) (F := F_is_book_any) c_is_book_any hr hgd body_passes (sa_cons (se_var 0) sa_nil)))) (sss_one ss_no) sss_nil))
def m_are_facts : MS := (mRet (mAndV (mFn 2 F_is_tuple (mCons (mVar 1) (mCons (mCall fLen (mCons (mBin opIx (mVar 0) (mC (.v (.int 1)))) mNil)) mNil)) []) (mCall fAll (mCons (fun env st => (mLc (mItZ2 (mCons (mVar 1) (mCons (mBin opIx (mVar 0) (mC (.v (.int 1)))) mNil))) (gTu 2 (gCons (gNm 2) (gCons (gNm 3) gNil))) mYes (mFn 3 F_is_within (mCons (mVar 2) (mCons (mC (.v (.int 0))) (mCons (mVar 3) mNil))) []) [2, 3] env st).bind finF) mNil))))
def F_are_facts : List D → Sto → R D := runB fin 4 m_are_facts
theorem sc_are_facts : FnScope [("book" : Str), ("value" : Str), ("one" : Str), ("most" : Str)] [("book" : Str), ("value" : Str)] (defScope (HeadX.top 24)) := ⟨rfl, rfl, rfl, by decide +kernel, rfl, by decide +kernel, by decide +kernel⟩
theorem g_are_facts {P : Program} {w : World} {K : PySem.W.Frag} {mg : Str → Option Value} {base : Heap} (nm : Nm mg) (c_is_tuple : Fnx P w K mg base 1 ("is_tuple" : Str) (HeadX.top 3) [("value" : Str), ("many" : Str)] F_is_tuple) (c_is_within : Fnx P w K mg base 2 ("is_within" : Str) (HeadX.top 2) [("value" : Str), ("least" : Str), ("most" : Str)] F_is_within) (F : FunX K mg ("are_facts" : Str) (HeadX.top 24)) :
    Fnx P w K mg base 3 ("are_facts" : Str) (HeadX.top 24) [("book" : Str), ("value" : Str)] F_are_facts := by
  refine fnx (k := 2) F sc_are_facts fo_fin (fun _ _ _ _ _ _ us hl => match us, hl with | [_, _], _ => rfl) rfl fun f cdv A outer s H E hr hgd => ?_
  unfold m_are_facts
  exact (sss_one (ss_ret (se_and (se_callF (j := 1) (k := 2) (ps := [("value" : Str), ("many" : Str)]) (st := HeadX.top 3) (F := F_is_tuple) c_is_tuple hr hgd body_passes (sa_cons (se_var 1) (sa_cons (se_callB oc_len call_len nm.n_len bb_len (sa_cons (se_ix (se_var 0) se_int) sa_nil)) sa_nil))) (se_one (se_callB oc_all (cr_all rfl) nm.n_all bb_all (sa_cons (se_lcG (own := [(("one" : Str), 2), (("most" : Str), 3)]) fin_frz rfl sc_are_facts.nd (si_z2 nm.n_zip (sa_cons (se_var 1) (sa_cons (se_ix (se_var 0) se_int) sa_nil))) (blk_ok (by kernel_rfl)) (fun _ _ _ _ _ => by exact (sg_tup rfl (sgs_cons (sg_name 2 sc_are_facts.nd) (sgs_cons (sg_name 3 sc_are_facts.nd) sgs_nil)))) (q_tu (q_cons q_name (q_cons q_name q_nil))) (by decide) (fun _ _ _ _ _ => by exact sts_nil) (fun _ _ _ _ _ => by exact (se_callF (j := 2) (k := 2) (ps := [("value" : Str), ("least" : Str), ("most" : Str)]) (st := HeadX.top 2) (F := F_is_within) c_is_within hr hgd passL (sa_cons (se_var 2) (sa_cons se_int (sa_cons (se_var 3) sa_nil)))))) sa_nil))))))
def m_are_findings : MS := (mRet (mAndV (mFn 2 F_is_tuple (mCons (mVar 1) (mCons (mCall fLen (mCons (mBin opIx (mVar 0) (mC (.v (.int 2)))) mNil)) mNil)) []) (mCall fAll (mCons (fun env st => (mLc (mItS (mVar 1)) (gNm 2) mYes (mFn 3 F_is_within (mCons (mVar 2) (mCons (mC (.v (.int 0))) (mCons (mC (.v (.int 1))) mNil))) []) [2] env st).bind finF) mNil))))
def F_are_findings : List D → Sto → R D := runB fin 3 m_are_findings
theorem sc_are_findings : FnScope [("book" : Str), ("value" : Str), ("one" : Str)] [("book" : Str), ("value" : Str)] (defScope (HeadX.top 25)) := ⟨rfl, rfl, rfl, by decide +kernel, rfl, by decide +kernel, by decide +kernel⟩
theorem g_are_findings {P : Program} {w : World} {K : PySem.W.Frag} {mg : Str → Option Value} {base : Heap} (nm : Nm mg) (c_is_tuple : Fnx P w K mg base 1 ("is_tuple" : Str) (HeadX.top 3) [("value" : Str), ("many" : Str)] F_is_tuple) (c_is_within : Fnx P w K mg base 2 ("is_within" : Str) (HeadX.top 2) [("value" : Str), ("least" : Str), ("most" : Str)] F_is_within) (F : FunX K mg ("are_findings" : Str) (HeadX.top 25)) :
    Fnx P w K mg base 3 ("are_findings" : Str) (HeadX.top 25) [("book" : Str), ("value" : Str)] F_are_findings := by
  refine fnx (k := 2) F sc_are_findings fo_fin (fun _ _ _ _ _ _ us hl => match us, hl with | [_, _], _ => rfl) rfl fun f cdv A outer s H E hr hgd => ?_
  unfold m_are_findings
  exact (sss_one (ss_ret (se_and (se_callF (j := 1) (k := 2) (ps := [("value" : Str), ("many" : Str)]) (st := HeadX.top 3) (F := F_is_tuple) c_is_tuple hr hgd body_passes (sa_cons (se_var 1) (sa_cons (se_callB oc_len call_len nm.n_len bb_len (sa_cons (se_ix (se_var 0) se_int) sa_nil)) sa_nil))) (se_one (se_callB oc_all (cr_all rfl) nm.n_all bb_all (sa_cons (se_lcG (own := [(("one" : Str), 2)]) fin_frz rfl sc_are_findings.nd (si_seq (se_var 1)) (blk_ok (by kernel_rfl)) (fun _ _ _ _ _ => by exact (sg_name 2 sc_are_findings.nd)) q_name (by decide) (fun _ _ _ _ _ => by exact sts_nil) (fun _ _ _ _ _ => by exact (se_callF (j := 2) (k := 2) (ps := [("value" : Str), ("least" : Str), ("most" : Str)]) (st := HeadX.top 2) (F := F_is_within) c_is_within hr hgd passL (sa_cons (se_var 2) (sa_cons se_int (sa_cons se_int sa_nil)))))) sa_nil))))))
def m_are_rising : MS := (mRet (mCall fAll (mCons (fun env st => (mLc (mItZ2 (mCons (mVar 0) (mCons (mSlice (mVar 0) (mPart (mC (.v (.int 1)))) mNoP) mNil))) (gTu 2 (gCons (gNm 1) (gCons (gNm 2) gNil))) mYes (mBin opLt (mVar 1) (mVar 2)) [1, 2] env st).bind finF) mNil)))
def F_are_rising : List D → Sto → R D := runB fin 3 m_are_rising
theorem sc_are_rising : FnScope [("values" : Str), ("near" : Str), ("far" : Str)] [("values" : Str)] (defScope (HeadX.top 4)) := ⟨rfl, rfl, rfl, by decide +kernel, rfl, by decide +kernel, by decide +kernel⟩
theorem g_are_rising {P : Program} {w : World} {K : PySem.W.Frag} {mg : Str → Option Value} {base : Heap} (nm : Nm mg)  (F : FunX K mg ("are_rising" : Str) (HeadX.top 4)) :
    Fnx P w K mg base 1 ("are_rising" : Str) (HeadX.top 4) [("values" : Str)] F_are_rising := by
  refine fnx (k := 0) F sc_are_rising fo_fin (fun _ _ _ _ _ _ us hl => match us, hl with | [_], _ => rfl) rfl fun f cdv A outer s H E hr hgd => ?_
  unfold m_are_rising
  exact (sss_one (ss_ret (se_callB oc_all (cr_all rfl) nm.n_all bb_all (sa_cons (se_lcG (own := [(("near" : Str), 1), (("far" : Str), 2)]) fin_frz rfl sc_are_rising.nd (si_z2 nm.n_zip (sa_cons (se_var 0) (sa_cons (se_slice (se_var 0) (so_some se_int) so_none) sa_nil))) (blk_ok (by kernel_rfl)) (fun _ _ _ _ _ => by exact (sg_tup rfl (sgs_cons (sg_name 1 sc_are_rising.nd) (sgs_cons (sg_name 2 sc_are_rising.nd) sgs_nil)))) (q_tu (q_cons q_name (q_cons q_name q_nil))) (by decide) (fun _ _ _ _ _ => by exact sts_nil) (fun _ _ _ _ _ => by exact (se_lt (se_var 1) (se_var 2)))) sa_nil))))
def m_is_lot : MS := (mRet (mAndV (mCall fIsi (mCons (mVar 0) (mCons (mC (.ty "tuple")) mNil))) (mAndV (mCall fAll (mCons (fun env st => (mLc (mItS (mVar 0)) (gNm 2) mYes (mFn 3 F_is_within (mCons (mVar 2) (mCons (mC (.v (.int 0))) (mCons (mVar 1) mNil))) []) [2] env st).bind finF) mNil)) (mFn 1 F_are_rising (mCons (mVar 0) mNil) []))))
def F_is_lot : List D → Sto → R D := runB fin 3 m_is_lot
theorem sc_is_lot : FnScope [("value" : Str), ("most" : Str), ("one" : Str)] [("value" : Str), ("most" : Str)] (defScope (HeadX.top 5)) := ⟨rfl, rfl, rfl, by decide +kernel, rfl, by decide +kernel, by decide +kernel⟩
theorem g_is_lot {P : Program} {w : World} {K : PySem.W.Frag} {mg : Str → Option Value} {base : Heap} (nm : Nm mg) (c_is_within : Fnx P w K mg base 2 ("is_within" : Str) (HeadX.top 2) [("value" : Str), ("least" : Str), ("most" : Str)] F_is_within) (c_are_rising : Fnx P w K mg base 1 ("are_rising" : Str) (HeadX.top 4) [("values" : Str)] F_are_rising) (F : FunX K mg ("is_lot" : Str) (HeadX.top 5)) :
    Fnx P w K mg base 3 ("is_lot" : Str) (HeadX.top 5) [("value" : Str), ("most" : Str)] F_is_lot := by
  refine fnx (k := 2) F sc_is_lot fo_fin (fun _ _ _ _ _ _ us hl => match us, hl with | [_, _], _ => rfl) rfl fun f cdv A outer s H E hr hgd => ?_
  unfold m_is_lot
  exact (sss_one (ss_ret (se_and (se_callB oc_isi call_isi nm.n_isinstance bb_isinstance (sa_cons (se_var 0) (sa_cons (se_ty nm.n_tuple bt_tuple) sa_nil))) (se_and (se_callB oc_all (cr_all rfl) nm.n_all bb_all (sa_cons (se_lcG (own := [(("one" : Str), 2)]) fin_frz rfl sc_is_lot.nd (si_seq (se_var 0)) (blk_ok (by kernel_rfl)) (fun _ _ _ _ _ => by exact (sg_name 2 sc_is_lot.nd)) q_name (by decide) (fun _ _ _ _ _ => by exact sts_nil) (fun _ _ _ _ _ => by exact (se_callF (j := 2) (k := 2) (ps := [("value" : Str), ("least" : Str), ("most" : Str)]) (st := HeadX.top 2) (F := F_is_within) c_is_within hr hgd passL (sa_cons (se_var 2) (sa_cons se_int (sa_cons (se_var 1) sa_nil)))))) sa_nil)) (se_one (se_callF (j := 1) (k := 2) (ps := [("values" : Str)]) (st := HeadX.top 4) (F := F_are_rising) c_are_rising hr hgd body_passes (sa_cons (se_var 0) sa_nil)))))))
def m_point_in : MS := (mSeq (mAsg (mLstM mNil) (gNm 4))
  (mSeq (mFor (mItS (mBin opIx (mBin opIx (mVar 0) (mC (.v (.int 2)))) (mVar 1))) (gTu 3 (gCons (gNm 5) (gCons (gNm 6) (gCons (gNm 7) gNil)))) (mSeq (mAsg (mIf (mCmpT opEq (mVar 5) (mC (.v (.str ("fact" : Str))))) (mTup (mCons (mBin opIx (mVar 2) (mVar 6)) (mCons (mBin opIx (mBin opIx (mVar 0) (mC (.v (.int 1)))) (mVar 6)) mNil))) (mTup (mCons (mBin opIx (mVar 3) (mVar 6)) (mCons (mC (.v (.int 1))) mNil)))) (gTu 2 (gCons (gNm 8) (gCons (gNm 9) gNil))))
  (mDrop (mMeth fAppend (mVar 4) (mCons (mIf (mCmpT opEq (mVar 7) (mC (.v (.int 1)))) (mVar 8) (mBin opSub (mVar 9) (mVar 8))) mNil)))))
  (mRet (mCall fTup (mCons (mVar 4) mNil)))))
def F_point_in : List D → Sto → R D := runB fin 10 m_point_in
theorem sc_point_in : FnScope [("book" : Str), ("issue" : Str), ("facts" : Str), ("findings" : Str), ("found" : Str), ("kind" : Str), ("number" : Str), ("side" : Str), ("amount" : Str), ("most" : Str)] [("book" : Str), ("issue" : Str), ("facts" : Str), ("findings" : Str)] (defScope (HeadX.top 28)) := ⟨rfl, rfl, rfl, by decide +kernel, rfl, by decide +kernel, by decide +kernel⟩
theorem g_point_in {P : Program} {w : World} {K : PySem.W.Frag} {mg : Str → Option Value} {base : Heap} (nm : Nm mg)  (F : FunX K mg ("point_in" : Str) (HeadX.top 28)) :
    Fnx P w K mg base 1 ("point_in" : Str) (HeadX.top 28) [("book" : Str), ("issue" : Str), ("facts" : Str), ("findings" : Str)] F_point_in := by
  refine fnx (k := 0) F sc_point_in fo_fin (fun _ _ _ _ _ _ us hl => match us, hl with | [_, _, _, _], _ => rfl) rfl fun f cdv A outer s H E hr hgd => ?_
  unfold m_point_in
  exact (sss_cons (ss_set 4 (se_lstM sa_nil) sc_point_in.nd)
  (sss_cons (ss_for body_own rfl (si_seq (se_ix (se_ix (se_var 0) se_int) (se_var 1))) (sg_tup rfl (sgs_cons (sg_name 5 sc_point_in.nd) (sgs_cons (sg_name 6 sc_point_in.nd) (sgs_cons (sg_name 7 sc_point_in.nd) sgs_nil)))) (q_tu (q_cons q_name (q_cons q_name (q_cons q_name q_nil)))) (sss_cons (ss_asg (se_if (st_eq (hu64 hr) (se_var 5) (se_gstr nm.c_FACT)) (se_tup (sa_cons (se_ix (se_var 2) (se_var 6)) (sa_cons (se_ix (se_ix (se_var 0) se_int) (se_var 6)) sa_nil))) (se_tup (sa_cons (se_ix (se_var 3) (se_var 6)) (sa_cons se_int sa_nil)))) (sg_tup rfl (sgs_cons (sg_name 8 sc_point_in.nd) (sgs_cons (sg_name 9 sc_point_in.nd) sgs_nil))) (q_tu (q_cons q_name (q_cons q_name q_nil))))
  (sss_one (ss_expr (se_bm om_append sl_append (by kernel_rfl) mt_append (se_var 4) (sa_cons (se_if (st_eq (hu64 hr) (se_var 7) se_int) (se_var 8) (se_sub (se_var 9) (se_var 8))) sa_nil))))))
  (sss_one (ss_ret (se_callTy oc_tup call_tuple_of nm.n_tuple bt_tuple (sa_cons (se_var 4) sa_nil))))))
def m_mosts_in : MS := (mRet (fun env st => (mLc (mItS (mBin opIx (mBin opIx (mVar 0) (mC (.v (.int 2)))) (mVar 1))) (gTu 3 (gCons (gNm 2) (gCons (gNm 3) (gCons (gNm 4) gNil)))) mYes (mIf (mCmpT opEq (mVar 2) (mC (.v (.str ("fact" : Str))))) (mBin opIx (mBin opIx (mVar 0) (mC (.v (.int 1)))) (mVar 3)) (mC (.v (.int 1)))) [2, 3, 4] env st).bind finF))
def F_mosts_in : List D → Sto → R D := runB fin 5 m_mosts_in
theorem sc_mosts_in : FnScope [("book" : Str), ("issue" : Str), ("kind" : Str), ("number" : Str), ("side" : Str)] [("book" : Str), ("issue" : Str)] (defScope (HeadX.top 27)) := ⟨rfl, rfl, rfl, by decide +kernel, rfl, by decide +kernel, by decide +kernel⟩
theorem g_mosts_in {P : Program} {w : World} {K : PySem.W.Frag} {mg : Str → Option Value} {base : Heap} (nm : Nm mg)  (F : FunX K mg ("mosts_in" : Str) (HeadX.top 27)) :
    Fnx P w K mg base 1 ("mosts_in" : Str) (HeadX.top 27) [("book" : Str), ("issue" : Str)] F_mosts_in := by
  refine fnx (k := 0) F sc_mosts_in fo_fin (fun _ _ _ _ _ _ us hl => match us, hl with | [_, _], _ => rfl) rfl fun f cdv A outer s H E hr hgd => ?_
  unfold m_mosts_in
  exact (sss_one (ss_ret (se_lcG (own := [(("kind" : Str), 2), (("number" : Str), 3), (("side" : Str), 4)]) fin_frz rfl sc_mosts_in.nd (si_seq (se_ix (se_ix (se_var 0) se_int) (se_var 1))) (blk_ok (by kernel_rfl)) (fun _ _ _ _ _ => by exact (sg_tup rfl (sgs_cons (sg_name 2 sc_mosts_in.nd) (sgs_cons (sg_name 3 sc_mosts_in.nd) (sgs_cons (sg_name 4 sc_mosts_in.nd) sgs_nil))))) (q_tu (q_cons q_name (q_cons q_name (q_cons q_name q_nil)))) (by decide) (fun _ _ _ _ _ => by exact sts_nil) (fun _ _ _ _ _ => by exact (se_if (st_eq (hu64 hr) (se_var 2) (se_gstr nm.c_FACT)) (se_ix (se_ix (se_var 0) se_int) (se_var 3)) se_int)))))
def m_is_point_of : MS := (mSeq (mAsg (mFn 2 F_mosts_in (mCons (mVar 0) (mCons (mVar 1) mNil)) []) (gNm 3))
  (mRet (mAndV (mFn 2 F_is_tuple (mCons (mVar 2) (mCons (mCall fLen (mCons (mVar 3) mNil)) mNil)) []) (mCall fAll (mCons (fun env st => (mLc (mItZ2 (mCons (mVar 2) (mCons (mVar 3) mNil))) (gTu 2 (gCons (gNm 4) (gCons (gNm 5) gNil))) mYes (mFn 3 F_is_within (mCons (mVar 4) (mCons (mC (.v (.int 0))) (mCons (mVar 5) mNil))) []) [4, 5] env st).bind finF) mNil)))))
def F_is_point_of : List D → Sto → R D := runB fin 6 m_is_point_of
theorem sc_is_point_of : FnScope [("book" : Str), ("issue" : Str), ("value" : Str), ("mosts" : Str), ("one" : Str), ("most" : Str)] [("book" : Str), ("issue" : Str), ("value" : Str)] (defScope (HeadX.top 26)) := ⟨rfl, rfl, rfl, by decide +kernel, rfl, by decide +kernel, by decide +kernel⟩
theorem g_is_point_of {P : Program} {w : World} {K : PySem.W.Frag} {mg : Str → Option Value} {base : Heap} (nm : Nm mg) (c_mosts_in : Fnx P w K mg base 1 ("mosts_in" : Str) (HeadX.top 27) [("book" : Str), ("issue" : Str)] F_mosts_in) (c_is_tuple : Fnx P w K mg base 1 ("is_tuple" : Str) (HeadX.top 3) [("value" : Str), ("many" : Str)] F_is_tuple) (c_is_within : Fnx P w K mg base 2 ("is_within" : Str) (HeadX.top 2) [("value" : Str), ("least" : Str), ("most" : Str)] F_is_within) (F : FunX K mg ("is_point_of" : Str) (HeadX.top 26)) :
    Fnx P w K mg base 3 ("is_point_of" : Str) (HeadX.top 26) [("book" : Str), ("issue" : Str), ("value" : Str)] F_is_point_of := by
  refine fnx (k := 2) F sc_is_point_of fo_fin (fun _ _ _ _ _ _ us hl => match us, hl with | [_, _, _], _ => rfl) rfl fun f cdv A outer s H E hr hgd => ?_
  unfold m_is_point_of
  exact (sss_cons (ss_set 3 (se_callF (j := 1) (k := 2) (ps := [("book" : Str), ("issue" : Str)]) (st := HeadX.top 27) (F := F_mosts_in) c_mosts_in hr hgd body_passes (sa_cons (se_var 0) (sa_cons (se_var 1) sa_nil))) sc_is_point_of.nd)
  (sss_one (ss_ret (se_and (se_callF (j := 1) (k := 2) (ps := [("value" : Str), ("many" : Str)]) (st := HeadX.top 3) (F := F_is_tuple) c_is_tuple hr hgd body_passes (sa_cons (se_var 2) (sa_cons (se_callB oc_len call_len nm.n_len bb_len (sa_cons (se_var 3) sa_nil)) sa_nil))) (se_one (se_callB oc_all (cr_all rfl) nm.n_all bb_all (sa_cons (se_lcG (own := [(("one" : Str), 4), (("most" : Str), 5)]) fin_frz rfl sc_is_point_of.nd (si_z2 nm.n_zip (sa_cons (se_var 2) (sa_cons (se_var 3) sa_nil))) (blk_ok (by kernel_rfl)) (fun _ _ _ _ _ => by exact (sg_tup rfl (sgs_cons (sg_name 4 sc_is_point_of.nd) (sgs_cons (sg_name 5 sc_is_point_of.nd) sgs_nil)))) (q_tu (q_cons q_name (q_cons q_name q_nil))) (by decide) (fun _ _ _ _ _ => by exact sts_nil) (fun _ _ _ _ _ => by exact (se_callF (j := 2) (k := 2) (ps := [("value" : Str), ("least" : Str), ("most" : Str)]) (st := HeadX.top 2) (F := F_is_within) c_is_within hr hgd passL (sa_cons (se_var 4) (sa_cons se_int (sa_cons (se_var 5) sa_nil)))))) sa_nil)))))))
def m_is_borne : MS := (mSeq (mIfS (mCmpT opNe (mVar 1) (mVar 0)) (mRet (mBin opEq (mVar 3) (mVar 2))) mSkip)
  (mRet (mIf (mCmpT opEq (mVar 0) (mC (.v (.int 1)))) (mBin opLe (mVar 3) (mVar 2)) (mBin opGe (mVar 3) (mVar 2)))))
def F_is_borne : List D → Sto → R D := runB fin 4 m_is_borne
theorem sc_is_borne : FnScope [("finding" : Str), ("side" : Str), ("own" : Str), ("strength" : Str)] [("finding" : Str), ("side" : Str), ("own" : Str), ("strength" : Str)] (defScope (HeadX.top 31)) := ⟨rfl, rfl, rfl, by decide +kernel, rfl, by decide +kernel, by decide +kernel⟩
theorem g_is_borne {P : Program} {w : World} {K : PySem.W.Frag} {mg : Str → Option Value} {base : Heap} (nm : Nm mg)  (F : FunX K mg ("is_borne" : Str) (HeadX.top 31)) :
    Fnx P w K mg base 1 ("is_borne" : Str) (HeadX.top 31) [("finding" : Str), ("side" : Str), ("own" : Str), ("strength" : Str)] F_is_borne := by
  refine fnx (k := 0) F sc_is_borne fo_fin (fun _ _ _ _ _ _ us hl => match us, hl with | [_, _, _, _], _ => rfl) rfl fun f cdv A outer s H E hr hgd => ?_
  unfold m_is_borne
  exact (sss_cons (ss_if (st_ne (hu64 hr) (se_var 1) (se_var 0)) (sss_one (ss_ret (se_eq (hu64 hr) (se_var 3) (se_var 2)))) sss_nil)
  (sss_one (ss_ret (se_if (st_eq (hu64 hr) (se_var 0) se_int) (se_le (se_var 3) (se_var 2)) (se_ge (se_var 3) (se_var 2))))))
def m_flaw_of_reason : MS := (mSeq (mIfS (mNotT (mTru (mFn 3 F_is_point_of (mCons (mVar 0) (mCons (mVar 3) (mCons (mVar 4) mNil))) []))) (mRet (mTup (mCons (mC (.v (.str ("form" : Str)))) (mCons (mC (.v .none)) mNil)))) mSkip)
  (mSeq (mAsg (mFn 4 F_point_in (mCons (mVar 0) (mCons (mVar 3) (mCons (mVar 1) (mCons (mVar 2) mNil)))) []) (gNm 5))
  (mSeq (mFor (mItE (mCons (mBin opIx (mBin opIx (mVar 0) (mC (.v (.int 2)))) (mVar 3)) mNil)) (gTu 2 (gCons (gNm 6) (gCons (gTu 3 (gCons (gNm 7) (gCons (gNm 8) (gCons (gNm 9) gNil)))) gNil))) (mIfS (mNotT (mTru (mFn 4 F_is_borne (mCons (mBin opIx (mVar 2) (mVar 3)) (mCons (mVar 9) (mCons (mBin opIx (mVar 5) (mVar 6)) (mCons (mBin opIx (mVar 4) (mVar 6)) mNil)))) []))) (mRet (mTup (mCons (mC (.v (.str ("ground" : Str)))) (mCons (mVar 6) mNil)))) mSkip))
  (mRet (mC (.v .none))))))
def F_flaw_of_reason : List D → Sto → R D := runB fin 10 m_flaw_of_reason
theorem sc_flaw_of_reason : FnScope [("book" : Str), ("facts" : Str), ("findings" : Str), ("issue" : Str), ("value" : Str), ("point" : Str), ("spot" : Str), ("kind" : Str), ("number" : Str), ("side" : Str)] [("book" : Str), ("facts" : Str), ("findings" : Str), ("issue" : Str), ("value" : Str)] (defScope (HeadX.top 32)) := ⟨rfl, rfl, rfl, by decide +kernel, rfl, by decide +kernel, by decide +kernel⟩
theorem g_flaw_of_reason {P : Program} {w : World} {K : PySem.W.Frag} {mg : Str → Option Value} {base : Heap} (nm : Nm mg) (c_is_point_of : Fnx P w K mg base 3 ("is_point_of" : Str) (HeadX.top 26) [("book" : Str), ("issue" : Str), ("value" : Str)] F_is_point_of) (c_point_in : Fnx P w K mg base 1 ("point_in" : Str) (HeadX.top 28) [("book" : Str), ("issue" : Str), ("facts" : Str), ("findings" : Str)] F_point_in) (c_is_borne : Fnx P w K mg base 1 ("is_borne" : Str) (HeadX.top 31) [("finding" : Str), ("side" : Str), ("own" : Str), ("strength" : Str)] F_is_borne) (F : FunX K mg ("flaw_of_reason" : Str) (HeadX.top 32)) :
    Fnx P w K mg base 4 ("flaw_of_reason" : Str) (HeadX.top 32) [("book" : Str), ("facts" : Str), ("findings" : Str), ("issue" : Str), ("value" : Str)] F_flaw_of_reason := by
  refine fnx (k := 3) F sc_flaw_of_reason fo_fin (fun _ _ _ _ _ _ us hl => match us, hl with | [_, _, _, _, _], _ => rfl) rfl fun f cdv A outer s H E hr hgd => ?_
  unfold m_flaw_of_reason
  exact (sss_cons (ss_if (st_not (st_tru (se_callF (j := 3) (k := 3) (ps := [("book" : Str), ("issue" : Str), ("value" : Str)]) (st := HeadX.top 26) (F := F_is_point_of) c_is_point_of hr hgd body_passes (sa_cons (se_var 0) (sa_cons (se_var 3) (sa_cons (se_var 4) sa_nil)))))) (sss_one (ss_ret (se_tup (sa_cons se_str (sa_cons se_non sa_nil))))) sss_nil)
  (sss_cons (ss_set 5 (se_callF (j := 1) (k := 3) (ps := [("book" : Str), ("issue" : Str), ("facts" : Str), ("findings" : Str)]) (st := HeadX.top 28) (F := F_point_in) c_point_in hr hgd body_passes (sa_cons (se_var 0) (sa_cons (se_var 3) (sa_cons (se_var 1) (sa_cons (se_var 2) sa_nil))))) sc_flaw_of_reason.nd)
  (sss_cons (ss_for body_own rfl (si_en nm.n_enumerate (sa_cons (se_ix (se_ix (se_var 0) se_int) (se_var 3)) sa_nil)) (sg_tup rfl (sgs_cons (sg_name 6 sc_flaw_of_reason.nd) (sgs_cons (sg_tup rfl (sgs_cons (sg_name 7 sc_flaw_of_reason.nd) (sgs_cons (sg_name 8 sc_flaw_of_reason.nd) (sgs_cons (sg_name 9 sc_flaw_of_reason.nd) sgs_nil)))) sgs_nil))) (q_tu (q_cons q_name (q_cons (q_tu (q_cons q_name (q_cons q_name (q_cons q_name q_nil)))) q_nil))) (sss_one (ss_if (st_not (st_tru (se_callF (j := 1) (k := 3) (ps := [("finding" : Str), ("side" : Str), ("own" : Str), ("strength" : Str)]) (st := HeadX.top 31) (F := F_is_borne) c_is_borne hr hgd body_passes (sa_cons (se_ix (se_var 2) (se_var 3)) (sa_cons (se_var 9) (sa_cons (se_ix (se_var 5) (se_var 6)) (sa_cons (se_ix (se_var 4) (se_var 6)) sa_nil))))))) (sss_one (ss_ret (se_tup (sa_cons se_str (sa_cons (se_var 6) sa_nil))))) sss_nil)))
  (sss_one (ss_ret se_non)))))
def m_flaw_of_case : MS := (mSeq (mIfS (mOrT (mNotT (mTru (mFn 2 F_is_tuple (mCons (mVar 1) (mCons (mC (.v (.int 6))) mNil)) []))) (mOrT (mNotT (mTru (mCall fIsi (mCons (mBin opIx (mVar 1) (mC (.v (.int 0)))) (mCons (mC (.ty "str")) mNil))))) (mCmpT opNe (mBin opIx (mVar 1) (mC (.v (.int 0)))) (mC (.v (.str ("case" : Str))))))) (mRet (mTup (mCons (mC (.v (.str ("form" : Str)))) (mCons (mC (.v .none)) mNil)))) mSkip)
  (mSeq (mIfS (mNotT (mTru (mFn 3 F_is_within (mCons (mBin opIx (mVar 1) (mC (.v (.int 1)))) (mCons (mC (.v (.int 0))) (mCons (mBin opSub (mCall fLen (mCons (mBin opIx (mVar 0) (mC (.v (.int 3)))) mNil)) (mC (.v (.int 1)))) mNil))) []))) (mRet (mTup (mCons (mC (.v (.str ("court" : Str)))) (mCons (mC (.v .none)) mNil)))) mSkip)
  (mSeq (mIfS (mNotT (mTru (mFn 2 F_are_facts (mCons (mVar 0) (mCons (mBin opIx (mVar 1) (mC (.v (.int 2)))) mNil)) []))) (mRet (mTup (mCons (mC (.v (.str ("facts" : Str)))) (mCons (mC (.v .none)) mNil)))) mSkip)
  (mSeq (mIfS (mNotT (mTru (mFn 2 F_are_findings (mCons (mVar 0) (mCons (mBin opIx (mVar 1) (mC (.v (.int 3)))) mNil)) []))) (mRet (mTup (mCons (mC (.v (.str ("findings" : Str)))) (mCons (mC (.v .none)) mNil)))) mSkip)
  (mSeq (mIfS (mNotT (mTru (mFn 2 F_is_tuple (mCons (mBin opIx (mVar 1) (mC (.v (.int 4)))) (mCons (mCall fLen (mCons (mBin opIx (mVar 0) (mC (.v (.int 2)))) mNil)) mNil)) []))) (mRet (mTup (mCons (mC (.v (.str ("reasons" : Str)))) (mCons (mC (.v .none)) mNil)))) mSkip)
  (mSeq (mFor (mItE (mCons (mBin opIx (mVar 1) (mC (.v (.int 4)))) mNil)) (gTu 2 (gCons (gNm 2) (gCons (gNm 3) gNil))) (mIfS (mCmpT (opIsN true) (mFn 5 F_flaw_of_reason (mCons (mVar 0) (mCons (mBin opIx (mVar 1) (mC (.v (.int 2)))) (mCons (mBin opIx (mVar 1) (mC (.v (.int 3)))) (mCons (mVar 2) (mCons (mVar 3) mNil))))) []) (mC (.v .none))) (mRet (mTup (mCons (mC (.v (.str ("reason" : Str)))) (mCons (mVar 2) mNil)))) mSkip))
  (mRet (mIf (mTru (mFn 2 F_is_lot (mCons (mBin opIx (mVar 1) (mC (.v (.int 5)))) (mCons (mBin opPow (mC (.v (.int 10))) (mC (.v (.int 40)))) mNil)) [])) (mC (.v .none)) (mTup (mCons (mC (.v (.str ("struck" : Str)))) (mCons (mC (.v .none)) mNil)))))))))))
def F_flaw_of_case : List D → Sto → R D := runB fin 4 m_flaw_of_case
theorem sc_flaw_of_case : FnScope [("book" : Str), ("value" : Str), ("issue" : Str), ("reason" : Str)] [("book" : Str), ("value" : Str)] (defScope (HeadX.top 33)) := ⟨rfl, rfl, rfl, by decide +kernel, rfl, by decide +kernel, by decide +kernel⟩
theorem g_flaw_of_case {P : Program} {w : World} {K : PySem.W.Frag} {mg : Str → Option Value} {base : Heap} (nm : Nm mg) (c_is_tuple : Fnx P w K mg base 1 ("is_tuple" : Str) (HeadX.top 3) [("value" : Str), ("many" : Str)] F_is_tuple) (c_is_within : Fnx P w K mg base 2 ("is_within" : Str) (HeadX.top 2) [("value" : Str), ("least" : Str), ("most" : Str)] F_is_within) (c_are_facts : Fnx P w K mg base 3 ("are_facts" : Str) (HeadX.top 24) [("book" : Str), ("value" : Str)] F_are_facts) (c_are_findings : Fnx P w K mg base 3 ("are_findings" : Str) (HeadX.top 25) [("book" : Str), ("value" : Str)] F_are_findings) (c_flaw_of_reason : Fnx P w K mg base 4 ("flaw_of_reason" : Str) (HeadX.top 32) [("book" : Str), ("facts" : Str), ("findings" : Str), ("issue" : Str), ("value" : Str)] F_flaw_of_reason) (c_is_lot : Fnx P w K mg base 3 ("is_lot" : Str) (HeadX.top 5) [("value" : Str), ("most" : Str)] F_is_lot) (F : FunX K mg ("flaw_of_case" : Str) (HeadX.top 33)) :
    Fnx P w K mg base 5 ("flaw_of_case" : Str) (HeadX.top 33) [("book" : Str), ("value" : Str)] F_flaw_of_case := by
  refine fnx (k := 4) F sc_flaw_of_case fo_fin (fun _ _ _ _ _ _ us hl => match us, hl with | [_, _], _ => rfl) rfl fun f cdv A outer s H E hr hgd => ?_
  unfold m_flaw_of_case
  exact (sss_cons (ss_if (SW.st (sw_or (st_not (st_tru (se_callF (j := 1) (k := 4) (ps := [("value" : Str), ("many" : Str)]) (st := HeadX.top 3) (F := F_is_tuple) c_is_tuple hr hgd body_passes (sa_cons (se_var 1) (sa_cons se_int sa_nil))))) (sw_or (st_not (st_tru (se_callB oc_isi call_isi nm.n_isinstance bb_isinstance (sa_cons (se_ix (se_var 1) se_int) (sa_cons (se_ty nm.n_str bt_str) sa_nil))))) (sw_or1 (st_ne (hu64 hr) (se_ix (se_var 1) se_int) se_str))))) (sss_one (ss_ret (se_tup (sa_cons se_str (sa_cons se_non sa_nil))))) sss_nil)
  (sss_cons (ss_if (st_not (st_tru (se_callF (j := 2) (k := 4) (ps := [("value" : Str), ("least" : Str), ("most" : Str)]) (st := HeadX.top 2) (F := F_is_within) c_is_within hr hgd body_passes (sa_cons (se_ix (se_var 1) se_int) (sa_cons se_int (sa_cons (se_sub (se_callB oc_len call_len nm.n_len bb_len (sa_cons (se_ix (se_var 0) se_int) sa_nil)) se_int) sa_nil)))))) (sss_one (ss_ret (se_tup (sa_cons se_str (sa_cons se_non sa_nil))))) sss_nil)
  (sss_cons (ss_if (st_not (st_tru (se_callF (j := 3) (k := 4) (ps := [("book" : Str), ("value" : Str)]) (st := HeadX.top 24) (F := F_are_facts) c_are_facts hr hgd body_passes (sa_cons (se_var 0) (sa_cons (se_ix (se_var 1) se_int) sa_nil))))) (sss_one (ss_ret (se_tup (sa_cons se_str (sa_cons se_non sa_nil))))) sss_nil)
  (sss_cons (ss_if (st_not (st_tru (se_callF (j := 3) (k := 4) (ps := [("book" : Str), ("value" : Str)]) (st := HeadX.top 25) (F := F_are_findings) c_are_findings hr hgd body_passes (sa_cons (se_var 0) (sa_cons (se_ix (se_var 1) se_int) sa_nil))))) (sss_one (ss_ret (se_tup (sa_cons se_str (sa_cons se_non sa_nil))))) sss_nil)
  (sss_cons (ss_if (st_not (st_tru (se_callF (j := 1) (k := 4) (ps := [("value" : Str), ("many" : Str)]) (st := HeadX.top 3) (F := F_is_tuple) c_is_tuple hr hgd body_passes (sa_cons (se_ix (se_var 1) se_int) (sa_cons (se_callB oc_len call_len nm.n_len bb_len (sa_cons (se_ix (se_var 0) se_int) sa_nil)) sa_nil))))) (sss_one (ss_ret (se_tup (sa_cons se_str (sa_cons se_non sa_nil))))) sss_nil)
  (sss_cons (ss_for body_own rfl (si_en nm.n_enumerate (sa_cons (se_ix (se_var 1) se_int) sa_nil)) (sg_tup rfl (sgs_cons (sg_name 2 sc_flaw_of_case.nd) (sgs_cons (sg_name 3 sc_flaw_of_case.nd) sgs_nil))) (q_tu (q_cons q_name (q_cons q_name q_nil))) (sss_one (ss_if (st_isnot (se_callF (j := 4) (k := 4) (ps := [("book" : Str), ("facts" : Str), ("findings" : Str), ("issue" : Str), ("value" : Str)]) (st := HeadX.top 32) (F := F_flaw_of_reason) c_flaw_of_reason hr hgd body_passes (sa_cons (se_var 0) (sa_cons (se_ix (se_var 1) se_int) (sa_cons (se_ix (se_var 1) se_int) (sa_cons (se_var 2) (sa_cons (se_var 3) sa_nil)))))) se_non) (sss_one (ss_ret (se_tup (sa_cons se_str (sa_cons (se_var 2) sa_nil))))) sss_nil)))
  (sss_one (ss_ret (se_if (st_tru (se_callF (j := 3) (k := 4) (ps := [("value" : Str), ("most" : Str)]) (st := HeadX.top 5) (F := F_is_lot) c_is_lot hr hgd body_passes (sa_cons (se_ix (se_var 1) se_int) (sa_cons (se_pow se_int se_int) sa_nil)))) se_non (se_tup (sa_cons se_str (sa_cons se_non sa_nil))))))))))))
def m_case_flaw : MS := (mSeq (mDrop (mFn 1 F_want_book (mCons (mVar 0) mNil) []))
  (mRet (mFn 2 F_flaw_of_case (mCons (mVar 0) (mCons (mVar 1) mNil)) [])))
def F_case_flaw : List D → Sto → R D := runB fin 2 m_case_flaw
theorem sc_case_flaw : FnScope [("book" : Str), ("value" : Str)] [("book" : Str), ("value" : Str)] (defScope (HeadX.top 36)) := ⟨rfl, rfl, rfl, by decide +kernel, rfl, by decide +kernel, by decide +kernel⟩
theorem g_case_flaw {P : Program} {w : World} {K : PySem.W.Frag} {mg : Str → Option Value} {base : Heap} (nm : Nm mg) (c_want_book : Fnx P w K mg base 6 ("want_book" : Str) (HeadX.top 23) [("book" : Str)] F_want_book) (c_flaw_of_case : Fnx P w K mg base 5 ("flaw_of_case" : Str) (HeadX.top 33) [("book" : Str), ("value" : Str)] F_flaw_of_case) (F : FunX K mg ("case_flaw" : Str) (HeadX.top 36)) :
    Fnx P w K mg base 7 ("case_flaw" : Str) (HeadX.top 36) [("book" : Str), ("value" : Str)] F_case_flaw := by
  refine fnx (k := 6) F sc_case_flaw fo_fin (fun _ _ _ _ _ _ us hl => match us, hl with | [_, _], _ => rfl) rfl fun f cdv A outer s H E hr hgd => ?_
  unfold m_case_flaw
  exact (sss_cons (ss_expr (se_callF (j := 6) (k := 6) (ps := [("book" : Str)]) (st := HeadX.top 23) (F := F_want_book) c_want_book hr hgd body_passes (sa_cons (se_var 0) sa_nil)))
  (sss_one (ss_ret (se_callF (j := 5) (k := 6) (ps := [("book" : Str), ("value" : Str)]) (st := HeadX.top 33) (F := F_flaw_of_case) c_flaw_of_case hr hgd body_passes (sa_cons (se_var 0) (sa_cons (se_var 1) sa_nil))))))
def m_is_case : MS := (mSeq (mDrop (mFn 1 F_want_book (mCons (mVar 0) mNil) []))
  (mRet (mBin (opIsN false) (mFn 2 F_flaw_of_case (mCons (mVar 0) (mCons (mVar 1) mNil)) []) (mC (.v .none)))))
def F_is_case : List D → Sto → R D := runB fin 2 m_is_case
theorem sc_is_case : FnScope [("book" : Str), ("value" : Str)] [("book" : Str), ("value" : Str)] (defScope (HeadX.top 35)) := ⟨rfl, rfl, rfl, by decide +kernel, rfl, by decide +kernel, by decide +kernel⟩
theorem g_is_case {P : Program} {w : World} {K : PySem.W.Frag} {mg : Str → Option Value} {base : Heap} (nm : Nm mg) (c_want_book : Fnx P w K mg base 6 ("want_book" : Str) (HeadX.top 23) [("book" : Str)] F_want_book) (c_flaw_of_case : Fnx P w K mg base 5 ("flaw_of_case" : Str) (HeadX.top 33) [("book" : Str), ("value" : Str)] F_flaw_of_case) (F : FunX K mg ("is_case" : Str) (HeadX.top 35)) :
    Fnx P w K mg base 7 ("is_case" : Str) (HeadX.top 35) [("book" : Str), ("value" : Str)] F_is_case := by
  refine fnx (k := 6) F sc_is_case fo_fin (fun _ _ _ _ _ _ us hl => match us, hl with | [_, _], _ => rfl) rfl fun f cdv A outer s H E hr hgd => ?_
  unfold m_is_case
  exact (sss_cons (ss_expr (se_callF (j := 6) (k := 6) (ps := [("book" : Str)]) (st := HeadX.top 23) (F := F_want_book) c_want_book hr hgd body_passes (sa_cons (se_var 0) sa_nil)))
  (sss_one (ss_ret (se_is (se_callF (j := 5) (k := 6) (ps := [("book" : Str), ("value" : Str)]) (st := HeadX.top 33) (F := F_flaw_of_case) c_flaw_of_case hr hgd body_passes (sa_cons (se_var 0) (sa_cons (se_var 1) sa_nil))) se_non))))
def m_want_own_case : MS := (mIfS (mCmpT (opIsN true) (mFn 2 F_flaw_of_case (mCons (mVar 0) (mCons (mVar 1) mNil)) []) (mC (.v .none))) mNo mSkip)
def F_want_own_case : List D → Sto → R D := runB fin 2 m_want_own_case
theorem sc_want_own_case : FnScope [("book" : Str), ("case" : Str)] [("book" : Str), ("case" : Str)] (defScope (HeadX.top 34)) := ⟨rfl, rfl, rfl, by decide +kernel, rfl, by decide +kernel, by decide +kernel⟩
theorem g_want_own_case {P : Program} {w : World} {K : PySem.W.Frag} {mg : Str → Option Value} {base : Heap} (nm : Nm mg) (c_flaw_of_case : Fnx P w K mg base 5 ("flaw_of_case" : Str) (HeadX.top 33) [("book" : Str), ("value" : Str)] F_flaw_of_case) (F : FunX K mg ("want_own_case" : Str) (HeadX.top 34)) :
    Fnx P w K mg base 6 ("want_own_case" : Str) (HeadX.top 34) [("book" : Str), ("case" : Str)] F_want_own_case := by
  refine fnx (k := 5) F sc_want_own_case fo_fin (fun _ _ _ _ _ _ us hl => match us, hl with | [_, _], _ => rfl) rfl fun f cdv A outer s H E hr hgd => ?_
  unfold m_want_own_case
  exact (sss_one (ss_if (st_isnot (se_callF (j := 5) (k := 5) (ps := [("book" : Str), ("value" : Str)]) (st := HeadX.top 33) (F := F_flaw_of_case) c_flaw_of_case hr hgd body_passes (sa_cons (se_var 0) (sa_cons (se_var 1) sa_nil))) se_non) (sss_one ss_no) sss_nil))
def m_rulings_in : MS := (mRet (mListZip true (mCons (mBin opIx (mVar 0) (mC (.v (.int 4)))) (mCons (mBin opIx (mVar 0) (mC (.v (.int 3)))) mNil))))
def F_rulings_in : List D → Sto → R D := runB finM 1 m_rulings_in
theorem sc_rulings_in : FnScope [("case" : Str)] [("case" : Str)] (defScope (HeadX.top 29)) := ⟨rfl, rfl, rfl, by decide +kernel, rfl, by decide +kernel, by decide +kernel⟩
theorem g_rulings_in {P : Program} {w : World} {K : PySem.W.Frag} {mg : Str → Option Value} {base : Heap} (nm : Nm mg)  (F : FunX K mg ("rulings_in" : Str) (HeadX.top 29)) :
    Fnx P w K mg base 1 ("rulings_in" : Str) (HeadX.top 29) [("case" : Str)] F_rulings_in := by
  refine fnx (k := 0) F sc_rulings_in fo_finM (fun _ _ _ _ _ _ us hl => match us, hl with | [_], _ => rfl) rfl fun f cdv A outer s H E hr hgd => ?_
  unfold m_rulings_in
  exact (sss_one (ss_ret (se_listZip (mu := true) rfl nm.n_list nm.n_zip (sa_cons (se_ix (se_var 0) se_int) (sa_cons (se_ix (se_var 0) se_int) sa_nil)))))
def m_rulings_of : MS := (mSeq (mDrop (mFn 1 F_want_book (mCons (mVar 0) mNil) []))
  (mSeq (mDrop (mFn 2 F_want_own_case (mCons (mVar 0) (mCons (mVar 1) mNil)) []))
  (mRet (mFn 1 F_rulings_in (mCons (mVar 1) mNil) []))))
def F_rulings_of : List D → Sto → R D := runB finM 2 m_rulings_of
theorem sc_rulings_of : FnScope [("book" : Str), ("case" : Str)] [("book" : Str), ("case" : Str)] (defScope (HeadX.top 37)) := ⟨rfl, rfl, rfl, by decide +kernel, rfl, by decide +kernel, by decide +kernel⟩
theorem g_rulings_of {P : Program} {w : World} {K : PySem.W.Frag} {mg : Str → Option Value} {base : Heap} (nm : Nm mg) (c_want_book : Fnx P w K mg base 6 ("want_book" : Str) (HeadX.top 23) [("book" : Str)] F_want_book) (c_want_own_case : Fnx P w K mg base 6 ("want_own_case" : Str) (HeadX.top 34) [("book" : Str), ("case" : Str)] F_want_own_case) (c_rulings_in : Fnx P w K mg base 1 ("rulings_in" : Str) (HeadX.top 29) [("case" : Str)] F_rulings_in) (F : FunX K mg ("rulings_of" : Str) (HeadX.top 37)) :
    Fnx P w K mg base 7 ("rulings_of" : Str) (HeadX.top 37) [("book" : Str), ("case" : Str)] F_rulings_of := by
  refine fnx (k := 6) F sc_rulings_of fo_finM (fun _ _ _ _ _ _ us hl => match us, hl with | [_, _], _ => rfl) rfl fun f cdv A outer s H E hr hgd => ?_
  unfold m_rulings_of
  exact (sss_cons (ss_expr (se_callF (j := 6) (k := 6) (ps := [("book" : Str)]) (st := HeadX.top 23) (F := F_want_book) c_want_book hr hgd body_passes (sa_cons (se_var 0) sa_nil)))
  (sss_cons (ss_expr (se_callF (j := 6) (k := 6) (ps := [("book" : Str), ("case" : Str)]) (st := HeadX.top 34) (F := F_want_own_case) c_want_own_case hr hgd body_passes (sa_cons (se_var 0) (sa_cons (se_var 1) sa_nil))))
  (sss_one (ss_ret (se_callF (j := 1) (k := 6) (ps := [("case" : Str)]) (st := HeadX.top 29) (F := F_rulings_in) c_rulings_in hr hgd body_passes (sa_cons (se_var 1) sa_nil))))))
def m_lw_right : MS := (mSeq (mAsg (mFn 4 F_lw_book (mCons (mVar 0) (mCons (mC (.v (.int 4))) (mCons (mC (.v (.int 3))) (mCons (mC (.v (.int 4))) mNil)))) []) (gNm 1))
  (mSeq (mAsg (mFn 2 F_lw_pick (mCons (mVar 0) (mCons (mLst (mCons (mTup mNil) (mCons (mTup (mCons (mC (.v (.int 0))) mNil)) (mCons (mTup (mCons (mC (.v (.int 3))) mNil)) (mCons (mTup (mCons (mC (.v (.int 0))) (mCons (mC (.v (.int 2))) (mCons (mC (.v (.int 5))) mNil)))) (mCons (mTup (mCons (mC (.v (.int 7))) (mCons (mBin opPow (mC (.v (.int 10))) (mC (.v (.int 29)))) mNil))) (mCons (mTup (mCons (mC (.v (.int 23))) (mCons (mC (.v (.int 24))) mNil))) mNil))))))) mNil)) []) (gNm 2))
  (mSeq (mParN [6, 7] (mCons (mFn 3 F_lw_case (mCons (mVar 0) (mCons (mVar 1) (mCons (mVar 2) mNil))) []) (mCons (mFn 4 F_lw_book (mCons (mVar 0) (mCons (mC (.v (.int 3))) (mCons (mC (.v (.int 3))) (mCons (mC (.v (.int 3))) mNil)))) []) mNil)))
  (mSeq (mAsg (mLst (mCons (mVar 6) (mCons (mCall fList (mCons (mVar 6) mNil)) (mCons (mSlice (mVar 6) mNoP (mPart (mC (.v (.int 5))))) (mCons (mBin opAdd (mVar 6) (mTup (mCons (mC (.v (.int 0))) mNil))) (mCons (mBin opAdd (mTup (mCons (mC (.v (.str ("house" : Str)))) mNil)) (mSlice (mVar 6) (mPart (mC (.v (.int 1)))) mNoP)) (mCons (mC (.v .none)) (mCons (mC (.v (.int 0))) (mCons (mC (.v (.str ("case" : Str)))) (mCons (mTup mNil) (mCons (mC (.v (.dict []))) (mCons (mTup (mCons (mVar 6) mNil)) (mCons (mFn 3 F_lw_case (mCons (mVar 0) (mCons (mVar 7) (mCons (mTup mNil) mNil))) []) mNil))))))))))))) (gNm 3))
  (mSeq (mAsg (mBin opAdd (mBin opAdd (mVar 3) (fun env st => (mLc (mItR1 (mCons (mC (.v (.int 3))) mNil)) (gNm 12) mYes (mFn 3 F_lw_case (mCons (mVar 0) (mCons (mVar 1) (mCons (mTup (mCons (mC (.v (.int 4))) mNil)) mNil))) []) [12] env st).bind finF)) (fun env st => (mLc (mItR1 (mCons (mC (.v (.int 24))) mNil)) (gNm 12) mYes (mFn 2 F_lw_deep (mCons (mVar 0) (mCons (mVar 6) mNil)) []) [12] env st).bind finF)) (gNm 3))
  (mSeq (mAsg (mBin opAdd (mVar 3) (fun env st => (mLc (mItR1 (mCons (mC (.v (.int 8))) mNil)) (gNm 12) mYes (mIf (mCmpT opEq (mFn 2 F_lw_draw (mCons (mVar 0) (mCons (mC (.v (.int 2))) mNil)) []) (mC (.v (.int 0)))) (mFn 2 F_lw_deep (mCons (mVar 0) (mCons (mFn 2 F_lw_deep (mCons (mVar 0) (mCons (mVar 6) mNil)) []) mNil)) []) (mFn 2 F_lw_bent (mCons (mVar 0) (mCons (mVar 6) mNil)) [])) [12] env st).bind finF)) (gNm 3))
  (mSeq (mAsg (mCall fRepr (mCons (mVar 1) mNil)) (gNm 4))
  (mSeq (mIfS (mCmpT (opIsN true) (mFn 2 F_lw_flaw (mCons (mVar 1) (mCons (mVar 6) mNil)) []) (mC (.v .none))) (mRet (mC (.v (.bool false)))) mSkip)
  (mSeq (mFor (mItS (mVar 3)) (gNm 5) (mSeq (mPar2 9 10 (mCons (mFn 2 F_lw_flaw (mCons (mVar 1) (mCons (mVar 5) mNil)) []) (mCons (mCall fRepr (mCons (mVar 5) mNil)) mNil)))
  (mSeq (mAsg (mLstM (mCons (mFn 2 F_case_flaw (mCons (mVar 1) (mCons (mVar 5) mNil)) []) (mCons (mFn 2 F_is_case (mCons (mVar 1) (mCons (mVar 5) mNil)) []) (mCons (mFnK 2 [1, 0] F_case_flaw mNil (mCons (mVar 5) (mCons (mVar 1) mNil)) 0 2) (mCons (mFnK 2 [1, 0] F_is_case mNil (mCons (mVar 5) (mCons (mVar 1) mNil)) 0 2) mNil))))) (gNm 8))
  (mSeq (mIfS (mOrT (mCmpT opNe (mCall fRepr (mCons (mVar 8) mNil)) (mCall fRepr (mCons (mBin opMul (mLst (mCons (mVar 9) (mCons (mBin (opIsN false) (mVar 9) (mC (.v .none))) mNil))) (mC (.v (.int 2)))) mNil))) (mCmpT opNe (mCall fRepr (mCons (mVar 5) mNil)) (mVar 10))) (mRet (mC (.v (.bool false)))) mSkip)
  (mIfS (mCmpT (opIsN false) (mVar 9) (mC (.v .none))) (mSeq (mAsg (fun env st => (mLc (mItZ2 (mCons (mBin opIx (mVar 5) (mC (.v (.int 4)))) (mCons (mBin opIx (mVar 5) (mC (.v (.int 3)))) mNil))) (gTu 2 (gCons (gNm 13) (gCons (gNm 14) gNil))) mYes (mTup (mCons (mVar 13) (mCons (mVar 14) mNil))) [13, 14] env st).bind finF) (gNm 11))
  (mSeq (mAsg (mFn 2 F_rulings_of (mCons (mVar 1) (mCons (mVar 5) mNil)) []) (gNm 8))
  (mSeq (mIfS (mCmpT opNe (mReprL (mCons (mVar 8) (mCons (mFnK 2 [1, 0] F_rulings_of mNil (mCons (mVar 5) (mCons (mVar 1) mNil)) 0 2) mNil))) (mCall fRepr (mCons (mLst (mCons (mVar 11) (mCons (mVar 11) mNil))) mNil))) (mRet (mC (.v (.bool false)))) mSkip)
  (mSeq (mDrop (mMeth fAppend (mVar 8) (mCons (mC (.v .none)) mNil)))
  (mIfS (mCmpT opNe (mCall fRepr (mCons (mFn 2 F_rulings_of (mCons (mVar 1) (mCons (mVar 5) mNil)) []) mNil)) (mCall fRepr (mCons (mVar 11) mNil))) (mRet (mC (.v (.bool false)))) mSkip))))) mSkip)))))
  (mRet (mBin opEq (mCall fRepr (mCons (mVar 1) mNil)) (mVar 4))))))))))))
def F_lw_right : List D → Sto → R D := runB fin 15 m_lw_right
theorem sc_lw_right : FnScope [("pot" : Str), ("book" : Str), ("struck" : Str), ("values" : Str), ("shown" : Str), ("value" : Str), ("case" : Str), ("other" : Str), ("told" : Str), ("due" : Str), ("looks" : Str), ("rulings" : Str), ("time" : Str), ("reason" : Str), ("side" : Str)] [("pot" : Str)] (defScope (HeadX.top 57)) := ⟨rfl, rfl, rfl, by decide +kernel, rfl, by decide +kernel, by decide +kernel⟩
theorem g_lw_right {P : Program} {w : World} {K : PySem.W.Frag} {mg : Str → Option Value} {base : Heap} (nm : Nm mg) (c_lw_book : Fnx P w K mg base 4 ("_law_book" : Str) (HeadX.top 43) [("pot" : Str), ("most_facts" : Str), ("most_issues" : Str), ("most_courts" : Str)] F_lw_book) (c_lw_pick : Fnx P w K mg base 2 ("_law_pick" : Str) (HeadX.top 41) [("pot" : Str), ("some" : Str)] F_lw_pick) (c_lw_case : Fnx P w K mg base 3 ("_law_case" : Str) (HeadX.top 49) [("pot" : Str), ("book" : Str), ("struck" : Str)] F_lw_case) (c_lw_deep : Fnx P w K mg base 5 ("_law_deep" : Str) (HeadX.top 56) [("pot" : Str), ("case" : Str)] F_lw_deep) (c_lw_draw : Fnx P w K mg base 1 ("_law_draw" : Str) (HeadX.top 40) [("pot" : Str), ("size" : Str)] F_lw_draw) (c_lw_bent : Fnx P w K mg base 4 ("_law_bent" : Str) (HeadX.top 55) [("pot" : Str), ("value" : Str)] F_lw_bent) (c_lw_flaw : Fnx P w K mg base 4 ("_law_flaw" : Str) (HeadX.top 53) [("book" : Str), ("value" : Str)] F_lw_flaw) (c_is_case : Fnx P w K mg base 7 ("is_case" : Str) (HeadX.top 35) [("book" : Str), ("value" : Str)] F_is_case) (c_case_flaw : Fnx P w K mg base 7 ("case_flaw" : Str) (HeadX.top 36) [("book" : Str), ("value" : Str)] F_case_flaw) (c_rulings_of : Fnx P w K mg base 7 ("rulings_of" : Str) (HeadX.top 37) [("book" : Str), ("case" : Str)] F_rulings_of) (F : FunX K mg ("_law_right" : Str) (HeadX.top 57)) :
    Fnx P w K mg base 8 ("_law_right" : Str) (HeadX.top 57) [("pot" : Str)] F_lw_right := by
  refine fnx (k := 7) F sc_lw_right fo_fin (fun _ _ _ _ _ _ us hl => match us, hl with | [_], _ => rfl) rfl fun f cdv A outer s H E hr hgd => ?_
  unfold m_lw_right
  exact (sss_cons (ss_set 1 (se_callF (j := 4) (k := 7) (ps := [("pot" : Str), ("most_facts" : Str), ("most_issues" : Str), ("most_courts" : Str)]) (st := HeadX.top 43) (F := F_lw_book) c_lw_book hr hgd body_passes (sa_cons (se_var 0) (sa_cons se_int (sa_cons se_int (sa_cons se_int sa_nil))))) sc_lw_right.nd)
  (sss_cons (ss_set 2 (se_callF (j := 2) (k := 7) (ps := [("pot" : Str), ("some" : Str)]) (st := HeadX.top 41) (F := F_lw_pick) c_lw_pick hr hgd body_passes (sa_cons (se_var 0) (sa_cons (se_lst (sa_cons (se_tup sa_nil) (sa_cons (se_tup (sa_cons se_int sa_nil)) (sa_cons (se_tup (sa_cons se_int sa_nil)) (sa_cons (se_tup (sa_cons se_int (sa_cons se_int (sa_cons se_int sa_nil)))) (sa_cons (se_tup (sa_cons se_int (sa_cons (se_pow se_int se_int) sa_nil))) (sa_cons (se_tup (sa_cons se_int (sa_cons se_int sa_nil))) sa_nil))))))) sa_nil))) sc_lw_right.nd)
  (sss_cons (ss_parN (sa_cons (se_callF (j := 3) (k := 7) (ps := [("pot" : Str), ("book" : Str), ("struck" : Str)]) (st := HeadX.top 49) (F := F_lw_case) c_lw_case hr hgd body_passes (sa_cons (se_var 0) (sa_cons (se_var 1) (sa_cons (se_var 2) sa_nil)))) (sa_cons (se_callF (j := 4) (k := 7) (ps := [("pot" : Str), ("most_facts" : Str), ("most_issues" : Str), ("most_courts" : Str)]) (st := HeadX.top 43) (F := F_lw_book) c_lw_book hr hgd body_passes (sa_cons (se_var 0) (sa_cons se_int (sa_cons se_int (sa_cons se_int sa_nil))))) sa_nil)) rfl (sgd_cons 6 (sgd_cons 7 sgd_nil sc_lw_right.nd) sc_lw_right.nd))
  (sss_cons (ss_set 3 (se_lst (sa_cons (se_var 6) (sa_cons (se_callTy oc_list call_list_of nm.n_list bt_list (sa_cons (se_var 6) sa_nil)) (sa_cons (se_slice (se_var 6) so_none (so_some se_int)) (sa_cons (se_add (se_var 6) (se_tup (sa_cons se_int sa_nil))) (sa_cons (se_add (se_tup (sa_cons se_str sa_nil)) (se_slice (se_var 6) (so_some se_int) so_none)) (sa_cons se_non (sa_cons se_int (sa_cons se_str (sa_cons (se_tup sa_nil) (sa_cons se_dict0 (sa_cons (se_tup (sa_cons (se_var 6) sa_nil)) (sa_cons (se_callF (j := 3) (k := 7) (ps := [("pot" : Str), ("book" : Str), ("struck" : Str)]) (st := HeadX.top 49) (F := F_lw_case) c_lw_case hr hgd body_passes (sa_cons (se_var 0) (sa_cons (se_var 7) (sa_cons (se_tup sa_nil) sa_nil)))) sa_nil))))))))))))) sc_lw_right.nd)
  (sss_cons (ss_set 3 (se_add (se_add (se_var 3) (se_lcG (own := [(("time" : Str), 12)]) fin_frz rfl sc_lw_right.nd (si_rg1 nm.n_range (sa_cons se_int sa_nil)) (blk_ok (by kernel_rfl)) (fun _ _ _ _ _ => by exact (sg_name 12 sc_lw_right.nd)) q_name (by decide) (fun _ _ _ _ _ => by exact sts_nil) (fun _ _ _ _ _ => by exact (se_callF (j := 3) (k := 7) (ps := [("pot" : Str), ("book" : Str), ("struck" : Str)]) (st := HeadX.top 49) (F := F_lw_case) c_lw_case hr hgd passL (sa_cons (se_var 0) (sa_cons (se_var 1) (sa_cons (se_tup (sa_cons se_int sa_nil)) sa_nil))))))) (se_lcG (own := [(("time" : Str), 12)]) fin_frz rfl sc_lw_right.nd (si_rg1 nm.n_range (sa_cons se_int sa_nil)) (blk_ok (by kernel_rfl)) (fun _ _ _ _ _ => by exact (sg_name 12 sc_lw_right.nd)) q_name (by decide) (fun _ _ _ _ _ => by exact sts_nil) (fun _ _ _ _ _ => by exact (se_callF (j := 5) (k := 7) (ps := [("pot" : Str), ("case" : Str)]) (st := HeadX.top 56) (F := F_lw_deep) c_lw_deep hr hgd passL (sa_cons (se_var 0) (sa_cons (se_var 6) sa_nil)))))) sc_lw_right.nd)
  (sss_cons (ss_set 3 (se_add (se_var 3) (se_lcG (own := [(("time" : Str), 12)]) fin_frz rfl sc_lw_right.nd (si_rg1 nm.n_range (sa_cons se_int sa_nil)) (blk_ok (by kernel_rfl)) (fun _ _ _ _ _ => by exact (sg_name 12 sc_lw_right.nd)) q_name (by decide) (fun _ _ _ _ _ => by exact sts_nil) (fun _ _ _ _ _ => by exact (se_if (st_eq (hu64 hr) (se_callF (j := 1) (k := 7) (ps := [("pot" : Str), ("size" : Str)]) (st := HeadX.top 40) (F := F_lw_draw) c_lw_draw hr hgd passL (sa_cons (se_var 0) (sa_cons se_int sa_nil))) se_int) (se_callF (j := 5) (k := 7) (ps := [("pot" : Str), ("case" : Str)]) (st := HeadX.top 56) (F := F_lw_deep) c_lw_deep hr hgd passL (sa_cons (se_var 0) (sa_cons (se_callF (j := 5) (k := 7) (ps := [("pot" : Str), ("case" : Str)]) (st := HeadX.top 56) (F := F_lw_deep) c_lw_deep hr hgd passL (sa_cons (se_var 0) (sa_cons (se_var 6) sa_nil))) sa_nil))) (se_callF (j := 4) (k := 7) (ps := [("pot" : Str), ("value" : Str)]) (st := HeadX.top 55) (F := F_lw_bent) c_lw_bent hr hgd passL (sa_cons (se_var 0) (sa_cons (se_var 6) sa_nil))))))) sc_lw_right.nd)
  (sss_cons (ss_set 4 (se_callB oc_repr (call_reprX hgd (hu65 hr)) nm.n_repr bb_repr (sa_cons (se_var 1) sa_nil)) sc_lw_right.nd)
  (sss_cons (ss_if (st_isnot (se_callF (j := 4) (k := 7) (ps := [("book" : Str), ("value" : Str)]) (st := HeadX.top 53) (F := F_lw_flaw) c_lw_flaw hr hgd body_passes (sa_cons (se_var 1) (sa_cons (se_var 6) sa_nil))) se_non) (sss_one (ss_ret se_bl)) sss_nil)
  (sss_cons (ss_for body_own rfl (si_seq (se_var 3)) (sg_name 5 sc_lw_right.nd) q_name (sss_cons (ss_par2 (i := 9) (j := 10) (sa_cons (se_callF (j := 4) (k := 7) (ps := [("book" : Str), ("value" : Str)]) (st := HeadX.top 53) (F := F_lw_flaw) c_lw_flaw hr hgd body_passes (sa_cons (se_var 1) (sa_cons (se_var 5) sa_nil))) (sa_cons (se_callB oc_repr (call_reprX hgd (hu65 hr)) nm.n_repr bb_repr (sa_cons (se_var 5) sa_nil)) sa_nil)) rfl sc_lw_right.nd)
  (sss_cons (ss_set 8 (se_lstM (sa_cons (se_callF (j := 7) (k := 7) (ps := [("book" : Str), ("value" : Str)]) (st := HeadX.top 36) (F := F_case_flaw) c_case_flaw hr hgd body_passes (sa_cons (se_var 1) (sa_cons (se_var 5) sa_nil))) (sa_cons (se_callF (j := 7) (k := 7) (ps := [("book" : Str), ("value" : Str)]) (st := HeadX.top 35) (F := F_is_case) c_is_case hr hgd body_passes (sa_cons (se_var 1) (sa_cons (se_var 5) sa_nil))) (sa_cons (se_callFK0 (j := 7) (k := 7) (ps := [("book" : Str), ("value" : Str)]) (st := HeadX.top 36) (F := F_case_flaw) (ks := [("value" : Str), ("book" : Str)]) (perm := [1, 0]) c_case_flaw hr hgd body_passes (sk_cons (se_var 5) (sk_cons (se_var 1) sk_nil)) (fun _ _ _ _ _ _ us ws hl hw => match us, ws, hl, hw with | [], [_, _], _, _ => rfl)) (sa_cons (se_callFK0 (j := 7) (k := 7) (ps := [("book" : Str), ("value" : Str)]) (st := HeadX.top 35) (F := F_is_case) (ks := [("value" : Str), ("book" : Str)]) (perm := [1, 0]) c_is_case hr hgd body_passes (sk_cons (se_var 5) (sk_cons (se_var 1) sk_nil)) (fun _ _ _ _ _ _ us ws hl hw => match us, ws, hl, hw with | [], [_, _], _, _ => rfl)) sa_nil))))) sc_lw_right.nd)
  (sss_cons (ss_if (SW.st (sw_or (st_ne (hu64 hr) (se_callB oc_repr (call_reprX hgd (hu65 hr)) nm.n_repr bb_repr (sa_cons (se_var 8) sa_nil)) (se_callB oc_repr (call_reprX hgd (hu65 hr)) nm.n_repr bb_repr (sa_cons (se_mul (se_lst (sa_cons (se_var 9) (sa_cons (se_is (se_var 9) se_non) sa_nil))) se_int) sa_nil))) (sw_or1 (st_ne (hu64 hr) (se_callB oc_repr (call_reprX hgd (hu65 hr)) nm.n_repr bb_repr (sa_cons (se_var 5) sa_nil)) (se_var 10))))) (sss_one (ss_ret se_bl)) sss_nil)
  (sss_one (ss_if (st_is (se_var 9) se_non) (sss_cons (ss_setLcG (own := [(("reason" : Str), 13), (("side" : Str), 14)]) fin_frz 11 rfl sc_lw_right.nd (si_z2 nm.n_zip (sa_cons (se_ix (se_var 5) se_int) (sa_cons (se_ix (se_var 5) se_int) sa_nil))) (blk_ok (by kernel_rfl)) (fun _ _ _ _ _ => by exact (sg_tup rfl (sgs_cons (sg_name 13 sc_lw_right.nd) (sgs_cons (sg_name 14 sc_lw_right.nd) sgs_nil)))) (q_tu (q_cons q_name (q_cons q_name q_nil))) (by decide) (fun _ _ _ _ _ => by exact sts_nil) (fun _ _ _ _ _ => by exact (se_tup (sa_cons (se_var 13) (sa_cons (se_var 14) sa_nil)))) (by rfl))
  (sss_cons (ss_set 8 (se_callF (j := 7) (k := 7) (ps := [("book" : Str), ("case" : Str)]) (st := HeadX.top 37) (F := F_rulings_of) c_rulings_of hr hgd body_passes (sa_cons (se_var 1) (sa_cons (se_var 5) sa_nil))) sc_lw_right.nd)
  (sss_cons (ss_if (st_ne (hu64 hr) (se_reprL hgd (hu65 hr) nm.n_repr bb_repr (sa_cons (se_var 8) (sa_cons (se_callFK0 (j := 7) (k := 7) (ps := [("book" : Str), ("case" : Str)]) (st := HeadX.top 37) (F := F_rulings_of) (ks := [("case" : Str), ("book" : Str)]) (perm := [1, 0]) c_rulings_of hr hgd body_passes (sk_cons (se_var 5) (sk_cons (se_var 1) sk_nil)) (fun _ _ _ _ _ _ us ws hl hw => match us, ws, hl, hw with | [], [_, _], _, _ => rfl)) sa_nil))) (se_callB oc_repr (call_reprX hgd (hu65 hr)) nm.n_repr bb_repr (sa_cons (se_lst (sa_cons (se_var 11) (sa_cons (se_var 11) sa_nil))) sa_nil))) (sss_one (ss_ret se_bl)) sss_nil)
  (sss_cons (ss_expr (se_bm om_append sl_append (by kernel_rfl) mt_append (se_var 8) (sa_cons se_non sa_nil)))
  (sss_one (ss_if (st_ne (hu64 hr) (se_callB oc_repr (call_reprX hgd (hu65 hr)) nm.n_repr bb_repr (sa_cons (se_callF (j := 7) (k := 7) (ps := [("book" : Str), ("case" : Str)]) (st := HeadX.top 37) (F := F_rulings_of) c_rulings_of hr hgd body_passes (sa_cons (se_var 1) (sa_cons (se_var 5) sa_nil))) sa_nil)) (se_callB oc_repr (call_reprX hgd (hu65 hr)) nm.n_repr bb_repr (sa_cons (se_var 11) sa_nil))) (sss_one (ss_ret se_bl)) sss_nil)))))) sss_nil))))))
  (sss_one (ss_ret (se_eq (hu64 hr) (se_callB oc_repr (call_reprX hgd (hu65 hr)) nm.n_repr bb_repr (sa_cons (se_var 1) sa_nil)) (se_var 4)))))))))))))
def m_lw_pot : MS := (mSeq (mAsg (mIf (mCmpT opLt (mVar 1) (mCall fLen (mCons (mVar 0) mNil))) (mCall fAbs (mCons (mBin opIx (mVar 0) (mVar 1)) mNil)) (mBin opAdd (mBin opAdd (mBin opMul (mC (.v (.int 1277))) (mVar 1)) (mC (.v (.int 563)))) (mBin opMod (mCall fInt (mCons (mCall fSum (mCons (mSlice (mVar 0) mNoP (mPart (mC (.v (.int 1))))) mNil)) mNil)) (mC (.v (.int 1000003)))))) (gNm 2))
  (mRet (mLstM (mCons (mCall fMax2 (mCons (mC (.v (.int 0))) (mCons (mBin opSub (mVar 2) (mBin opPow (mC (.v (.int 10))) (mC (.v (.int 18))))) mNil))) (mCons (mBin opAdd (mBin opMod (mCall fInt (mCons (mBin opAdd (mBin opAdd (mBin opMul (mBin opMod (mCall fInt (mCons (mVar 2) mNil)) (mC (.v (.int 2147483549)))) (mC (.v (.int 40531)))) (mBin opMul (mC (.v (.int 8101))) (mVar 1))) (mC (.v (.int 89)))) mNil)) (mC (.v (.int 2147483563)))) (mC (.v (.int 1)))) mNil)))))
def F_lw_pot : List D → Sto → R D := runB finM 3 m_lw_pot
theorem sc_lw_pot : FnScope [("script" : Str), ("k" : Str), ("cell" : Str)] [("script" : Str), ("k" : Str)] (defScope (HeadX.top 39)) := ⟨rfl, rfl, rfl, by decide +kernel, rfl, by decide +kernel, by decide +kernel⟩
theorem g_lw_pot {P : Program} {w : World} {K : PySem.W.Frag} {mg : Str → Option Value} {base : Heap} (nm : Nm mg)  (F : FunX K mg ("_law_pot" : Str) (HeadX.top 39)) :
    Fnx P w K mg base 1 ("_law_pot" : Str) (HeadX.top 39) [("script" : Str), ("k" : Str)] F_lw_pot := by
  refine fnx (k := 0) F sc_lw_pot fo_finM (fun _ _ _ _ _ _ us hl => match us, hl with | [_, _], _ => rfl) rfl fun f cdv A outer s H E hr hgd => ?_
  unfold m_lw_pot
  exact (sss_cons (ss_set 2 (se_if (st_lt (se_var 1) (se_callB oc_len call_len nm.n_len bb_len (sa_cons (se_var 0) sa_nil))) (se_callB oc_abs call_abs nm.n_abs bb_abs (sa_cons (se_ix (se_var 0) (se_var 1)) sa_nil)) (se_add (se_add (se_mul se_int (se_var 1)) se_int) (se_mod (se_callTy oc_int call_int1 nm.n_int bt_int (sa_cons (se_callB oc_sum (cr_sum rfl) nm.n_sum bb_sum (sa_cons (se_slice (se_var 0) so_none (so_some se_int)) sa_nil)) sa_nil)) se_int))) sc_lw_pot.nd)
  (sss_one (ss_ret (se_lstM (sa_cons (se_callB oc_max2 (call_max2 rfl) nm.n_max bb_max (sa_cons se_int (sa_cons (se_sub (se_var 2) (se_pow se_int se_int)) sa_nil))) (sa_cons (se_add (se_mod (se_callTy oc_int call_int1 nm.n_int bt_int (sa_cons (se_add (se_add (se_mul (se_mod (se_callTy oc_int call_int1 nm.n_int bt_int (sa_cons (se_var 2) sa_nil)) se_int) se_int) (se_mul se_int (se_var 1))) se_int) sa_nil)) se_int) se_int) sa_nil))))))
def m_law : MS := (mRet (mCall fAll (mCons (fun env st => (mLc (mItR1 (mCons (mC (.v (.int 3))) mNil)) (gNm 1) mYes (mFn 1 F_lw_right (mCons (mFn 2 F_lw_pot (mCons (mVar 0) (mCons (mVar 1) mNil)) []) mNil) []) [1] env st).bind finF) mNil)))
def F_law : List D → Sto → R D := runB fin 2 m_law
theorem sc_law : FnScope [("script" : Str), ("turn" : Str)] [("script" : Str)] (defScope (HeadX.top 58)) := ⟨rfl, rfl, rfl, by decide +kernel, rfl, by decide +kernel, by decide +kernel⟩
theorem g_law {P : Program} {w : World} {K : PySem.W.Frag} {mg : Str → Option Value} {base : Heap} (nm : Nm mg) (c_lw_right : Fnx P w K mg base 8 ("_law_right" : Str) (HeadX.top 57) [("pot" : Str)] F_lw_right) (c_lw_pot : Fnx P w K mg base 1 ("_law_pot" : Str) (HeadX.top 39) [("script" : Str), ("k" : Str)] F_lw_pot) (F : FunX K mg ("law" : Str) (HeadX.top 58)) :
    Fnx P w K mg base 9 ("law" : Str) (HeadX.top 58) [("script" : Str)] F_law := by
  refine fnx (k := 8) F sc_law fo_fin (fun _ _ _ _ _ _ us hl => match us, hl with | [_], _ => rfl) rfl fun f cdv A outer s H E hr hgd => ?_
  unfold m_law
  exact (sss_one (ss_ret (se_callB oc_all (cr_all rfl) nm.n_all bb_all (sa_cons (se_lcG (own := [(("turn" : Str), 1)]) fin_frz rfl sc_law.nd (si_rg1 nm.n_range (sa_cons se_int sa_nil)) (blk_ok (by kernel_rfl)) (fun _ _ _ _ _ => by exact (sg_name 1 sc_law.nd)) q_name (by decide) (fun _ _ _ _ _ => by exact sts_nil) (fun _ _ _ _ _ => by exact (se_callF (j := 8) (k := 8) (ps := [("pot" : Str)]) (st := HeadX.top 57) (F := F_lw_right) c_lw_right hr hgd passL (sa_cons (se_callF (j := 1) (k := 8) (ps := [("script" : Str), ("k" : Str)]) (st := HeadX.top 39) (F := F_lw_pot) c_lw_pot hr hgd passL (sa_cons (se_var 0) (sa_cons (se_var 1) sa_nil))) sa_nil)))) sa_nil))))
end
end Law

namespace Law
open PySem PL
open L2 (atI ixN CDiv CMul CPow)
/-! ### the pot -/
def PotO (o : MO) : Prop := ∃ a b : Int, o = .lst [.int a, .int b] ∧ 0 ≤ a ∧ 0 ≤ b ∧ b < 2 ^ 40
def PotR (n : Nat) (st : Sto) (P : T → Prop) : D → Sto → Prop := fun d s => ∃ t p, d = .v t ∧ s = st.set n p ∧ PotO p ∧ P t
theorem ixi {α : Type} {l : List α} {i : Nat} {x : α} (h : l[i]? = some x) : atI l (i : Int) = some x := by
  have := (List.getElem?_eq_some_iff.mp h).1
  have h2 : ixN l.length (i : Int) = some i := by unfold ixN; rw [if_pos (by omega), if_pos (by omega)]; simp
  unfold atI
  rw [h2]; exact h
theorem ix0 {α : Type} {a : α} {l : List α} : atI (a :: l) 0 = some a := ixi (i := 0) rfl
theorem ix1 {α : Type} {a b : α} {l : List α} : atI (a :: b :: l) 1 = some b := ixi (i := 1) rfl
theorem ix2 {α : Type} {a b c : α} {l : List α} : atI (a :: b :: c :: l) 2 = some c := ixi (i := 2) rfl
theorem ix3 {α : Type} {a b c d : α} {l : List α} : atI (a :: b :: c :: d :: l) 3 = some d := ixi (i := 3) rfl
theorem ixn0 {n : Nat} : ixN (n + 1) 0 = some 0 := by simp [ixN]
theorem ixn1 {n : Nat} : ixN (n + 2) 1 = some 1 := by simp [ixN]; omega
theorem take_set {st : Sto} {n : Nat} {p : MO} : List.take (List.length st) (List.set st n p) = List.set st n p := List.take_of_length_le (by simp)
theorem draw_ok {st : Sto} {n : Nat} {p : MO} {s : Int} (h : st[n]? = some p) (hp : PotO p) (hs : 0 < s) (hs2 : s < 1073741824) : EvO (F_lw_draw [.ref n, .v (.int s)] st) (PotR n st fun t => ∃ d : Int, t = .int d ∧ 0 ≤ d ∧ d < s) := by
  obtain ⟨a, b, rfl, ha, hb, hb2⟩ := hp
  have hn : n < st.length := (List.getElem?_eq_some_iff.mp h).1
  have hset : ∀ x : MO, (List.set st n x)[n]? = some x := fun x => by rw [List.getElem?_set_self hn]
  unfold F_lw_draw m_lw_draw
  simp only [w_ok, w_bad, w_bind, w_bindN, w_toS, w_itb, w_var, w_c, w_bin, w_un, w_cmpT, w_mB, w_chain, w_tru, w_andT, w_orT, w_notT, w_andV, w_orV, w_notV, w_if, w_nil, w_cons, w_tup, w_lst, w_lstM, w_call, w_fn, w_fnK, w_meth, w_noP, w_part, w_slice, w_rg1, w_lstRgM, w_lstRg, w_tupRg, w_gNm, w_gTu, w_gNil, w_gCons, w_gSb, w_skip, w_seq, w_asg, w_ret, w_drop, w_ifS, w_par2, w_par3, w_parN, w_runB, w_finV, w_finM, List.map, List.replicate, List.length, List.cons_append, List.nil_append, List.append_nil, List.getElem?_cons_zero, List.getElem?_cons_succ, List.set_cons_zero, List.set_cons_succ, setAll, pureTs, Option.map , opIx, asSeq, asL, asLt, opI0, opI, opAdd, opMul, opMod, opDiv, opPow, fDivmod, fInt, fAbs, fMax2, fMin2, fSum, onInts, ix0, ix1, ix2, ix3, ixn0, ixn1, h, hset, take_set]
  split
  · rename_i hc
    have hc := of_decide_eq_true hc
    refine ⟨⟨hs, hs2⟩, trivial, _, _, rfl, rfl, ⟨_, _, rfl, Int.ediv_nonneg ha (by omega), hb, hb2⟩, _, rfl, Int.emod_nonneg _ (by omega), Int.emod_lt_of_pos _ hs⟩
  · have m1 := Int.emod_nonneg (b * 41358 + 8101) (show (2147483587 : Int) ≠ 0 by decide)
    have m2 := Int.emod_lt_of_pos (b * 41358 + 8101) (show (0 : Int) < 2147483587 by decide)
    refine ⟨.inr (by decide), by decide, .inl (by omega), by decide, ⟨by decide, by decide⟩, hs, _, _, rfl, rfl, ⟨_, _, rfl, ha, m1, by omega⟩, _, rfl, Int.emod_nonneg _ (by omega), Int.emod_lt_of_pos _ hs⟩
/-! ### the checks -/
theorem eqn_of {r : R D} {x : D} {st : Sto} (h : EvO r fun d s => d = x ∧ s = st) : r = .ok x st := by
  obtain ⟨a, s, e, rfl, rfl⟩ := h.ex
  exact e
theorem take_all {st : Sto} : List.take (List.length st) st = st := List.take_length
theorem sh_int {i : Int} : SeqAt.shaped (.int i) = true := rfl
theorem sh_str {w : Str} (h : PyData.strOk w = true) : SeqAt.shaped (.str w) = true := by simp [SeqAt.shaped, PyData.canLay0, PyData.depth, h]
def isW (t : T) (a b : Int) : Bool := match t with
  | .int i => decide (a ≤ i) && decide (i ≤ b)
  | _ => false
theorem e_is_integer {t : T} {st : Sto} : F_is_integer [.v t] st = .ok (.v (.bool (match t with | .int _ => true | _ => false))) st := by
  apply eqn_of
  unfold F_is_integer m_is_integer
  cases t <;> simp [w_ok, w_bad, w_bind, w_bindN, w_toS, w_itb, w_var, w_c, w_bin, w_un, w_cmpT, w_mB, w_chain, w_tru, w_andT, w_orT, w_notT, w_andV, w_orV, w_notV, w_if, w_nil, w_cons, w_tup, w_lst, w_lstM, w_call, w_fn, w_fnK, w_meth, w_noP, w_part, w_slice, w_rg1, w_lstRgM, w_lstRg, w_tupRg, w_gNm, w_gTu, w_gNil, w_gCons, w_gSb, w_skip, w_seq, w_asg, w_ret, w_drop, w_ifS, w_par2, w_par3, w_parN, w_runB, w_finV, w_finM, List.map, List.replicate, List.length, List.cons_append, List.nil_append, List.append_nil, List.getElem?_cons_zero, List.getElem?_cons_succ, List.set_cons_zero, List.set_cons_succ, setAll, pureTs, Option.map, fIsi, tyD, tyT, subTy, truD, take_all]
theorem e_is_within {t : T} {a b : Int} {st : Sto} : F_is_within [.v t, .v (.int a), .v (.int b)] st = .ok (.v (.bool (isW t a b))) st := by
  apply eqn_of
  unfold F_is_within m_is_within
  cases t <;> simp [w_ok, w_bad, w_bind, w_bindN, w_toS, w_itb, w_var, w_c, w_bin, w_un, w_cmpT, w_mB, w_chain, w_tru, w_andT, w_orT, w_notT, w_andV, w_orV, w_notV, w_if, w_nil, w_cons, w_tup, w_lst, w_lstM, w_call, w_fn, w_fnK, w_meth, w_noP, w_part, w_slice, w_rg1, w_lstRgM, w_lstRg, w_tupRg, w_gNm, w_gTu, w_gNil, w_gCons, w_gSb, w_skip, w_seq, w_asg, w_ret, w_drop, w_ifS, w_par2, w_par3, w_parN, w_runB, w_finV, w_finM, List.map, List.replicate, List.length, List.cons_append, List.nil_append, List.append_nil, List.getElem?_cons_zero, List.getElem?_cons_succ, List.set_cons_zero, List.set_cons_succ, setAll, pureTs, Option.map, e_is_integer, truD, take_all, isW, opI0]
  split <;> simp_all <;> omega
theorem e_lw_number {t : T} {a b : Int} {st : Sto} : F_lw_number [.v t, .v (.int a), .v (.int b)] st = .ok (.v (.bool (isW t a b))) st := by
  apply eqn_of
  unfold F_lw_number m_lw_number
  cases t <;> simp [w_ok, w_bad, w_bind, w_bindN, w_toS, w_itb, w_var, w_c, w_bin, w_un, w_cmpT, w_mB, w_chain, w_tru, w_andT, w_orT, w_notT, w_andV, w_orV, w_notV, w_if, w_nil, w_cons, w_tup, w_lst, w_lstM, w_call, w_fn, w_fnK, w_meth, w_noP, w_part, w_slice, w_rg1, w_lstRgM, w_lstRg, w_tupRg, w_gNm, w_gTu, w_gNil, w_gCons, w_gSb, w_skip, w_seq, w_asg, w_ret, w_drop, w_ifS, w_par2, w_par3, w_parN, w_runB, w_finV, w_finM, List.map, List.replicate, List.length, List.cons_append, List.nil_append, List.append_nil, List.getElem?_cons_zero, List.getElem?_cons_succ, List.set_cons_zero, List.set_cons_succ, setAll, pureTs, Option.map, fIsi, tyD, tyT, subTy, truD, take_all, isW, opI0]
  split <;> simp_all <;> omega
end Law

namespace Law
open PySem PL
open L2 (atI ixN CDiv CMul CPow RgOk)
/-! #### walked lists -/
section
variable {α : Type} {QP : List T × Chk → Sto → Prop} {env : EnvD} {st : Sto}
theorem w_itS {m : ME D} : EvO (mItS m env st) QP = EvO (m env st) fun d s => match asSeq s d with
    | some ts => QP (ts, chkOf d ts) s
    | none => False := by
  unfold mItS; rw [w_bind]; congr; funext d s
  cases asSeq s d <;> rfl
theorem w_itE {m : ME (List D)} : EvO (mItE m env st) QP = EvO (m env st) fun ds s => match ds with
    | [d] => (match asSeq s d with
      | some ts => QP (enT 0 ts, chkOf d ts) s
      | none => False)
    | _ => False := by
  unfold mItE; rw [w_bind]; congr; funext ds s
  match ds with
  | [] => rfl
  | [d] => simp only; generalize asSeq s d = r; cases r <;> rfl
  | _ :: _ :: _ => rfl
theorem w_itR1 {m : ME (List D)} : EvO (mItR1 m env st) QP = EvO (m env st) fun ds s => match ds with
    | [.v (.int j)] => (-(2 ^ 62) ≤ j ∧ j < 2 ^ 62) ∧ QP (rgT 0 j, none) s
    | _ => False := by
  unfold mItR1; rw [w_bind]; congr; funext ds s
  match ds with
  | [] => rfl
  | [.v (.int j)] => exact w_itb
  | [.v .none] => rfl
  | [.v (.bool _)] => rfl
  | [.v (.str _)] => rfl
  | [.v (.list _)] => rfl
  | [.v (.tuple _)] => rfl
  | [.v (.dict _)] => rfl
  | [.ref _] => rfl
  | [.glo _] => rfl
  | [.ty _] => rfl
  | [.rol _] => rfl
  | x :: _ :: _ =>
    cases x with
    | v t => cases t <;> rfl
    | _ => rfl
theorem eqn_a {r : R α} {x : α} (h : EvO r fun d s => d = x ∧ s = st) : r = .ok x st := by
  obtain ⟨a, s, e, rfl, rfl⟩ := h.ex
  exact e
theorem lc_eq {g : MG} {e : ME D} (f : T → T) : ∀ (ts : List T), (∀ t ∈ ts, EvO (g (.v t) env st) fun e1 s1 => EvO (e e1 s1) fun d s3 => d = .v (f t) ∧ s3 = st) → lcGo none g mYes e env ts st = .ok (ts.map f) st
  | [], _ => rfl
  | t :: ts, ht => by
    have ih := lc_eq f ts fun t' h' => ht t' (List.mem_cons_of_mem _ h')
    apply eqn_a
    rw [w_lcC]
    refine EvO.imp (ht t List.mem_cons_self) fun e1 s1 q => ?_
    show EvO (.ok true s1) _
    rw [w_ok, if_pos rfl]
    refine EvO.imp q fun d s3 ⟨q1, q2⟩ => ?_
    subst q1 q2
    simp only [ih, w_ok, List.map_cons, and_self]
theorem lc_eqF {g : MG} {c : ME Bool} {e : ME D} (p : T → Bool) (f : T → T) : ∀ (ts : List T), (∀ t ∈ ts, EvO (g (.v t) env st) fun e1 s1 => EvO (c e1 s1) fun k s2 => k = p t ∧ s2 = st ∧ EvO (e e1 s2) fun d s3 => d = .v (f t) ∧ s3 = st) → lcGo none g c e env ts st = .ok ((ts.filter p).map f) st
  | [], _ => rfl
  | t :: ts, ht => by
    have ih := lc_eqF p f ts fun t' h' => ht t' (List.mem_cons_of_mem _ h')
    apply eqn_a
    rw [w_lcC]
    refine EvO.imp (ht t List.mem_cons_self) fun e1 s1 q => ?_
    refine EvO.imp q fun k s2 ⟨q1, q2, q3⟩ => ?_
    subst q2
    cases hk : p t with
    | true =>
      rw [hk] at q1
      subst q1
      rw [if_pos rfl]
      refine EvO.imp q3 fun d s3 ⟨q4, q5⟩ => ?_
      subst q4 q5
      simp only [ih, w_ok, List.filter_cons_of_pos hk, List.map_cons, and_self]
    | false =>
      rw [hk] at q1
      subst q1
      rw [if_neg Bool.false_ne_true, List.filter_cons_of_neg (by simp [hk])]
      simp only [ih, w_ok, and_self]
end
theorem boolsT_map {α : Type} (p : α → Bool) : ∀ ts : List α, boolsT (ts.map fun t => .bool (p t)) = some (ts.map p)
  | [] => rfl
  | t :: ts => by simp only [List.map_cons, boolsT, boolsT_map p ts, Option.map]
theorem all_map {α : Type} (p : α → Bool) (ts : List α) : (ts.map p).all id = ts.all p := by simp [List.all_map, Function.comp_def]
theorem e_is_tuple {t : T} {k : Int} {st : Sto} : F_is_tuple [.v t, .v (.int k)] st = .ok (.v (.bool (match t with | .tuple ts => (ts.length : Int) == k | _ => false))) st := by
  apply eqn_of
  unfold F_is_tuple m_is_tuple
  cases t <;> simp [w_ok, w_bad, w_bind, w_bindN, w_toS, w_itb, w_var, w_c, w_bin, w_un, w_cmpT, w_mB, w_chain, w_tru, w_andT, w_orT, w_notT, w_andV, w_orV, w_notV, w_if, w_nil, w_cons, w_tup, w_lst, w_lstM, w_call, w_fn, w_fnK, w_meth, w_noP, w_part, w_slice, w_rg1, w_lstRgM, w_lstRg, w_tupRg, w_gNm, w_gTu, w_gNil, w_gCons, w_gSb, w_skip, w_seq, w_asg, w_ret, w_drop, w_ifS, w_par2, w_par3, w_parN, w_runB, w_finV, w_finM, List.map, List.replicate, List.length, List.cons_append, List.nil_append, List.append_nil, List.getElem?_cons_zero, List.getElem?_cons_succ, List.set_cons_zero, List.set_cons_succ, setAll, pureTs, Option.map, fIsi, tyD, tyT, subTy, truD, take_all, fLen, asSeq, opEqB, toT, sh_int, PyData.eqv]
def mostsOk (t : T) : Bool := match t with
  | .tuple ts => decide (1 ≤ ts.length) && decide (ts.length ≤ 10) && ts.all fun t => isW t 1 9
  | _ => false
theorem small_len {n m : Nat} (h : n ≤ m) (hm : m ≤ 16777216 := by decide) : n ≤ sizeLine := Nat.le_trans h (Nat.le_trans hm (by decide))
theorem e_are_mosts {t : T} {st : Sto} : F_are_mosts [.v t] st = .ok (.v (.bool (mostsOk t))) st := by
  apply eqn_of
  unfold F_are_mosts m_are_mosts
  cases t with
  | tuple ts =>
    have h : lcGo none (gNm 1) mYes (mFn 3 F_is_within (mCons (mVar 1) (mCons (mC (.v (.int 1))) (mCons (mC (.v (.int 9))) mNil))) []) [some (.v (.tuple ts)), none] ts st = .ok (ts.map fun t => .bool (isW t 1 9)) st :=
      lc_eq _ ts fun t ht => by simp [w_ok, w_bad, w_bind, w_bindN, w_toS, w_itb, w_var, w_c, w_bin, w_un, w_cmpT, w_mB, w_chain, w_tru, w_andT, w_orT, w_notT, w_andV, w_orV, w_notV, w_if, w_nil, w_cons, w_tup, w_lst, w_lstM, w_call, w_fn, w_fnK, w_meth, w_noP, w_part, w_slice, w_rg1, w_lstRgM, w_lstRg, w_tupRg, w_gNm, w_gTu, w_gNil, w_gCons, w_gSb, w_skip, w_seq, w_asg, w_ret, w_drop, w_ifS, w_par2, w_par3, w_parN, w_runB, w_finV, w_finM, List.map, List.replicate, List.length, List.cons_append, List.nil_append, List.append_nil, List.getElem?_cons_zero, List.getElem?_cons_succ, List.set_cons_zero, List.set_cons_succ, setAll, pureTs, Option.map, e_is_within]
    simp [w_ok, w_bad, w_bind, w_bindN, w_toS, w_itb, w_var, w_c, w_bin, w_un, w_cmpT, w_mB, w_chain, w_tru, w_andT, w_orT, w_notT, w_andV, w_orV, w_notV, w_if, w_nil, w_cons, w_tup, w_lst, w_lstM, w_call, w_fn, w_fnK, w_meth, w_noP, w_part, w_slice, w_rg1, w_lstRgM, w_lstRg, w_tupRg, w_gNm, w_gTu, w_gNil, w_gCons, w_gSb, w_skip, w_seq, w_asg, w_ret, w_drop, w_ifS, w_par2, w_par3, w_parN, w_runB, w_finV, w_finM, List.map, List.replicate, List.length, List.cons_append, List.nil_append, List.append_nil, List.getElem?_cons_zero, List.getElem?_cons_succ, List.set_cons_zero, List.set_cons_succ, setAll, pureTs, Option.map, w_itS, w_lc, fIsi, tyD, tyT, subTy, truD, fLen, opI0, asSeq, chkOf, wipeD, h, fAll, onBools, asL, asLt, boolsT_map, all_map, mostsOk, take_all]
    by_cases h1 : 1 ≤ ts.length
    · by_cases h2 : ts.length ≤ 10
      · have := small_len h2
        simp [show (1 : Int) ≤ (ts.length : Int) by omega, show (ts.length : Int) ≤ 10 by omega, h1, h2, this]
      · simp [show (1 : Int) ≤ (ts.length : Int) by omega, show ¬ (ts.length : Int) ≤ 10 by omega, h1, h2]
    · simp [show ¬ (1 : Int) ≤ (ts.length : Int) by omega, h1]
  | _ => simp [w_ok, w_bad, w_bind, w_bindN, w_toS, w_itb, w_var, w_c, w_bin, w_un, w_cmpT, w_mB, w_chain, w_tru, w_andT, w_orT, w_notT, w_andV, w_orV, w_notV, w_if, w_nil, w_cons, w_tup, w_lst, w_lstM, w_call, w_fn, w_fnK, w_meth, w_noP, w_part, w_slice, w_rg1, w_lstRgM, w_lstRg, w_tupRg, w_gNm, w_gTu, w_gNil, w_gCons, w_gSb, w_skip, w_seq, w_asg, w_ret, w_drop, w_ifS, w_par2, w_par3, w_parN, w_runB, w_finV, w_finM, List.map, List.replicate, List.length, List.cons_append, List.nil_append, List.append_nil, List.getElem?_cons_zero, List.getElem?_cons_succ, List.set_cons_zero, List.set_cons_succ, setAll, pureTs, Option.map, fIsi, tyD, tyT, subTy, truD, take_all, mostsOk]
end Law

namespace Law
open PySem PL
open L2 (atI ixN CDiv CMul CPow RgOk)
/-! #### grounds, issues, courts -/
def grOk (t : T) (facts issues own : Int) : Bool := match t with
  | .tuple [.str w, x, y] => isW y 0 1 && (if w = "fact" then isW x 0 (facts - 1) else if w = "issue" then isW x (own + 1) (issues - 1) else false)
  | _ => false
def sOkT (t : T) : Bool := match t with
  | .str w => PyData.strOk w
  | _ => true
/-- all texts are texts -/
def fineG (t : T) : Bool := match t with
  | .tuple ts => ts.all sOkT
  | _ => true
theorem ne_three {ts : List T} (h : ∀ a b c, ts ≠ [a, b, c]) : ts.length ≠ 3 := by
  intro e
  match ts, e with
  | [a, b, c], _ => exact h a b c rfl
theorem hne : ¬ (("issue" : Str) = "fact") := by decide +kernel
theorem hs2 : 2 ≤ sizeLine := by decide
theorem beq_str (a b : Str) : (a == b) = decide (a = b) := by
  by_cases h : a = b <;> simp [h]
theorem e_is_ground {t : T} {f i o : Int} {st : Sto} (ht : fineG t = true) : F_is_ground [.v t, .v (.int f), .v (.int i), .v (.int o)] st = .ok (.v (.bool (grOk t f i o))) st := by
  apply eqn_of
  unfold F_is_ground m_is_ground
  cases t with
  | tuple ts =>
    by_cases h3 : ∃ a b c, ts = [a, b, c]
    · obtain ⟨a, b, c, rfl⟩ := h3
      cases a with
      | str w =>
        have hw : SeqAt.shaped (.str w) = true := sh_str (by simpa [fineG, sOkT] using (List.all_eq_true.mp ht (.str w) (by simp)))
        have h1 : SeqAt.shaped (.str "fact") = true := by decide +kernel
        have h2 : SeqAt.shaped (.str "issue") = true := by decide +kernel
        simp [w_ok, w_bad, w_bind, w_bindN, w_toS, w_itb, w_var, w_c, w_bin, w_un, w_cmpT, w_mB, w_chain, w_tru, w_andT, w_orT, w_notT, w_andV, w_orV, w_notV, w_if, w_nil, w_cons, w_tup, w_lst, w_lstM, w_call, w_fn, w_fnK, w_meth, w_noP, w_part, w_slice, w_rg1, w_lstRgM, w_lstRg, w_tupRg, w_gNm, w_gTu, w_gNil, w_gCons, w_gSb, w_skip, w_seq, w_asg, w_ret, w_drop, w_ifS, w_par2, w_par3, w_parN, w_runB, w_finV, w_finM, List.map, List.replicate, List.length, List.cons_append, List.nil_append, List.append_nil, List.getElem?_cons_zero, List.getElem?_cons_succ, List.set_cons_zero, List.set_cons_succ, setAll, pureTs, Option.map, e_is_tuple, e_is_within, fIsi, tyD, tyT, subTy, truD, opIx, asSeq, ix0, ix1, ix2, opEqB, toT, hw, h1, h2, PyData.eqv, opI0, opAdd, grOk, take_all, beq_str]
        cases isW c 0 1 <;> simp
        by_cases e1 : w = "fact"
        · simp [e1]
        · by_cases e2 : w = "issue" <;> simp [e1, e2, hne]
      | _ => simp [w_ok, w_bad, w_bind, w_bindN, w_toS, w_itb, w_var, w_c, w_bin, w_un, w_cmpT, w_mB, w_chain, w_tru, w_andT, w_orT, w_notT, w_andV, w_orV, w_notV, w_if, w_nil, w_cons, w_tup, w_lst, w_lstM, w_call, w_fn, w_fnK, w_meth, w_noP, w_part, w_slice, w_rg1, w_lstRgM, w_lstRg, w_tupRg, w_gNm, w_gTu, w_gNil, w_gCons, w_gSb, w_skip, w_seq, w_asg, w_ret, w_drop, w_ifS, w_par2, w_par3, w_parN, w_runB, w_finV, w_finM, List.map, List.replicate, List.length, List.cons_append, List.nil_append, List.append_nil, List.getElem?_cons_zero, List.getElem?_cons_succ, List.set_cons_zero, List.set_cons_succ, setAll, pureTs, Option.map, e_is_tuple, e_is_within, fIsi, tyD, tyT, subTy, truD, opIx, asSeq, ix0, ix1, ix2, grOk, take_all]
    · have hl : ((ts.length : Int) == 3) = false := by
        have := ne_three (ts := ts) (fun a b c e => h3 ⟨a, b, c, e⟩)
        simp; omega
      have hg : grOk (.tuple ts) f i o = false := by
        unfold grOk
        split
        · rename_i w x y e; cases e; exact absurd ⟨_, _, _, rfl⟩ h3
        · rfl
      simp [w_ok, w_bad, w_bind, w_bindN, w_toS, w_itb, w_var, w_c, w_bin, w_un, w_cmpT, w_mB, w_chain, w_tru, w_andT, w_orT, w_notT, w_andV, w_orV, w_notV, w_if, w_nil, w_cons, w_tup, w_lst, w_lstM, w_call, w_fn, w_fnK, w_meth, w_noP, w_part, w_slice, w_rg1, w_lstRgM, w_lstRg, w_tupRg, w_gNm, w_gTu, w_gNil, w_gCons, w_gSb, w_skip, w_seq, w_asg, w_ret, w_drop, w_ifS, w_par2, w_par3, w_parN, w_runB, w_finV, w_finM, List.map, List.replicate, List.length, List.cons_append, List.nil_append, List.append_nil, List.getElem?_cons_zero, List.getElem?_cons_succ, List.set_cons_zero, List.set_cons_succ, setAll, pureTs, Option.map, e_is_tuple, truD, hl, hg, take_all]
  | _ => simp [w_ok, w_bad, w_bind, w_bindN, w_toS, w_itb, w_var, w_c, w_bin, w_un, w_cmpT, w_mB, w_chain, w_tru, w_andT, w_orT, w_notT, w_andV, w_orV, w_notV, w_if, w_nil, w_cons, w_tup, w_lst, w_lstM, w_call, w_fn, w_fnK, w_meth, w_noP, w_part, w_slice, w_rg1, w_lstRgM, w_lstRg, w_tupRg, w_gNm, w_gTu, w_gNil, w_gCons, w_gSb, w_skip, w_seq, w_asg, w_ret, w_drop, w_ifS, w_par2, w_par3, w_parN, w_runB, w_finV, w_finM, List.map, List.replicate, List.length, List.cons_append, List.nil_append, List.append_nil, List.getElem?_cons_zero, List.getElem?_cons_succ, List.set_cons_zero, List.set_cons_succ, setAll, pureTs, Option.map, e_is_tuple, truD, grOk, take_all]
def crtOk (t : T) (own : Int) : Bool := match t with
  | .tuple [x, .bool _] => if own = 0 then isNoneD (.v x) else isW x 0 (own - 1)
  | _ => false
theorem ne_two {ts : List T} (h : ∀ a b, ts ≠ [a, b]) : ts.length ≠ 2 := by
  intro e
  match ts, e with
  | [a, b], _ => exact h a b rfl
theorem e_is_court {t : T} {o : Int} {st : Sto} : F_is_court_of [.v t, .v (.int o)] st = .ok (.v (.bool (crtOk t o))) st := by
  apply eqn_of
  unfold F_is_court_of m_is_court_of
  cases t with
  | tuple ts =>
    by_cases h3 : ∃ a b, ts = [a, b]
    · obtain ⟨a, b, rfl⟩ := h3
      cases b with
      | bool w =>
        simp [w_ok, w_bad, w_bind, w_bindN, w_toS, w_itb, w_var, w_c, w_bin, w_un, w_cmpT, w_mB, w_chain, w_tru, w_andT, w_orT, w_notT, w_andV, w_orV, w_notV, w_if, w_nil, w_cons, w_tup, w_lst, w_lstM, w_call, w_fn, w_fnK, w_meth, w_noP, w_part, w_slice, w_rg1, w_lstRgM, w_lstRg, w_tupRg, w_gNm, w_gTu, w_gNil, w_gCons, w_gSb, w_skip, w_seq, w_asg, w_ret, w_drop, w_ifS, w_par2, w_par3, w_parN, w_runB, w_finV, w_finM, List.map, List.replicate, List.length, List.cons_append, List.nil_append, List.append_nil, List.getElem?_cons_zero, List.getElem?_cons_succ, List.set_cons_zero, List.set_cons_succ, setAll, pureTs, Option.map, e_is_tuple, e_is_within, fIsi, tyD, tyT, subTy, truD, opIx, asSeq, ix0, ix1, opEqB, toT, sh_int, PyData.eqv, opI0, opIsN, crtOk, take_all]
        split <;> simp_all
      | _ => simp [w_ok, w_bad, w_bind, w_bindN, w_toS, w_itb, w_var, w_c, w_bin, w_un, w_cmpT, w_mB, w_chain, w_tru, w_andT, w_orT, w_notT, w_andV, w_orV, w_notV, w_if, w_nil, w_cons, w_tup, w_lst, w_lstM, w_call, w_fn, w_fnK, w_meth, w_noP, w_part, w_slice, w_rg1, w_lstRgM, w_lstRg, w_tupRg, w_gNm, w_gTu, w_gNil, w_gCons, w_gSb, w_skip, w_seq, w_asg, w_ret, w_drop, w_ifS, w_par2, w_par3, w_parN, w_runB, w_finV, w_finM, List.map, List.replicate, List.length, List.cons_append, List.nil_append, List.append_nil, List.getElem?_cons_zero, List.getElem?_cons_succ, List.set_cons_zero, List.set_cons_succ, setAll, pureTs, Option.map, e_is_tuple, e_is_within, fIsi, tyD, tyT, subTy, truD, opIx, asSeq, ix0, ix1, crtOk, take_all]
    · have hl : ((ts.length : Int) == 2) = false := by
        have := ne_two (ts := ts) (fun a b e => h3 ⟨a, b, e⟩)
        simp; omega
      have hg : crtOk (.tuple ts) o = false := by
        unfold crtOk
        split
        · rename_i w x e; cases e; exact absurd ⟨_, _, rfl⟩ h3
        · rfl
      simp [w_ok, w_bad, w_bind, w_bindN, w_toS, w_itb, w_var, w_c, w_bin, w_un, w_cmpT, w_mB, w_chain, w_tru, w_andT, w_orT, w_notT, w_andV, w_orV, w_notV, w_if, w_nil, w_cons, w_tup, w_lst, w_lstM, w_call, w_fn, w_fnK, w_meth, w_noP, w_part, w_slice, w_rg1, w_lstRgM, w_lstRg, w_tupRg, w_gNm, w_gTu, w_gNil, w_gCons, w_gSb, w_skip, w_seq, w_asg, w_ret, w_drop, w_ifS, w_par2, w_par3, w_parN, w_runB, w_finV, w_finM, List.map, List.replicate, List.length, List.cons_append, List.nil_append, List.append_nil, List.getElem?_cons_zero, List.getElem?_cons_succ, List.set_cons_zero, List.set_cons_succ, setAll, pureTs, Option.map, e_is_tuple, truD, hl, hg, take_all]
  | _ => simp [w_ok, w_bad, w_bind, w_bindN, w_toS, w_itb, w_var, w_c, w_bin, w_un, w_cmpT, w_mB, w_chain, w_tru, w_andT, w_orT, w_notT, w_andV, w_orV, w_notV, w_if, w_nil, w_cons, w_tup, w_lst, w_lstM, w_call, w_fn, w_fnK, w_meth, w_noP, w_part, w_slice, w_rg1, w_lstRgM, w_lstRg, w_tupRg, w_gNm, w_gTu, w_gNil, w_gCons, w_gSb, w_skip, w_seq, w_asg, w_ret, w_drop, w_ifS, w_par2, w_par3, w_parN, w_runB, w_finV, w_finM, List.map, List.replicate, List.length, List.cons_append, List.nil_append, List.append_nil, List.getElem?_cons_zero, List.getElem?_cons_succ, List.set_cons_zero, List.set_cons_succ, setAll, pureTs, Option.map, e_is_tuple, truD, crtOk, take_all]
end Law

namespace Law
open PySem PL
open L2 (atI ixN CDiv CMul CPow RgOk)
/-! #### an issue -/
def hpT (t : T) : Str × Int := match t with
  | .tuple (.str w :: .int n :: _) => (w, n)
  | _ => ("", 0)
def mkH (p : Str × Int) : T := .tuple [.str p.1, .int p.2]
def mkK (p : Str × Int) : NestedKey := .tup [.text p.1, .num p.2]
theorem gr_shape {t : T} {f i o : Int} (h : grOk t f i o = true) : ∃ w n s, t = .tuple [.str w, .int n, s] := by
  unfold grOk at h
  split at h
  · rename_i w x y
    rw [Bool.and_eq_true] at h
    have h2 := h.2
    cases x with
    | int n => exact ⟨w, n, y, rfl⟩
    | _ => revert h2; simp [isW]
  · cases h
theorem keys_mk : ∀ ps : List (Str × Int), keysT (ps.map mkH) = some (ps.map mkK)
  | [] => rfl
  | p :: ps => by simp [keysT, keyT, mkH, mkK, keys_mk ps]
theorem mkK_inj {p q : Str × Int} (h : mkK p = mkK q) : p = q := by
  obtain ⟨a, b⟩ := p
  obtain ⟨c, d⟩ := q
  simp [mkK] at h
  simp [h]
theorem depth_mk : ∀ ps : List (Str × Int), NestedKey.depthAll (ps.map mkK) ≤ 8
  | [] => by simp [NestedKey.depthAll]
  | p :: ps => by
    have := depth_mk ps
    simp [NestedKey.depthAll, NestedKey.depth, mkK] at this ⊢
    exact Nat.max_le.mpr ⟨by decide, this⟩
theorem nDist_le : ∀ ks : List NestedKey, nDist ks ≤ ks.length
  | [] => Nat.le_refl _
  | k :: ks => by
    have := nDist_le ks
    unfold nDist
    split <;> simp only [List.length_cons] <;> omega
theorem nDist_nodup : ∀ ks : List NestedKey, nDist ks = ks.length ↔ ks.Nodup
  | [] => by simp [nDist]
  | k :: ks => by
    have h := nDist_nodup ks
    have hl := nDist_le ks
    unfold nDist
    rw [List.nodup_cons]
    by_cases hk : k ∈ ks
    · rw [if_pos hk]
      simp only [List.length_cons]
      constructor
      · intro z; omega
      · intro z; exact absurd hk z.1
    · rw [if_neg hk]
      simp only [List.length_cons]
      constructor
      · intro z; exact ⟨hk, h.mp (by omega)⟩
      · intro z; have := h.mpr z.2; omega
theorem nodup_mk (ps : List (Str × Int)) : (ps.map mkK).Nodup ↔ ps.Nodup := by
  induction ps with
  | nil => simp
  | cons p ps ih =>
    rw [List.map_cons, List.nodup_cons, List.nodup_cons, ih]
    constructor
    · rintro ⟨h1, h2⟩; exact ⟨fun z => h1 (List.mem_map.mpr ⟨p, z, rfl⟩), h2⟩
    · rintro ⟨h1, h2⟩
      refine ⟨fun z => ?_, h2⟩
      obtain ⟨q, hq, e⟩ := List.mem_map.mp z
      exact h1 (mkK_inj e ▸ hq)
theorem eqv_mk (p q : Str × Int) : PyData.eqv (mkH p) (mkH q) = decide (p = q) := by
  obtain ⟨a, b⟩ := p
  obtain ⟨c, d⟩ := q
  simp only [mkH, PyData.eqv, PyData.eqvAll, Bool.and_true]
  by_cases h1 : a = c <;> by_cases h2 : b = d <;> simp [h1, h2]
theorem count_mk (ps : List (Str × Int)) (q : Str × Int) : (ps.map mkH).countP (fun z => PyData.eqv z (mkH q)) = ps.countP (fun p => decide (p = q)) := by
  rw [List.countP_map]
  congr
  funext p
  simp [eqv_mk]
theorem countP_zero {ps : List (Str × Int)} {q : Str × Int} (h : q ∉ ps) : ps.countP (fun p => decide (p = q)) = 0 := by
  rw [List.countP_eq_zero]
  intro p hp
  simp
  exact fun e => h (e ▸ hp)
theorem all_count : ∀ ps : List (Str × Int), (∀ q ∈ ps, ps.countP (fun p => decide (p = q)) = 1) ↔ ps.Nodup
  | [] => by simp
  | p :: ps => by
    have ih := all_count ps
    rw [List.nodup_cons]
    constructor
    · intro h
      have hp := h p List.mem_cons_self
      rw [List.countP_cons_of_pos (by simp)] at hp
      have hnp : p ∉ ps := fun hm => by
        have : 0 < ps.countP (fun x => decide (x = p)) := List.countP_pos_iff.mpr ⟨p, hm, by simp⟩
        omega
      refine ⟨hnp, ih.mp fun q hq => ?_⟩
      have := h q (List.mem_cons_of_mem _ hq)
      rwa [List.countP_cons_of_neg (by simp; exact fun e => hnp (e ▸ hq))] at this
    · rintro ⟨h1, h2⟩ q hq
      rcases List.mem_cons.mp hq with rfl | hq
      · rw [List.countP_cons_of_pos (by simp), countP_zero h1]
      · rw [List.countP_cons_of_neg (by simp; exact fun e => h1 (e ▸ hq))]
        exact ih.mpr h2 q hq
theorem all_count_b (ps : List (Str × Int)) : ((ps.map mkH).map fun h => ((ps.map mkH).countP (fun z => PyData.eqv z h) : Int) == 1).all id = decide ps.Nodup := by
  rw [Bool.eq_iff_iff, decide_eq_true_eq, ← all_count]
  simp only [List.all_map, Function.comp_def, List.all_eq_true, List.mem_map, id]
  constructor
  · intro h q hq
    have := h q hq
    rw [count_mk] at this
    have := eq_of_beq this
    omega
  · intro h q hq
    rw [count_mk, h q hq]
    rfl
def issOk (t : T) (f i o : Int) : Bool := match t with
  | .tuple ts => decide (1 ≤ ts.length) && decide (ts.length ≤ 8) && ts.all (fun t => grOk t f i o) && decide ((ts.map hpT).Nodup)
  | _ => false
def fineI (t : T) : Bool := match t with
  | .tuple ts => ts.all fineG
  | _ => true
theorem heads_of {ts : List T} {f i o : Int} (h : ∀ t ∈ ts, grOk t f i o = true) : ∀ {g : T → T}, (∀ w n s, g (.tuple [.str w, .int n, s]) = .tuple [.str w, .int n]) → ts.map g = (ts.map hpT).map mkH := fun hg => by
  rw [List.map_map]
  apply List.map_congr_left
  intro t ht
  obtain ⟨w, n, s, rfl⟩ := gr_shape (h t ht)
  rw [hg]; rfl
theorem sh_heads {ps : List (Str × Int)} (h : ∀ p ∈ ps, PyData.strOk p.1 = true) : SeqAt.shaped (.list (ps.map mkH)) = true ∧ ∀ p ∈ ps, SeqAt.shaped (mkH p) = true := by
  have one : ∀ p ∈ ps, (mkH p).canLay0 = true ∧ (mkH p).depth = 1 := fun p hp => by
    have := h p hp
    simp [mkH, PyData.canLay0, PyData.canLayAll0, PyData.depth, PyData.depthAll, this]
  refine ⟨?_, fun p hp => by obtain ⟨a, b⟩ := one p hp; simp [SeqAt.shaped, a, b]⟩
  have all : ∀ qs : List (Str × Int), (∀ p ∈ qs, p ∈ ps) → PyData.canLayAll0 (qs.map mkH) = true ∧ PyData.depthAll (qs.map mkH) ≤ 1 := by
    intro qs
    induction qs with
    | nil => intro _; simp [PyData.canLayAll0, PyData.depthAll]
    | cons q qs ih =>
      intro hq
      obtain ⟨a, b⟩ := one q (hq q List.mem_cons_self)
      obtain ⟨c, d⟩ := ih fun p hp => hq p (List.mem_cons_of_mem _ hp)
      simp only [List.map_cons, PyData.canLayAll0, PyData.depthAll, a, c, b, Bool.and_self, true_and]
      omega
  obtain ⟨a, b⟩ := all ps fun _ h => h
  simp only [SeqAt.shaped, PyData.canLay0, PyData.depth, a, Bool.true_and]
  exact decide_eq_true (by omega)
theorem w_lenSet {m : ME D} {env : EnvD} {st : Sto} {QD : D → Sto → Prop} : EvO (mLenSet m env st) QD = EvO (m env st) fun d s => match asL s d with
    | some ts => (match keysT ts with
      | some ks => (ts.all isTupT = true ∧ NestedKey.depthAll ks ≤ 8 ∧ ts.length < 64) ∧ QD (.v (.int (nDist ks : Nat))) s
      | none => False)
    | none => False := by
  unfold mLenSet; rw [w_bind]; congr; funext d s
  cases asL s d with
  | none => rfl
  | some ts =>
    simp only
    cases keysT ts with
    | none => rfl
    | some ks => exact w_itb
theorem dist_b {ps : List (Str × Int)} {n : Nat} (h : ps.length = n) : (((nDist (ps.map mkK) : Nat) : Int) == (n : Int)) = decide ps.Nodup := by
  rw [Bool.eq_iff_iff, decide_eq_true_eq, ← nodup_mk, ← nDist_nodup, List.length_map, h]
  constructor
  · intro e; have := eq_of_beq e; omega
  · intro e; simp [e]
theorem e_is_issue {t : T} {f i o : Int} {st : Sto} (ht : fineI t = true) : F_is_issue_of [.v t, .v (.int f), .v (.int i), .v (.int o)] st = .ok (.v (.bool (issOk t f i o))) st := by
  apply eqn_of
  unfold F_is_issue_of m_is_issue_of
  cases t with
  | tuple ts =>
    have h : lcGo none (gNm 4) mYes (mFn 4 F_is_ground (mCons (mVar 4) (mCons (mVar 1) (mCons (mVar 2) (mCons (mVar 3) mNil)))) []) [some (.v (.tuple ts)), some (.v (.int f)), some (.v (.int i)), some (.v (.int o)), none] ts st = .ok (ts.map fun t => .bool (grOk t f i o)) st :=
      lc_eq _ ts fun t h' => by
        have hf : fineG t = true := List.all_eq_true.mp ht t h'
        simp [w_ok, w_bad, w_bind, w_bindN, w_toS, w_itb, w_var, w_c, w_bin, w_un, w_cmpT, w_mB, w_chain, w_tru, w_andT, w_orT, w_notT, w_andV, w_orV, w_notV, w_if, w_nil, w_cons, w_tup, w_lst, w_lstM, w_call, w_fn, w_fnK, w_meth, w_noP, w_part, w_slice, w_rg1, w_lstRgM, w_lstRg, w_tupRg, w_gNm, w_gTu, w_gNil, w_gCons, w_gSb, w_skip, w_seq, w_asg, w_ret, w_drop, w_ifS, w_par2, w_par3, w_parN, w_runB, w_finV, w_finM, List.map, List.replicate, List.length, List.cons_append, List.nil_append, List.append_nil, List.getElem?_cons_zero, List.getElem?_cons_succ, List.set_cons_zero, List.set_cons_succ, setAll, pureTs, Option.map, e_is_ground hf]
    by_cases h1 : 1 ≤ ts.length
    · by_cases h2 : ts.length ≤ 8
      · have hz := small_len h2
        by_cases h3 : ts.all (fun t => grOk t f i o) = true
        · have h3' := List.all_eq_true.mp h3
          have h4 : lcGo none (gNm 4) mYes (mSlice (mVar 4) mNoP (mPart (mC (.v (.int 2))))) [some (.v (.tuple ts)), some (.v (.int f)), some (.v (.int i)), some (.v (.int o)), none] ts st = .ok (ts.map fun t => match t with | .tuple us => .tuple (cutT us none (some 2)) | t => t) st :=
            lc_eq _ ts fun t h' => by
              obtain ⟨w, n, s, rfl⟩ := gr_shape (h3' t h')
              simp [w_ok, w_bad, w_bind, w_bindN, w_toS, w_itb, w_var, w_c, w_bin, w_un, w_cmpT, w_mB, w_chain, w_tru, w_andT, w_orT, w_notT, w_andV, w_orV, w_notV, w_if, w_nil, w_cons, w_tup, w_lst, w_lstM, w_call, w_fn, w_fnK, w_meth, w_noP, w_part, w_slice, w_rg1, w_lstRgM, w_lstRg, w_tupRg, w_gNm, w_gTu, w_gNil, w_gCons, w_gSb, w_skip, w_seq, w_asg, w_ret, w_drop, w_ifS, w_par2, w_par3, w_parN, w_runB, w_finV, w_finM, List.map, List.replicate, List.length, List.cons_append, List.nil_append, List.append_nil, List.getElem?_cons_zero, List.getElem?_cons_succ, List.set_cons_zero, List.set_cons_succ, setAll, pureTs, Option.map, opSl]
          rw [heads_of h3' (by intro w n s; rfl)] at h4
          have hgo : issOk (.tuple ts) f i o = decide ((ts.map hpT).Nodup) := by simp only [issOk, h1, h2, h3, decide_true, Bool.true_and, Bool.and_self]
          rw [hgo]
          have hlen : (ts.map hpT).length = ts.length := List.length_map ..
          generalize ts.map hpT = ps at h4 hlen
          have hk := keys_mk ps
          have hd := depth_mk ps
          have htp : (ps.map mkH).all isTupT = true := by simp [List.all_map, mkH, isTupT]
          have hl : (ps.map mkH).length < 64 := by simp; omega
          have hb := dist_b hlen
          simp [w_ok, w_bad, w_bind, w_bindN, w_toS, w_itb, w_var, w_c, w_bin, w_un, w_cmpT, w_mB, w_chain, w_tru, w_andT, w_orT, w_notT, w_andV, w_orV, w_notV, w_if, w_nil, w_cons, w_tup, w_lst, w_lstM, w_call, w_fn, w_fnK, w_meth, w_noP, w_part, w_slice, w_rg1, w_lstRgM, w_lstRg, w_tupRg, w_gNm, w_gTu, w_gNil, w_gCons, w_gSb, w_skip, w_seq, w_asg, w_ret, w_drop, w_ifS, w_par2, w_par3, w_parN, w_runB, w_finV, w_finM, List.map, List.replicate, List.length, List.cons_append, List.nil_append, List.append_nil, List.getElem?_cons_zero, List.getElem?_cons_succ, List.set_cons_zero, List.set_cons_succ, setAll, pureTs, Option.map, w_itS, w_lc, fIsi, tyD, tyT, subTy, truD, fLen, opI0, asSeq, chkOf, wipeD, h, fAll, onBools, asL, asLt, boolsT_map, all_map, h3, hz, show (1 : Int) ≤ (ts.length : Int) by omega, show (ts.length : Int) ≤ 8 by omega]
          simp only [w_lenSet, w_bind, w_lc, w_itS, w_var, w_ok, List.getElem?_cons_zero, asSeq, chkOf, wipeD, List.set_cons_succ, List.set_cons_zero, h4, asL, asLt, hk, htp, hd, hl, hz, true_and, opEqB, toT, sh_int, and_self, if_true, w_finV, take_all, PyData.eqv, hb, and_true]
          simp [w_ok, w_finV, take_all]
        · simp only [Bool.not_eq_true] at h3
          simp [w_ok, w_bad, w_bind, w_bindN, w_toS, w_itb, w_var, w_c, w_bin, w_un, w_cmpT, w_mB, w_chain, w_tru, w_andT, w_orT, w_notT, w_andV, w_orV, w_notV, w_if, w_nil, w_cons, w_tup, w_lst, w_lstM, w_call, w_fn, w_fnK, w_meth, w_noP, w_part, w_slice, w_rg1, w_lstRgM, w_lstRg, w_tupRg, w_gNm, w_gTu, w_gNil, w_gCons, w_gSb, w_skip, w_seq, w_asg, w_ret, w_drop, w_ifS, w_par2, w_par3, w_parN, w_runB, w_finV, w_finM, List.map, List.replicate, List.length, List.cons_append, List.nil_append, List.append_nil, List.getElem?_cons_zero, List.getElem?_cons_succ, List.set_cons_zero, List.set_cons_succ, setAll, pureTs, Option.map, w_itS, w_lc, fIsi, tyD, tyT, subTy, truD, fLen, opI0, asSeq, chkOf, wipeD, h, fAll, onBools, asL, asLt, boolsT_map, all_map, h3, hz, issOk, take_all, show (1 : Int) ≤ (ts.length : Int) by omega, show (ts.length : Int) ≤ 8 by omega]
      · simp [w_ok, w_bad, w_bind, w_bindN, w_toS, w_itb, w_var, w_c, w_bin, w_un, w_cmpT, w_mB, w_chain, w_tru, w_andT, w_orT, w_notT, w_andV, w_orV, w_notV, w_if, w_nil, w_cons, w_tup, w_lst, w_lstM, w_call, w_fn, w_fnK, w_meth, w_noP, w_part, w_slice, w_rg1, w_lstRgM, w_lstRg, w_tupRg, w_gNm, w_gTu, w_gNil, w_gCons, w_gSb, w_skip, w_seq, w_asg, w_ret, w_drop, w_ifS, w_par2, w_par3, w_parN, w_runB, w_finV, w_finM, List.map, List.replicate, List.length, List.cons_append, List.nil_append, List.append_nil, List.getElem?_cons_zero, List.getElem?_cons_succ, List.set_cons_zero, List.set_cons_succ, setAll, pureTs, Option.map, fIsi, tyD, tyT, subTy, truD, fLen, opI0, asSeq, issOk, take_all, show (1 : Int) ≤ (ts.length : Int) by omega, show ¬ (ts.length : Int) ≤ 8 by omega, h2]
    · simp [w_ok, w_bad, w_bind, w_bindN, w_toS, w_itb, w_var, w_c, w_bin, w_un, w_cmpT, w_mB, w_chain, w_tru, w_andT, w_orT, w_notT, w_andV, w_orV, w_notV, w_if, w_nil, w_cons, w_tup, w_lst, w_lstM, w_call, w_fn, w_fnK, w_meth, w_noP, w_part, w_slice, w_rg1, w_lstRgM, w_lstRg, w_tupRg, w_gNm, w_gTu, w_gNil, w_gCons, w_gSb, w_skip, w_seq, w_asg, w_ret, w_drop, w_ifS, w_par2, w_par3, w_parN, w_runB, w_finV, w_finM, List.map, List.replicate, List.length, List.cons_append, List.nil_append, List.append_nil, List.getElem?_cons_zero, List.getElem?_cons_succ, List.set_cons_zero, List.set_cons_succ, setAll, pureTs, Option.map, fIsi, tyD, tyT, subTy, truD, fLen, opI0, asSeq, issOk, take_all, show ¬ (1 : Int) ≤ (ts.length : Int) by omega, h1]
  | _ => simp [w_ok, w_bad, w_bind, w_bindN, w_toS, w_itb, w_var, w_c, w_bin, w_un, w_cmpT, w_mB, w_chain, w_tru, w_andT, w_orT, w_notT, w_andV, w_orV, w_notV, w_if, w_nil, w_cons, w_tup, w_lst, w_lstM, w_call, w_fn, w_fnK, w_meth, w_noP, w_part, w_slice, w_rg1, w_lstRgM, w_lstRg, w_tupRg, w_gNm, w_gTu, w_gNil, w_gCons, w_gSb, w_skip, w_seq, w_asg, w_ret, w_drop, w_ifS, w_par2, w_par3, w_parN, w_runB, w_finV, w_finM, List.map, List.replicate, List.length, List.cons_append, List.nil_append, List.append_nil, List.getElem?_cons_zero, List.getElem?_cons_succ, List.set_cons_zero, List.set_cons_succ, setAll, pureTs, Option.map, fIsi, tyD, tyT, subTy, truD, issOk, take_all]
end Law

namespace Law
open PySem PL
open L2 (atI ixN CDiv CMul CPow RgOk)
/-! #### the flaw of a book -/
def bads (q : T → Int → Bool) : Int → List T → List T
  | _, [] => []
  | k, t :: ts => if q t k = true then bads q (k + 1) ts else .int k :: bads q (k + 1) ts
theorem bads_cons (q : T → Int → Bool) (k : Int) (t : T) (ts : List T) : bads q k (t :: ts) = if q t k = true then bads q (k + 1) ts else .int k :: bads q (k + 1) ts := by rw [bads]
theorem enT_cons (k : Int) (t : T) (ts : List T) : enT k (t :: ts) = .tuple [.int k, t] :: enT (k + 1) ts := by
  unfold enT
  rw [List.mapIdx_cons]
  congr 1
  · simp
  · congr 1
    funext i t
    congr 3
    omega
theorem enT_len (k : Int) (ts : List T) : (enT k ts).length = ts.length := by simp [enT]
theorem enT_mem : ∀ {ts : List T} {k : Int} {z : T}, z ∈ enT k ts → ∃ (i : Int) (t : T), z = .tuple [.int i, t] ∧ t ∈ ts ∧ k ≤ i ∧ i < k + ts.length
  | [], k, z, h => by simp [enT] at h
  | t :: ts, k, z, h => by
    rw [enT_cons] at h
    rcases List.mem_cons.mp h with rfl | h
    · exact ⟨k, t, rfl, List.mem_cons_self, Int.le_refl _, by simp; omega⟩
    · obtain ⟨i, u, e, hu, h1, h2⟩ := enT_mem h
      exact ⟨i, u, e, List.mem_cons_of_mem _ hu, by omega, by simp; omega⟩
def pPair (q : T → Int → Bool) (z : T) : Bool := match z with
  | .tuple [.int i, t] => !q t i
  | _ => false
def fPair (z : T) : T := match z with
  | .tuple [x, _] => x
  | z => z
theorem bads_eq (q : T → Int → Bool) : ∀ (ts : List T) (k : Int), ((enT k ts).filter (pPair q)).map fPair = bads q k ts
  | [], _ => by simp [enT, bads]
  | t :: ts, k => by
    rw [enT_cons, bads_cons]
    by_cases h : q t k = true
    · rw [List.filter_cons_of_neg (by simp [pPair, h]), bads_eq q ts, if_pos h]
    · rw [List.filter_cons_of_pos (by simp [pPair, h]), List.map_cons, bads_eq q ts, if_neg h]; rfl
theorem lc_en {env : EnvD} {st : Sto} {a b : Nat} {c : ME Bool} {e : ME D} (q : T → Int → Bool) (ts : List T) (k : Int) (h : ∀ (i : Int) (t : T), t ∈ ts → EvO (gTu 2 (gCons (gNm a) (gCons (gNm b) gNil)) (.v (.tuple [.int i, t])) env st) fun e1 s1 => EvO (c e1 s1) fun k s2 => k = !q t i ∧ s2 = st ∧ EvO (e e1 s2) fun d s3 => d = .v (.int i) ∧ s3 = st) :
    lcGo none (gTu 2 (gCons (gNm a) (gCons (gNm b) gNil))) c e env (enT k ts) st = .ok (bads q k ts) st := by
  rw [← bads_eq]
  refine lc_eqF _ _ _ fun z hz => ?_
  obtain ⟨i, t, rfl, ht, _⟩ := enT_mem hz
  exact h i t ht
theorem lc_enB {env : EnvD} {st : Sto} {a b : Nat} {e : ME D} (q : T → Int → Bool) (ts : List T) (k : Int) (h : ∀ (i : Int) (t : T), t ∈ ts → EvO (gTu 2 (gCons (gNm a) (gCons (gNm b) gNil)) (.v (.tuple [.int i, t])) env st) fun e1 s1 => EvO (e e1 s1) fun d s3 => d = .v (.bool (q t i)) ∧ s3 = st) :
    lcGo none (gTu 2 (gCons (gNm a) (gCons (gNm b) gNil))) mYes e env (enT k ts) st = .ok ((enT k ts).map fun z => .bool (!pPair q z)) st :=
  lc_eq _ _ fun z hz => by
    obtain ⟨i, t, rfl, ht, _⟩ := enT_mem hz
    simpa [pPair] using h i t ht
theorem bads_nil (q : T → Int → Bool) : ∀ (ts : List T) (k : Int), ((enT k ts).all fun z => !pPair q z) = (bads q k ts).isEmpty
  | [], _ => by simp [enT, bads]
  | t :: ts, k => by
    rw [enT_cons, List.all_cons, bads_nil q ts, bads_cons]
    by_cases h : q t k = true
    · rw [if_pos h]; simp [pPair, h]
    · rw [if_neg h]; simp [pPair, h]
theorem bads_ints (q : T → Int → Bool) : ∀ (ts : List T) (k : Int), PyData.canLayAll0 (bads q k ts) = true ∧ PyData.depthAll (bads q k ts) = 0
  | [], _ => by simp [bads, PyData.canLayAll0, PyData.depthAll]
  | t :: ts, k => by
    obtain ⟨h1, h2⟩ := bads_ints q ts (k + 1)
    rw [bads_cons]
    split
    · exact ⟨h1, h2⟩
    · simp [PyData.canLayAll0, PyData.canLay0, PyData.depthAll, PyData.depth, h1, h2]
theorem sh_bads (q : T → Int → Bool) (ts : List T) (k : Int) : SeqAt.shaped (.list (bads q k ts)) = true := by
  obtain ⟨h1, h2⟩ := bads_ints q ts k
  simp [SeqAt.shaped, PyData.canLay0, PyData.depth, h1, h2]
theorem bads_head {q : T → Int → Bool} : ∀ {ts : List T} {k : Int} {x : T} {r : List T}, bads q k ts = x :: r → ∃ i : Int, x = .int i ∧ k ≤ i ∧ i < k + ts.length
  | [], k, x, r, h => by simp [bads] at h
  | t :: ts, k, x, r, h => by
    rw [bads_cons] at h
    split at h
    · obtain ⟨i, e, h1, h2⟩ := bads_head h
      exact ⟨i, e, by omega, by simp; omega⟩
    · cases h
      exact ⟨k, rfl, Int.le_refl _, by simp; omega⟩
def tlen (t : T) : Int := match t with
  | .tuple ts => ts.length
  | _ => 0
def noteT (w : Str) (t : T) : T := .tuple [.str w, t]
def flawT (v : T) : T := match v with
  | .tuple [.str w, ms, is, cs] => if w = "book" then (if mostsOk ms = true then (match is with
      | .tuple iss => if 1 ≤ iss.length ∧ iss.length ≤ 6 then (match bads (fun t o => issOk t (tlen ms) iss.length o) 0 iss with
          | x :: _ => noteT "issue" x
          | [] => match cs with
            | .tuple css => if 1 ≤ css.length ∧ css.length ≤ 8 then (match bads crtOk 0 css with
              | x :: _ => noteT "court" x
              | [] => .none) else noteT "courts" .none
            | _ => noteT "courts" .none) else noteT "issues" .none
      | _ => noteT "issues" .none) else noteT "mosts" .none) else noteT "form" .none
  | _ => noteT "form" .none
theorem ne_four {ts : List T} (h : ∀ a b c d, ts ≠ [a, b, c, d]) : ts.length ≠ 4 := by
  intro e
  match ts, e with
  | [a, b, c, d], _ => exact h a b c d rfl
/-- the texts of a value are texts -/
def fineB (v : T) : Prop := ∀ w ms is cs, v = .tuple [.str w, ms, is, cs] → PyData.strOk w = true ∧ ∀ iss, is = .tuple iss → ∀ t ∈ iss, fineI t = true
theorem cut4 {a b c d : T} : cutT [a, b, c, d] (some 1) none = [b, c, d] := rfl
theorem bshape {ms : T} (h : mostsOk ms = true) : ∃ l, ms = .tuple l := by
  cases ms with
  | tuple l => exact ⟨l, rfl⟩
  | _ => simp [mostsOk] at h
theorem sh_nil : SeqAt.shaped (.list []) = true := rfl
theorem eqv_nil (l : List T) : PyData.eqv (.list l) (.list []) = l.isEmpty := by cases l <;> simp [PyData.eqv, PyData.eqvAll]
theorem sh_book : SeqAt.shaped (.str "book") = true := by decide +kernel
section
variable {α : Type} {env : EnvD} {st : Sto} {Z : Zz} {c : ME Bool} {r : ME D} {b rest : MS} {m : ME D} {g : MG}
theorem guardT (h : EvO (c env st) fun k s => k = true ∧ s = st) (h2 : EvO (r env st) Z.rt) : EvS (mSeq (mIfS c (mRet r) b) rest env st) Z := by
  rw [w_seq, w_ifS, eqn_a h, w_ok, if_pos rfl, w_ret]; exact h2
theorem guardF (h : EvO (c env st) fun k s => k = false ∧ s = st) (h2 : EvS (rest env st) Z) : EvS (mSeq (mIfS c (mRet r) mSkip) rest env st) Z := by
  rw [w_seq, w_ifS, eqn_a h, w_ok, if_neg Bool.false_ne_true, w_skip]; exact h2
theorem asgS {x : D} (h : EvO (m env st) fun d s => d = x ∧ s = st) (h2 : EvO (g x env st) fun e s => EvS (rest e s) Z) : EvS (mSeq (mAsg m g) rest env st) Z := by
  rw [w_seq, w_asg, eqn_a h, w_ok]; exact h2
end
end Law

namespace Law
open PySem PL
open L2 (atI ixN CDiv CMul CPow RgOk)
def isB (v : T) : Bool := match flawT v with
  | .none => true
  | _ => false
theorem e_is_book_any {v : T} {st : Sto} (hv : fineB v) : F_is_book_any [.v v] st = .ok (.v (.bool (isB v))) st := by
  apply eqn_of
  unfold F_is_book_any m_is_book_any
  rw [w_runB]
  simp only [List.map, List.replicate, List.length, List.cons_append, List.nil_append]
  by_cases hform : ∃ ms is cs, v = .tuple [.str "book", ms, is, cs]
  · obtain ⟨ms, is, cs, rfl⟩ := hform
    obtain ⟨_, hfi⟩ := hv _ ms is cs rfl
    by_cases hm : mostsOk ms = true
    · refine guardF (by simp [w_ok, w_bad, w_bind, w_bindN, w_toS, w_itb, w_var, w_c, w_bin, w_un, w_cmpT, w_mB, w_chain, w_tru, w_andT, w_orT, w_notT, w_andV, w_orV, w_notV, w_if, w_nil, w_cons, w_tup, w_lst, w_lstM, w_call, w_fn, w_fnK, w_meth, w_noP, w_part, w_slice, w_rg1, w_lstRgM, w_lstRg, w_tupRg, w_gNm, w_gTu, w_gNil, w_gCons, w_gSb, w_skip, w_seq, w_asg, w_ret, w_drop, w_ifS, w_par2, w_par3, w_parN, w_runB, w_finV, w_finM, List.map, List.replicate, List.length, List.cons_append, List.nil_append, List.append_nil, List.getElem?_cons_zero, List.getElem?_cons_succ, List.set_cons_zero, List.set_cons_succ, setAll, pureTs, Option.map, fIsi, tyD, tyT, subTy, truD, fLen, asSeq, opI0, opIx, ix0, ix1, ix2, ix3, opEqB, toT, sh_int, sh_book, PyData.eqv, e_is_tuple, e_are_mosts, hm]) ?_
      obtain ⟨l, rfl⟩ := bshape hm
      rw [w_seq, w_parN]
      simp only [w_cons, w_nil, w_bin, w_var, w_c, w_ok, opIx, asSeq, ix2, ix3, List.getElem?_cons_zero, List.length, setAll, List.set_cons_succ, List.set_cons_zero]
      refine ⟨⟨trivial, by decide⟩, ?_⟩
      cases is with
      | tuple iss =>
        by_cases hi1 : 1 ≤ iss.length
        · by_cases hi2 : iss.length ≤ 6
          · refine guardF (by simp [w_ok, w_bad, w_bind, w_bindN, w_toS, w_itb, w_var, w_c, w_bin, w_un, w_cmpT, w_mB, w_chain, w_tru, w_andT, w_orT, w_notT, w_andV, w_orV, w_notV, w_if, w_nil, w_cons, w_tup, w_lst, w_lstM, w_call, w_fn, w_fnK, w_meth, w_noP, w_part, w_slice, w_rg1, w_lstRgM, w_lstRg, w_tupRg, w_gNm, w_gTu, w_gNil, w_gCons, w_gSb, w_skip, w_seq, w_asg, w_ret, w_drop, w_ifS, w_par2, w_par3, w_parN, w_runB, w_finV, w_finM, List.map, List.replicate, List.length, List.cons_append, List.nil_append, List.append_nil, List.getElem?_cons_zero, List.getElem?_cons_succ, List.set_cons_zero, List.set_cons_succ, setAll, pureTs, Option.map, fIsi, tyD, tyT, subTy, truD, fLen, asSeq, opI0, show (1 : Int) ≤ (iss.length : Int) by omega, show (iss.length : Int) ≤ 6 by omega]) ?_
            have hz := small_len hi2
            have h1 : lcGo none (gTu 2 (gCons (gNm 3) (gCons (gNm 4) gNil))) mYes (mFn 4 F_is_issue_of (mCons (mVar 4) (mCons (mCall fLen (mCons (mBin opIx (mVar 0) (mC (.v (.int 1)))) mNil)) (mCons (mCall fLen (mCons (mVar 1) mNil)) (mCons (mVar 3) mNil)))) [])
                [some (.v (.tuple [.str "book", .tuple l, .tuple iss, cs])), some (.v (.tuple iss)), some (.v cs), none, none] (enT 0 iss) st = .ok ((enT 0 iss).map fun z => .bool (!pPair (fun t o => issOk t (tlen (.tuple l)) iss.length o) z)) st :=
              lc_enB _ _ _ fun i t ht => by
                have hf := hfi iss rfl t ht
                simp [w_ok, w_bad, w_bind, w_bindN, w_toS, w_itb, w_var, w_c, w_bin, w_un, w_cmpT, w_mB, w_chain, w_tru, w_andT, w_orT, w_notT, w_andV, w_orV, w_notV, w_if, w_nil, w_cons, w_tup, w_lst, w_lstM, w_call, w_fn, w_fnK, w_meth, w_noP, w_part, w_slice, w_rg1, w_lstRgM, w_lstRg, w_tupRg, w_gNm, w_gTu, w_gNil, w_gCons, w_gSb, w_skip, w_seq, w_asg, w_ret, w_drop, w_ifS, w_par2, w_par3, w_parN, w_runB, w_finV, w_finM, List.map, List.replicate, List.length, List.cons_append, List.nil_append, List.append_nil, List.getElem?_cons_zero, List.getElem?_cons_succ, List.set_cons_zero, List.set_cons_succ, setAll, pureTs, Option.map, fLen, opIx, ix1, asSeq, e_is_issue hf, truD, tlen]
            have bn := bads_nil (fun t o => issOk t (tlen (.tuple l)) iss.length o) iss 0
            generalize hB : bads (fun t o => issOk t (tlen (.tuple l)) iss.length o) 0 iss = B at bn
            have hg : EvO ((mNotT (mTru (mCall fAll (mCons (fun env st => (mLc (mItE (mCons (mVar 1) mNil)) (gTu 2 (gCons (gNm 3) (gCons (gNm 4) gNil))) mYes (mFn 4 F_is_issue_of (mCons (mVar 4) (mCons (mCall fLen (mCons (mBin opIx (mVar 0) (mC (.v (.int 1)))) mNil)) (mCons (mCall fLen (mCons (mVar 1) mNil)) (mCons (mVar 3) mNil)))) []) [3, 4] env st).bind finF) mNil))))
                [some (.v (.tuple [.str "book", .tuple l, .tuple iss, cs])), some (.v (.tuple iss)), some (.v cs), none, none] st) fun k s => k = !B.isEmpty ∧ s = st := by
              simp only [w_notT, w_tru, w_call, w_bind, w_lc, w_itE, w_cons, w_nil, w_var, w_ok, List.getElem?_cons_zero, List.getElem?_cons_succ, asSeq, chkOf, wipeD, List.set_cons_succ, List.set_cons_zero, enT_len, h1, hz, true_and, fAll, onBools, asL, asLt, boolsT_map, all_map, bn, truD, and_self]
            cases B with
            | cons x r =>
              refine guardT hg ?_
              simp [w_ok, w_bad, w_bind, w_bindN, w_toS, w_itb, w_var, w_c, w_bin, w_un, w_cmpT, w_mB, w_chain, w_tru, w_andT, w_orT, w_notT, w_andV, w_orV, w_notV, w_if, w_nil, w_cons, w_tup, w_lst, w_lstM, w_call, w_fn, w_fnK, w_meth, w_noP, w_part, w_slice, w_rg1, w_lstRgM, w_lstRg, w_tupRg, w_gNm, w_gTu, w_gNil, w_gCons, w_gSb, w_skip, w_seq, w_asg, w_ret, w_drop, w_ifS, w_par2, w_par3, w_parN, w_runB, w_finV, w_finM, List.map, List.replicate, List.length, List.cons_append, List.nil_append, List.append_nil, List.getElem?_cons_zero, List.getElem?_cons_succ, List.set_cons_zero, List.set_cons_succ, setAll, pureTs, Option.map, fIsi, tyD, tyT, subTy, truD, fLen, asSeq, opI0, take_all, isB, flawT, noteT, hm, hi1, hi2, hB]
            | nil =>
              refine guardF hg ?_
              cases cs with
              | tuple css =>
                by_cases hc1 : 1 ≤ css.length
                · by_cases hc2 : css.length ≤ 8
                  · refine guardF (by simp [w_ok, w_bad, w_bind, w_bindN, w_toS, w_itb, w_var, w_c, w_bin, w_un, w_cmpT, w_mB, w_chain, w_tru, w_andT, w_orT, w_notT, w_andV, w_orV, w_notV, w_if, w_nil, w_cons, w_tup, w_lst, w_lstM, w_call, w_fn, w_fnK, w_meth, w_noP, w_part, w_slice, w_rg1, w_lstRgM, w_lstRg, w_tupRg, w_gNm, w_gTu, w_gNil, w_gCons, w_gSb, w_skip, w_seq, w_asg, w_ret, w_drop, w_ifS, w_par2, w_par3, w_parN, w_runB, w_finV, w_finM, List.map, List.replicate, List.length, List.cons_append, List.nil_append, List.append_nil, List.getElem?_cons_zero, List.getElem?_cons_succ, List.set_cons_zero, List.set_cons_succ, setAll, pureTs, Option.map, fIsi, tyD, tyT, subTy, truD, fLen, asSeq, opI0, show (1 : Int) ≤ (css.length : Int) by omega, show (css.length : Int) ≤ 8 by omega]) ?_
                    have hy := small_len hc2
                    have h2 : lcGo none (gTu 2 (gCons (gNm 3) (gCons (gNm 4) gNil))) mYes (mFn 2 F_is_court_of (mCons (mVar 4) (mCons (mVar 3) mNil)) [])
                        [some (.v (.tuple [.str "book", .tuple l, .tuple iss, .tuple css])), some (.v (.tuple iss)), some (.v (.tuple css)), none, none] (enT 0 css) st = .ok ((enT 0 css).map fun z => .bool (!pPair crtOk z)) st :=
                      lc_enB _ _ _ fun i t ht => by simp [w_ok, w_bad, w_bind, w_bindN, w_toS, w_itb, w_var, w_c, w_bin, w_un, w_cmpT, w_mB, w_chain, w_tru, w_andT, w_orT, w_notT, w_andV, w_orV, w_notV, w_if, w_nil, w_cons, w_tup, w_lst, w_lstM, w_call, w_fn, w_fnK, w_meth, w_noP, w_part, w_slice, w_rg1, w_lstRgM, w_lstRg, w_tupRg, w_gNm, w_gTu, w_gNil, w_gCons, w_gSb, w_skip, w_seq, w_asg, w_ret, w_drop, w_ifS, w_par2, w_par3, w_parN, w_runB, w_finV, w_finM, List.map, List.replicate, List.length, List.cons_append, List.nil_append, List.append_nil, List.getElem?_cons_zero, List.getElem?_cons_succ, List.set_cons_zero, List.set_cons_succ, setAll, pureTs, Option.map, e_is_court, truD]
                    have cn := bads_nil crtOk css 0
                    generalize hC : bads crtOk 0 css = C at cn
                    simp only [w_ret, w_call, w_bind, w_lc, w_itE, w_cons, w_nil, w_var, w_ok, List.getElem?_cons_zero, List.getElem?_cons_succ, asSeq, chkOf, wipeD, List.set_cons_succ, List.set_cons_zero, enT_len, h2, hy, true_and, fAll, onBools, asL, asLt, boolsT_map, all_map, cn, w_finV, take_all, and_true]
                    cases C with
                    | cons x r => simp [isB, flawT, noteT, hm, hi1, hi2, hB, hc1, hc2, hC]
                    | nil => simp [isB, flawT, noteT, hm, hi1, hi2, hB, hc1, hc2, hC]
                  · refine guardT (by simp [w_ok, w_bad, w_bind, w_bindN, w_toS, w_itb, w_var, w_c, w_bin, w_un, w_cmpT, w_mB, w_chain, w_tru, w_andT, w_orT, w_notT, w_andV, w_orV, w_notV, w_if, w_nil, w_cons, w_tup, w_lst, w_lstM, w_call, w_fn, w_fnK, w_meth, w_noP, w_part, w_slice, w_rg1, w_lstRgM, w_lstRg, w_tupRg, w_gNm, w_gTu, w_gNil, w_gCons, w_gSb, w_skip, w_seq, w_asg, w_ret, w_drop, w_ifS, w_par2, w_par3, w_parN, w_runB, w_finV, w_finM, List.map, List.replicate, List.length, List.cons_append, List.nil_append, List.append_nil, List.getElem?_cons_zero, List.getElem?_cons_succ, List.set_cons_zero, List.set_cons_succ, setAll, pureTs, Option.map, fIsi, tyD, tyT, subTy, truD, fLen, asSeq, opI0, show (1 : Int) ≤ (css.length : Int) by omega, show ¬ (css.length : Int) ≤ 8 by omega]) ?_
                    simp [w_ok, w_bad, w_bind, w_bindN, w_toS, w_itb, w_var, w_c, w_bin, w_un, w_cmpT, w_mB, w_chain, w_tru, w_andT, w_orT, w_notT, w_andV, w_orV, w_notV, w_if, w_nil, w_cons, w_tup, w_lst, w_lstM, w_call, w_fn, w_fnK, w_meth, w_noP, w_part, w_slice, w_rg1, w_lstRgM, w_lstRg, w_tupRg, w_gNm, w_gTu, w_gNil, w_gCons, w_gSb, w_skip, w_seq, w_asg, w_ret, w_drop, w_ifS, w_par2, w_par3, w_parN, w_runB, w_finV, w_finM, List.map, List.replicate, List.length, List.cons_append, List.nil_append, List.append_nil, List.getElem?_cons_zero, List.getElem?_cons_succ, List.set_cons_zero, List.set_cons_succ, setAll, pureTs, Option.map, fIsi, tyD, tyT, subTy, truD, fLen, asSeq, opI0, take_all, isB, flawT, noteT, hm, hi1, hi2, hB, hc2]
                · refine guardT (by simp [w_ok, w_bad, w_bind, w_bindN, w_toS, w_itb, w_var, w_c, w_bin, w_un, w_cmpT, w_mB, w_chain, w_tru, w_andT, w_orT, w_notT, w_andV, w_orV, w_notV, w_if, w_nil, w_cons, w_tup, w_lst, w_lstM, w_call, w_fn, w_fnK, w_meth, w_noP, w_part, w_slice, w_rg1, w_lstRgM, w_lstRg, w_tupRg, w_gNm, w_gTu, w_gNil, w_gCons, w_gSb, w_skip, w_seq, w_asg, w_ret, w_drop, w_ifS, w_par2, w_par3, w_parN, w_runB, w_finV, w_finM, List.map, List.replicate, List.length, List.cons_append, List.nil_append, List.append_nil, List.getElem?_cons_zero, List.getElem?_cons_succ, List.set_cons_zero, List.set_cons_succ, setAll, pureTs, Option.map, fIsi, tyD, tyT, subTy, truD, fLen, asSeq, opI0, show ¬ (1 : Int) ≤ (css.length : Int) by omega]) ?_
                  simp [w_ok, w_bad, w_bind, w_bindN, w_toS, w_itb, w_var, w_c, w_bin, w_un, w_cmpT, w_mB, w_chain, w_tru, w_andT, w_orT, w_notT, w_andV, w_orV, w_notV, w_if, w_nil, w_cons, w_tup, w_lst, w_lstM, w_call, w_fn, w_fnK, w_meth, w_noP, w_part, w_slice, w_rg1, w_lstRgM, w_lstRg, w_tupRg, w_gNm, w_gTu, w_gNil, w_gCons, w_gSb, w_skip, w_seq, w_asg, w_ret, w_drop, w_ifS, w_par2, w_par3, w_parN, w_runB, w_finV, w_finM, List.map, List.replicate, List.length, List.cons_append, List.nil_append, List.append_nil, List.getElem?_cons_zero, List.getElem?_cons_succ, List.set_cons_zero, List.set_cons_succ, setAll, pureTs, Option.map, fIsi, tyD, tyT, subTy, truD, fLen, asSeq, opI0, take_all, isB, flawT, noteT, hm, hi1, hi2, hB, hc1]
              | _ =>
                refine guardT (by simp [w_ok, w_bad, w_bind, w_bindN, w_toS, w_itb, w_var, w_c, w_bin, w_un, w_cmpT, w_mB, w_chain, w_tru, w_andT, w_orT, w_notT, w_andV, w_orV, w_notV, w_if, w_nil, w_cons, w_tup, w_lst, w_lstM, w_call, w_fn, w_fnK, w_meth, w_noP, w_part, w_slice, w_rg1, w_lstRgM, w_lstRg, w_tupRg, w_gNm, w_gTu, w_gNil, w_gCons, w_gSb, w_skip, w_seq, w_asg, w_ret, w_drop, w_ifS, w_par2, w_par3, w_parN, w_runB, w_finV, w_finM, List.map, List.replicate, List.length, List.cons_append, List.nil_append, List.append_nil, List.getElem?_cons_zero, List.getElem?_cons_succ, List.set_cons_zero, List.set_cons_succ, setAll, pureTs, Option.map, fIsi, tyD, tyT, subTy, truD, fLen, asSeq, opI0]) ?_
                simp [w_ok, w_bad, w_bind, w_bindN, w_toS, w_itb, w_var, w_c, w_bin, w_un, w_cmpT, w_mB, w_chain, w_tru, w_andT, w_orT, w_notT, w_andV, w_orV, w_notV, w_if, w_nil, w_cons, w_tup, w_lst, w_lstM, w_call, w_fn, w_fnK, w_meth, w_noP, w_part, w_slice, w_rg1, w_lstRgM, w_lstRg, w_tupRg, w_gNm, w_gTu, w_gNil, w_gCons, w_gSb, w_skip, w_seq, w_asg, w_ret, w_drop, w_ifS, w_par2, w_par3, w_parN, w_runB, w_finV, w_finM, List.map, List.replicate, List.length, List.cons_append, List.nil_append, List.append_nil, List.getElem?_cons_zero, List.getElem?_cons_succ, List.set_cons_zero, List.set_cons_succ, setAll, pureTs, Option.map, fIsi, tyD, tyT, subTy, truD, fLen, asSeq, opI0, take_all, isB, flawT, noteT, hm, hi1, hi2, hB]
          · refine guardT (by simp [w_ok, w_bad, w_bind, w_bindN, w_toS, w_itb, w_var, w_c, w_bin, w_un, w_cmpT, w_mB, w_chain, w_tru, w_andT, w_orT, w_notT, w_andV, w_orV, w_notV, w_if, w_nil, w_cons, w_tup, w_lst, w_lstM, w_call, w_fn, w_fnK, w_meth, w_noP, w_part, w_slice, w_rg1, w_lstRgM, w_lstRg, w_tupRg, w_gNm, w_gTu, w_gNil, w_gCons, w_gSb, w_skip, w_seq, w_asg, w_ret, w_drop, w_ifS, w_par2, w_par3, w_parN, w_runB, w_finV, w_finM, List.map, List.replicate, List.length, List.cons_append, List.nil_append, List.append_nil, List.getElem?_cons_zero, List.getElem?_cons_succ, List.set_cons_zero, List.set_cons_succ, setAll, pureTs, Option.map, fIsi, tyD, tyT, subTy, truD, fLen, asSeq, opI0, show (1 : Int) ≤ (iss.length : Int) by omega, show ¬ (iss.length : Int) ≤ 6 by omega]) ?_
            simp [w_ok, w_bad, w_bind, w_bindN, w_toS, w_itb, w_var, w_c, w_bin, w_un, w_cmpT, w_mB, w_chain, w_tru, w_andT, w_orT, w_notT, w_andV, w_orV, w_notV, w_if, w_nil, w_cons, w_tup, w_lst, w_lstM, w_call, w_fn, w_fnK, w_meth, w_noP, w_part, w_slice, w_rg1, w_lstRgM, w_lstRg, w_tupRg, w_gNm, w_gTu, w_gNil, w_gCons, w_gSb, w_skip, w_seq, w_asg, w_ret, w_drop, w_ifS, w_par2, w_par3, w_parN, w_runB, w_finV, w_finM, List.map, List.replicate, List.length, List.cons_append, List.nil_append, List.append_nil, List.getElem?_cons_zero, List.getElem?_cons_succ, List.set_cons_zero, List.set_cons_succ, setAll, pureTs, Option.map, fIsi, tyD, tyT, subTy, truD, fLen, asSeq, opI0, take_all, isB, flawT, noteT, hm, hi2]
        · refine guardT (by simp [w_ok, w_bad, w_bind, w_bindN, w_toS, w_itb, w_var, w_c, w_bin, w_un, w_cmpT, w_mB, w_chain, w_tru, w_andT, w_orT, w_notT, w_andV, w_orV, w_notV, w_if, w_nil, w_cons, w_tup, w_lst, w_lstM, w_call, w_fn, w_fnK, w_meth, w_noP, w_part, w_slice, w_rg1, w_lstRgM, w_lstRg, w_tupRg, w_gNm, w_gTu, w_gNil, w_gCons, w_gSb, w_skip, w_seq, w_asg, w_ret, w_drop, w_ifS, w_par2, w_par3, w_parN, w_runB, w_finV, w_finM, List.map, List.replicate, List.length, List.cons_append, List.nil_append, List.append_nil, List.getElem?_cons_zero, List.getElem?_cons_succ, List.set_cons_zero, List.set_cons_succ, setAll, pureTs, Option.map, fIsi, tyD, tyT, subTy, truD, fLen, asSeq, opI0, show ¬ (1 : Int) ≤ (iss.length : Int) by omega]) ?_
          simp [w_ok, w_bad, w_bind, w_bindN, w_toS, w_itb, w_var, w_c, w_bin, w_un, w_cmpT, w_mB, w_chain, w_tru, w_andT, w_orT, w_notT, w_andV, w_orV, w_notV, w_if, w_nil, w_cons, w_tup, w_lst, w_lstM, w_call, w_fn, w_fnK, w_meth, w_noP, w_part, w_slice, w_rg1, w_lstRgM, w_lstRg, w_tupRg, w_gNm, w_gTu, w_gNil, w_gCons, w_gSb, w_skip, w_seq, w_asg, w_ret, w_drop, w_ifS, w_par2, w_par3, w_parN, w_runB, w_finV, w_finM, List.map, List.replicate, List.length, List.cons_append, List.nil_append, List.append_nil, List.getElem?_cons_zero, List.getElem?_cons_succ, List.set_cons_zero, List.set_cons_succ, setAll, pureTs, Option.map, fIsi, tyD, tyT, subTy, truD, fLen, asSeq, opI0, take_all, isB, flawT, noteT, hm, hi1]
      | _ =>
        refine guardT (by simp [w_ok, w_bad, w_bind, w_bindN, w_toS, w_itb, w_var, w_c, w_bin, w_un, w_cmpT, w_mB, w_chain, w_tru, w_andT, w_orT, w_notT, w_andV, w_orV, w_notV, w_if, w_nil, w_cons, w_tup, w_lst, w_lstM, w_call, w_fn, w_fnK, w_meth, w_noP, w_part, w_slice, w_rg1, w_lstRgM, w_lstRg, w_tupRg, w_gNm, w_gTu, w_gNil, w_gCons, w_gSb, w_skip, w_seq, w_asg, w_ret, w_drop, w_ifS, w_par2, w_par3, w_parN, w_runB, w_finV, w_finM, List.map, List.replicate, List.length, List.cons_append, List.nil_append, List.append_nil, List.getElem?_cons_zero, List.getElem?_cons_succ, List.set_cons_zero, List.set_cons_succ, setAll, pureTs, Option.map, fIsi, tyD, tyT, subTy, truD, fLen, asSeq, opI0]) ?_
        simp [w_ok, w_bad, w_bind, w_bindN, w_toS, w_itb, w_var, w_c, w_bin, w_un, w_cmpT, w_mB, w_chain, w_tru, w_andT, w_orT, w_notT, w_andV, w_orV, w_notV, w_if, w_nil, w_cons, w_tup, w_lst, w_lstM, w_call, w_fn, w_fnK, w_meth, w_noP, w_part, w_slice, w_rg1, w_lstRgM, w_lstRg, w_tupRg, w_gNm, w_gTu, w_gNil, w_gCons, w_gSb, w_skip, w_seq, w_asg, w_ret, w_drop, w_ifS, w_par2, w_par3, w_parN, w_runB, w_finV, w_finM, List.map, List.replicate, List.length, List.cons_append, List.nil_append, List.append_nil, List.getElem?_cons_zero, List.getElem?_cons_succ, List.set_cons_zero, List.set_cons_succ, setAll, pureTs, Option.map, fIsi, tyD, tyT, subTy, truD, fLen, asSeq, opI0, take_all, isB, flawT, noteT, hm]
    · refine guardT (by simp [w_ok, w_bad, w_bind, w_bindN, w_toS, w_itb, w_var, w_c, w_bin, w_un, w_cmpT, w_mB, w_chain, w_tru, w_andT, w_orT, w_notT, w_andV, w_orV, w_notV, w_if, w_nil, w_cons, w_tup, w_lst, w_lstM, w_call, w_fn, w_fnK, w_meth, w_noP, w_part, w_slice, w_rg1, w_lstRgM, w_lstRg, w_tupRg, w_gNm, w_gTu, w_gNil, w_gCons, w_gSb, w_skip, w_seq, w_asg, w_ret, w_drop, w_ifS, w_par2, w_par3, w_parN, w_runB, w_finV, w_finM, List.map, List.replicate, List.length, List.cons_append, List.nil_append, List.append_nil, List.getElem?_cons_zero, List.getElem?_cons_succ, List.set_cons_zero, List.set_cons_succ, setAll, pureTs, Option.map, fIsi, tyD, tyT, subTy, truD, fLen, asSeq, opI0, opIx, ix0, ix1, ix2, ix3, opEqB, toT, sh_int, sh_book, PyData.eqv, e_is_tuple, e_are_mosts, hm]) ?_
      simp [w_ok, w_bad, w_bind, w_bindN, w_toS, w_itb, w_var, w_c, w_bin, w_un, w_cmpT, w_mB, w_chain, w_tru, w_andT, w_orT, w_notT, w_andV, w_orV, w_notV, w_if, w_nil, w_cons, w_tup, w_lst, w_lstM, w_call, w_fn, w_fnK, w_meth, w_noP, w_part, w_slice, w_rg1, w_lstRgM, w_lstRg, w_tupRg, w_gNm, w_gTu, w_gNil, w_gCons, w_gSb, w_skip, w_seq, w_asg, w_ret, w_drop, w_ifS, w_par2, w_par3, w_parN, w_runB, w_finV, w_finM, List.map, List.replicate, List.length, List.cons_append, List.nil_append, List.append_nil, List.getElem?_cons_zero, List.getElem?_cons_succ, List.set_cons_zero, List.set_cons_succ, setAll, pureTs, Option.map, fIsi, tyD, tyT, subTy, truD, fLen, asSeq, opI0, take_all, isB, flawT, noteT, hm]
  · have hg : flawT v = noteT "form" .none := by
      unfold flawT
      split
      · split
        · rename_i e; subst e; exact absurd ⟨_, _, _, rfl⟩ hform
        · rfl
      · rfl
    refine guardT ?_ (by simp [w_ok, w_bad, w_bind, w_bindN, w_toS, w_itb, w_var, w_c, w_bin, w_un, w_cmpT, w_mB, w_chain, w_tru, w_andT, w_orT, w_notT, w_andV, w_orV, w_notV, w_if, w_nil, w_cons, w_tup, w_lst, w_lstM, w_call, w_fn, w_fnK, w_meth, w_noP, w_part, w_slice, w_rg1, w_lstRgM, w_lstRg, w_tupRg, w_gNm, w_gTu, w_gNil, w_gCons, w_gSb, w_skip, w_seq, w_asg, w_ret, w_drop, w_ifS, w_par2, w_par3, w_parN, w_runB, w_finV, w_finM, List.map, List.replicate, List.length, List.cons_append, List.nil_append, List.append_nil, List.getElem?_cons_zero, List.getElem?_cons_succ, List.set_cons_zero, List.set_cons_succ, setAll, pureTs, Option.map, fIsi, tyD, tyT, subTy, truD, fLen, asSeq, opI0, isB, hg, noteT, hs2, take_all])
    cases v with
    | tuple ts =>
      by_cases h4 : ∃ a b c d, ts = [a, b, c, d]
      · obtain ⟨a, ms, is, cs, rfl⟩ := h4
        cases a with
        | str w =>
          have hw := sh_str (hv w ms is cs rfl).1
          have hb : ¬ w = "book" := fun e => hform ⟨ms, is, cs, by rw [e]⟩
          simp [w_ok, w_bad, w_bind, w_bindN, w_toS, w_itb, w_var, w_c, w_bin, w_un, w_cmpT, w_mB, w_chain, w_tru, w_andT, w_orT, w_notT, w_andV, w_orV, w_notV, w_if, w_nil, w_cons, w_tup, w_lst, w_lstM, w_call, w_fn, w_fnK, w_meth, w_noP, w_part, w_slice, w_rg1, w_lstRgM, w_lstRg, w_tupRg, w_gNm, w_gTu, w_gNil, w_gCons, w_gSb, w_skip, w_seq, w_asg, w_ret, w_drop, w_ifS, w_par2, w_par3, w_parN, w_runB, w_finV, w_finM, List.map, List.replicate, List.length, List.cons_append, List.nil_append, List.append_nil, List.getElem?_cons_zero, List.getElem?_cons_succ, List.set_cons_zero, List.set_cons_succ, setAll, pureTs, Option.map, fIsi, tyD, tyT, subTy, truD, fLen, asSeq, opI0, opIx, ix0, ix1, ix2, ix3, opEqB, toT, sh_int, sh_book, PyData.eqv, hw, hb, e_is_tuple]
        | _ => simp [w_ok, w_bad, w_bind, w_bindN, w_toS, w_itb, w_var, w_c, w_bin, w_un, w_cmpT, w_mB, w_chain, w_tru, w_andT, w_orT, w_notT, w_andV, w_orV, w_notV, w_if, w_nil, w_cons, w_tup, w_lst, w_lstM, w_call, w_fn, w_fnK, w_meth, w_noP, w_part, w_slice, w_rg1, w_lstRgM, w_lstRg, w_tupRg, w_gNm, w_gTu, w_gNil, w_gCons, w_gSb, w_skip, w_seq, w_asg, w_ret, w_drop, w_ifS, w_par2, w_par3, w_parN, w_runB, w_finV, w_finM, List.map, List.replicate, List.length, List.cons_append, List.nil_append, List.append_nil, List.getElem?_cons_zero, List.getElem?_cons_succ, List.set_cons_zero, List.set_cons_succ, setAll, pureTs, Option.map, fIsi, tyD, tyT, subTy, truD, fLen, asSeq, opI0, opIx, ix0, ix1, ix2, ix3, opEqB, toT, sh_int, sh_book, PyData.eqv, e_is_tuple]
      · have hl : ((ts.length : Int) == 4) = false := by
          have := ne_four (ts := ts) (fun a b c d e => h4 ⟨a, b, c, d, e⟩)
          simp; omega
        simp [w_ok, w_bad, w_bind, w_bindN, w_toS, w_itb, w_var, w_c, w_bin, w_un, w_cmpT, w_mB, w_chain, w_tru, w_andT, w_orT, w_notT, w_andV, w_orV, w_notV, w_if, w_nil, w_cons, w_tup, w_lst, w_lstM, w_call, w_fn, w_fnK, w_meth, w_noP, w_part, w_slice, w_rg1, w_lstRgM, w_lstRg, w_tupRg, w_gNm, w_gTu, w_gNil, w_gCons, w_gSb, w_skip, w_seq, w_asg, w_ret, w_drop, w_ifS, w_par2, w_par3, w_parN, w_runB, w_finV, w_finM, List.map, List.replicate, List.length, List.cons_append, List.nil_append, List.append_nil, List.getElem?_cons_zero, List.getElem?_cons_succ, List.set_cons_zero, List.set_cons_succ, setAll, pureTs, Option.map, fIsi, tyD, tyT, subTy, truD, fLen, asSeq, opI0, opIx, ix0, ix1, ix2, ix3, opEqB, toT, sh_int, sh_book, PyData.eqv, hl, e_is_tuple]
    | _ => simp [w_ok, w_bad, w_bind, w_bindN, w_toS, w_itb, w_var, w_c, w_bin, w_un, w_cmpT, w_mB, w_chain, w_tru, w_andT, w_orT, w_notT, w_andV, w_orV, w_notV, w_if, w_nil, w_cons, w_tup, w_lst, w_lstM, w_call, w_fn, w_fnK, w_meth, w_noP, w_part, w_slice, w_rg1, w_lstRgM, w_lstRg, w_tupRg, w_gNm, w_gTu, w_gNil, w_gCons, w_gSb, w_skip, w_seq, w_asg, w_ret, w_drop, w_ifS, w_par2, w_par3, w_parN, w_runB, w_finV, w_finM, List.map, List.replicate, List.length, List.cons_append, List.nil_append, List.append_nil, List.getElem?_cons_zero, List.getElem?_cons_succ, List.set_cons_zero, List.set_cons_succ, setAll, pureTs, Option.map, fIsi, tyD, tyT, subTy, truD, fLen, asSeq, opI0, e_is_tuple]
end Law

namespace Law
open PySem PL
open L2 (atI ixN CDiv CMul CPow RgOk)
/-! ### values in bounds -/
mutual
def lv (n : Nat) : T → Bool
  | .none => true
  | .bool _ => true
  | .int i => decide (i.natAbs < n)
  | .str x => PyData.strOk x
  | .list ts => lvs n ts
  | .tuple ts => lvs n ts
  | .dict kvs => kvs.isEmpty
def lvs (n : Nat) : List T → Bool
  | [] => true
  | t :: ts => lv n t && lvs n ts
end
mutual
def wd (k : Nat) : T → Bool
  | .list ts => decide (ts.length ≤ k) && wds k ts
  | .tuple ts => decide (ts.length ≤ k) && wds k ts
  | _ => true
def wds (k : Nat) : List T → Bool
  | [] => true
  | t :: ts => wd k t && wds k ts
end
mutual
theorem wd_mono {n m : Nat} (h : n ≤ m) : ∀ t : T, wd n t = true → wd m t = true
  | .none, _ => rfl
  | .bool _, _ => rfl
  | .int i, e => rfl
  | .str x, e => rfl
  | .list ts, e => by simp only [wd, Bool.and_eq_true, decide_eq_true_eq] at e ⊢; exact ⟨Nat.le_trans e.1 h, wds_mono h ts e.2⟩
  | .tuple ts, e => by simp only [wd, Bool.and_eq_true, decide_eq_true_eq] at e ⊢; exact ⟨Nat.le_trans e.1 h, wds_mono h ts e.2⟩
  | .dict kvs, e => rfl
theorem wds_mono {n m : Nat} (h : n ≤ m) : ∀ ts : List T, wds n ts = true → wds m ts = true
  | [], _ => rfl
  | t :: ts, e => by
    simp only [wds, Bool.and_eq_true] at e ⊢
    exact ⟨wd_mono h t e.1, wds_mono h ts e.2⟩
end
theorem wds_all {k : Nat} : ∀ xs : List T, wds k xs = xs.all (wd k)
  | [] => rfl
  | x :: xs => by simp only [wds, List.all_cons, wds_all xs]
theorem wds_app {n : Nat} (xs ys : List T) : wds n (xs ++ ys) = (wds n xs && wds n ys) := by simp [wds_all]
/-- within n (ints), c (signs and items), d (levels), k (items side by side) -/
structure OkL (n c d k : Nat) (ts : List T) : Prop where
  w : wds k ts = true
  l : lvs n ts = true
  b : PyData.bulkAll ts ≤ c
  d : PyData.depthAll ts ≤ d
structure OkT (n c d k : Nat) (t : T) : Prop where
  w : wd k t = true
  l : lv n t = true
  b : t.bulk ≤ c
  d : t.depth ≤ d
mutual
theorem lv_mono {n m : Nat} (h : n ≤ m) : ∀ t : T, lv n t = true → lv m t = true
  | .none, _ => rfl
  | .bool _, _ => rfl
  | .int i, e => by simp only [lv, decide_eq_true_eq] at e ⊢; omega
  | .str x, e => by simpa only [lv] using e
  | .list ts, e => by simp only [lv] at e ⊢; exact lvs_mono h ts e
  | .tuple ts, e => by simp only [lv] at e ⊢; exact lvs_mono h ts e
  | .dict kvs, e => by simpa only [lv] using e
theorem lvs_mono {n m : Nat} (h : n ≤ m) : ∀ ts : List T, lvs n ts = true → lvs m ts = true
  | [], _ => rfl
  | t :: ts, e => by
    simp only [lvs, Bool.and_eq_true] at e ⊢
    exact ⟨lv_mono h t e.1, lvs_mono h ts e.2⟩
end
section
variable {n c d k n' c' d' k' : Nat} {t : T} {ts us : List T}
theorem OkT.mono (h : OkT n c d k t) (h1 : n ≤ n' := by omega) (h2 : c ≤ c' := by omega) (h3 : d ≤ d' := by omega) (h4 : k ≤ k' := by omega) : OkT n' c' d' k' t := ⟨wd_mono h4 t h.w, lv_mono h1 t h.l, Nat.le_trans h.b h2, Nat.le_trans h.d h3⟩
theorem OkL.mono (h : OkL n c d k ts) (h1 : n ≤ n' := by omega) (h2 : c ≤ c' := by omega) (h3 : d ≤ d' := by omega) (h4 : k ≤ k' := by omega) : OkL n' c' d' k' ts := ⟨wds_mono h4 ts h.w, lvs_mono h1 ts h.l, Nat.le_trans h.b h2, Nat.le_trans h.d h3⟩
theorem OkL.nil : OkL n 0 0 k [] := ⟨rfl, rfl, Nat.le_refl _, Nat.le_refl _⟩
theorem OkL.cons (h : OkT n c d k t) (h2 : OkL n c' d k ts) : OkL n (c + 1 + c') d k (t :: ts) :=
  ⟨by simp [wds, h.w, h2.w], by simp [lvs, h.l, h2.l], by have := h.b; have := h2.b; simp only [PyData.bulkAll]; omega, by have := h.d; have := h2.d; simp only [PyData.depthAll]; omega⟩
theorem OkT.tup (h : OkL n c d k ts) (hk : ts.length ≤ k) : OkT n c (d + 1) k (.tuple ts) := ⟨by simp [wd, h.w, hk], by simpa [lv] using h.l, by simpa [PyData.bulk] using h.b, by simp only [PyData.depth]; have := h.d; omega⟩
theorem OkT.lst (h : OkL n c d k ts) (hk : ts.length ≤ k) : OkT n c (d + 1) k (.list ts) := ⟨by simp [wd, h.w, hk], by simpa [lv] using h.l, by simpa [PyData.bulk] using h.b, by simp only [PyData.depth]; have := h.d; omega⟩
theorem OkT.unT (h : OkT n c d k (.tuple ts)) : OkL n c (d - 1) k ts ∧ 1 ≤ d ∧ ts.length ≤ k := by
  have hw := h.w
  simp only [wd, Bool.and_eq_true, decide_eq_true_eq] at hw
  have hd := h.d
  simp only [PyData.depth] at hd
  exact ⟨⟨hw.2, by simpa [lv] using h.l, by simpa [PyData.bulk] using h.b, by omega⟩, by omega, hw.1⟩
theorem bulk_app : ∀ xs ys : List T, PyData.bulkAll (xs ++ ys) = PyData.bulkAll xs + PyData.bulkAll ys
  | [], ys => by simp [PyData.bulkAll]
  | x :: xs, ys => by simp only [List.cons_append, PyData.bulkAll, bulk_app xs ys]; omega
theorem depth_app : ∀ xs ys : List T, PyData.depthAll (xs ++ ys) = max (PyData.depthAll xs) (PyData.depthAll ys)
  | [], ys => by simp [PyData.depthAll]
  | x :: xs, ys => by simp only [List.cons_append, PyData.depthAll, depth_app xs ys]; omega
theorem lvs_app {n : Nat} : ∀ xs ys : List T, lvs n (xs ++ ys) = (lvs n xs && lvs n ys)
  | [], ys => by simp [lvs]
  | x :: xs, ys => by simp only [List.cons_append, lvs, lvs_app xs ys, Bool.and_assoc]
theorem OkL.app (h : OkL n c d k ts) (h2 : OkL n c' d k us) : OkL n (c + c') d k (ts ++ us) :=
  ⟨by rw [wds_app, h.w, h2.w]; rfl, by rw [lvs_app, h.l, h2.l]; rfl, by rw [bulk_app]; have := h.b; have := h2.b; omega, by rw [depth_app]; have := h.d; have := h2.d; omega⟩
theorem OkL.unapp (h : OkL n c d k (ts ++ us)) : OkL n c d k ts ∧ OkL n c d k us ∧ PyData.bulkAll ts + PyData.bulkAll us ≤ c := by
  obtain ⟨h0, h1, h2, h3⟩ := h
  rw [wds_app, Bool.and_eq_true] at h0
  rw [lvs_app, Bool.and_eq_true] at h1
  rw [bulk_app] at h2
  rw [depth_app] at h3
  exact ⟨⟨h0.1, h1.1, by omega, by omega⟩, ⟨h0.2, h1.2, by omega, by omega⟩, h2⟩
theorem OkL.get (h : OkL n c d k ts) (ht : t ∈ ts) : OkT n c d k t := by
  obtain ⟨a, b, rfl⟩ := List.append_of_mem ht
  obtain ⟨_, h2, _⟩ := h.unapp
  obtain ⟨h0, h1, h3, h4⟩ := h2
  simp only [wds, Bool.and_eq_true] at h0
  simp only [lvs, Bool.and_eq_true] at h1
  simp only [PyData.bulkAll] at h3
  simp only [PyData.depthAll] at h4
  exact ⟨h0.1, h1.1, by omega, by omega⟩
theorem OkL.take (h : OkL n c d k ts) (j : Nat) : OkL n c d k (ts.take j) := by
  have := List.take_append_drop j ts
  rw [← this] at h
  exact h.unapp.1
theorem OkL.drop (h : OkL n c d k ts) (j : Nat) : OkL n c d k (ts.drop j) := by
  have := List.take_append_drop j ts
  rw [← this] at h
  exact h.unapp.2.1
theorem bulk_len : ∀ xs : List T, xs.length ≤ PyData.bulkAll xs
  | [] => Nat.zero_le _
  | x :: xs => by have := bulk_len xs; simp only [List.length_cons, PyData.bulkAll]; omega
theorem OkL.len (h : OkL n c d k ts) : ts.length ≤ c := Nat.le_trans (bulk_len ts) h.b
theorem bulk_rev : ∀ xs : List T, PyData.bulkAll xs.reverse = PyData.bulkAll xs ∧ PyData.depthAll xs.reverse = PyData.depthAll xs
  | [] => ⟨rfl, rfl⟩
  | x :: xs => by
    obtain ⟨h1, h2⟩ := bulk_rev xs
    rw [List.reverse_cons, bulk_app, depth_app, h1, h2]
    simp only [PyData.bulkAll, PyData.depthAll]
    omega
theorem lvs_all {n : Nat} : ∀ xs : List T, lvs n xs = xs.all (lv n)
  | [] => rfl
  | x :: xs => by simp only [lvs, List.all_cons, lvs_all xs]
theorem OkL.rev (h : OkL n c d k ts) : OkL n c d k ts.reverse := by
  obtain ⟨h1, h2⟩ := bulk_rev ts
  exact ⟨by rw [wds_all, List.all_reverse, ← wds_all]; exact h.w, by rw [lvs_all, List.all_reverse, ← lvs_all]; exact h.l, by rw [h1]; exact h.b, by rw [h2]; exact h.d⟩
/-- an item put in place of another -/
theorem OkL.put {j : Nat} (h : OkL n c d k ts) (hk : j < ts.length) {t' : T} (ht : OkT n' c' d' k' t') (hn : n ≤ n' := by omega) (hd : d ≤ d' := by omega) (hkk : k ≤ k' := by omega) : OkL n' (c + (c' + 1)) d' k' (ts.take j ++ [t'] ++ ts.drop (j + 1)) := by
  have e : ts = ts.take j ++ ([ts[j]] ++ ts.drop (j + 1)) := by
    rw [List.singleton_append, ← List.drop_eq_getElem_cons hk, List.take_append_drop]
  have hb := h.b
  rw [e, bulk_app, bulk_app] at hb
  have hm := h.mono (n' := n') (c' := c) (d' := d') (k' := k')
  refine ⟨?_, ?_, ?_, ?_⟩
  · rw [wds_app, wds_app, (hm.take j).w, (hm.drop (j + 1)).w]
    simp [wds, ht.w]
  · rw [lvs_app, lvs_app, (hm.take j).l, (hm.drop (j + 1)).l]
    simp [lvs, ht.l]
  · rw [bulk_app, bulk_app]
    have := ht.b
    simp only [PyData.bulkAll] at hb ⊢
    omega
  · rw [depth_app, depth_app]
    have h1 := (hm.take j).d
    have h2 := (hm.drop (j + 1)).d
    have := ht.d
    simp only [PyData.depthAll]
    omega
end
/-! what such a value's repr comes to -/
theorem small_log {i : Int} {n : Nat} (h : i.natAbs < n) (hn : n ≤ 10 ^ 40) : i.natAbs.log2 < 1920 := by
  by_cases h0 : i.natAbs = 0
  · rw [h0]; decide
  · refine (Nat.log2_lt h0).mpr (Nat.lt_of_lt_of_le (Nat.lt_of_lt_of_le h hn) ?_)
    exact Nat.le_trans (show 10 ^ 40 ≤ 2 ^ 140 by decide) (Nat.pow_le_pow_right (by decide) (by decide))
mutual
theorem lv_show {n : Nat} (hn : n ≤ 10 ^ 40) : ∀ t : T, lv n t = true → t.showable = true ∧ t.leavesShort 41 = true
  | .none, _ => ⟨rfl, rfl⟩
  | .bool _, _ => ⟨rfl, rfl⟩
  | .int i, e => by
    simp only [lv, decide_eq_true_eq] at e
    refine ⟨by simp only [PyData.showable, decide_eq_true_eq]; exact small_log e hn, ?_⟩
    simp only [PyData.leavesShort, decide_eq_true_eq]
    have e := int_text_length_le10 (k := 40) (by decide) (Nat.lt_of_lt_of_le e hn)
    show (Str.ofString (toString i)).length ≤ 41
    rw [ofString_length]; exact e
  | .str x, e => by
    simp only [lv] at e
    refine ⟨rfl, ?_⟩
    simp only [PyData.leavesShort, List.all_eq_true, decide_eq_true_eq]
    intro c hc
    unfold PyData.strOk at e
    have := Array.all_eq_true'.mp e c (by simpa using hc)
    have h2 := of_decide_eq_true this
    exact Nat.lt_of_lt_of_le h2 (by decide)
  | .list ts, e => by
    simp only [lv] at e
    simp only [PyData.showable, PyData.leavesShort]
    exact lvs_show hn ts e
  | .tuple ts, e => by
    simp only [lv] at e
    simp only [PyData.showable, PyData.leavesShort]
    exact lvs_show hn ts e
  | .dict kvs, e => by
    simp only [lv, List.isEmpty_iff] at e
    subst e
    exact ⟨rfl, rfl⟩
theorem lvs_show {n : Nat} (hn : n ≤ 10 ^ 40) : ∀ ts : List T, lvs n ts = true → PyData.showableAll ts = true ∧ PyData.leavesShortAll 41 ts = true
  | [], _ => ⟨rfl, rfl⟩
  | t :: ts, e => by
    simp only [lvs, Bool.and_eq_true] at e
    obtain ⟨h1, h2⟩ := lv_show hn t e.1
    obtain ⟨h3, h4⟩ := lvs_show hn ts e.2
    simp only [PyData.showableAll, PyData.leavesShortAll, h1, h2, h3, h4, Bool.and_self, and_self]
end
theorem OkT.repr {n c d k : Nat} {t : T} {st : Sto} (h : OkT n c d k t) (hn : n ≤ 10 ^ 40 := by decide) (hc : c ≤ 300000 := by decide) (hd : d ≤ 64 := by decide) : fRepr [.v t] st = .ok (.v (.str t.shown)) st := by
  obtain ⟨h1, h2⟩ := lv_show hn t h.l
  have h3 := PyData.shown_le_bulk 41 (by decide) t h2
  have h4 := h.b
  have h5 : t.shown.length ≤ sizeLine := by
    have : (41 + 2) * t.bulk + 41 ≤ (41 + 2) * 300000 + 41 := by omega
    exact Nat.le_trans (Nat.le_trans h3 this) (by decide)
  have h6 := h.d
  simp only [fRepr, toT, h1, true_and, h5, and_true]
  rw [if_pos (by omega)]
theorem lv_fineG {n : Nat} {t : T} (h : lv n t = true) : fineG t = true := by
  cases t with
  | tuple ts =>
    simp only [lv, lvs_all] at h
    simp only [fineG, List.all_eq_true] at h ⊢
    intro u hu
    have := h u hu
    cases u with
    | str w => simpa [lv, sOkT] using this
    | _ => rfl
  | _ => rfl
theorem lv_fineI {n : Nat} {t : T} (h : lv n t = true) : fineI t = true := by
  cases t with
  | tuple ts =>
    simp only [lv, lvs_all] at h
    simp only [fineI, List.all_eq_true] at h ⊢
    exact fun u hu => lv_fineG (h u hu)
  | _ => rfl
theorem lv_fineB {n : Nat} {v : T} (h : lv n v = true) : fineB v := by
  rintro w ms is cs rfl
  simp only [lv, lvs, Bool.and_eq_true] at h
  refine ⟨h.1, fun iss e t ht => ?_⟩
  subst e
  have := h.2.2.1
  simp only [lv, lvs_all, List.all_eq_true] at this
  exact lv_fineI (this t ht)
end Law

namespace Law
open PySem PL
open L2 (atI ixN CDiv CMul CPow RgOk)
/-! ### drawing -/
def okB (n c d k : Nat) (t : T) : Bool := lv n t && decide (t.bulk ≤ c) && decide (t.depth ≤ d) && wd k t
theorem okB_ok {n c d k : Nat} {t : T} (h : okB n c d k t = true) : OkT n c d k t := by
  simp only [okB, Bool.and_eq_true, decide_eq_true_eq] at h
  exact ⟨h.2, h.1.1.1, h.1.1.2, h.1.2⟩
theorem okB_all {n c d k : Nat} {ts : List T} (h : ts.all (okB n c d k) = true) : ∀ t ∈ ts, OkT n c d k t := fun t ht => okB_ok (List.all_eq_true.mp h t ht)
def Pt (n : Nat) (st s : Sto) : Prop := ∃ p, s = List.set st n p ∧ PotO p
section
variable {n : Nat} {st s s' : Sto}
theorem Pt.get (hn : n < List.length st) (h : Pt n st s) : ∃ p, s[n]? = some p ∧ PotO p := by
  obtain ⟨p, rfl, hp⟩ := h
  exact ⟨p, List.getElem?_set_self hn, hp⟩
theorem Pt.len (h : Pt n st s) : List.length s = List.length st := by
  obtain ⟨p, rfl, _⟩ := h
  simp
theorem Pt.trans (h : Pt n st s) (h' : Pt n s s') : Pt n st s' := by
  obtain ⟨p, rfl, hp⟩ := h
  obtain ⟨q, rfl, hq⟩ := h'
  exact ⟨q, List.set_set .., hq⟩
theorem Pt.start {p : MO} (h : st[n]? = some p) (hp : PotO p) : Pt n st st := by
  obtain ⟨hn, e⟩ := List.getElem?_eq_some_iff.mp h
  exact ⟨p, by rw [← e, List.set_getElem_self], hp⟩
theorem Pt.app {l : Sto} (hn : n < List.length st) (h : Pt n (st ++ l) s) : ∃ s1, s = s1 ++ l ∧ Pt n st s1 := by
  obtain ⟨p, rfl, hp⟩ := h
  exact ⟨List.set st n p, List.set_append_left _ _ hn, p, rfl, hp⟩
theorem Pt.up {l : Sto} (hn : n < List.length st) (h : Pt n st s) : Pt n (st ++ l) (s ++ l) := by
  obtain ⟨p, rfl, hp⟩ := h
  exact ⟨p, (List.set_append_left _ _ hn).symm, hp⟩
theorem Pt.take (h : Pt n st s) : List.take (List.length st) s = s := List.take_of_length_le (Nat.le_of_eq h.len)
theorem draw_pt {k : Int} (hn : n < List.length st) (h : Pt n st s) (hs : 0 < k) (hs2 : k < 1073741824) : EvO (F_lw_draw [.ref n, .v (.int k)] s) fun d s' => Pt n st s' ∧ ∃ i : Int, d = .v (.int i) ∧ 0 ≤ i ∧ i < k := by
  obtain ⟨p, hp, hpo⟩ := h.get hn
  refine EvO.imp (draw_ok hp hpo hs hs2) fun d s1 ⟨t, q, e1, e2, hq, i, e3, h1, h2⟩ => ?_
  subst e1 e2 e3
  exact ⟨h.trans ⟨q, rfl, hq⟩, i, rfl, h1, h2⟩
theorem draw_app {k : Int} {l : Sto} (hn : n < List.length st) (h : Pt n st s) (hs : 0 < k) (hs2 : k < 1073741824) : EvO (F_lw_draw [.ref n, .v (.int k)] (s ++ l)) fun d s' => ∃ s1, s' = s1 ++ l ∧ Pt n st s1 ∧ ∃ i : Int, d = .v (.int i) ∧ 0 ≤ i ∧ i < k := by
  refine EvO.imp (draw_pt (st := st ++ l) (by simp; omega) (h.up hn) hs hs2) fun d s1 ⟨h1, h2⟩ => ?_
  obtain ⟨s2, e, h3⟩ := h1.app hn
  exact ⟨s2, e, h3, h2⟩
theorem pick_pt {xs : List T} (hn : n < List.length st) (h : Pt n st s) (hs : 0 < xs.length) (hs2 : xs.length < 1073741824) : EvO (F_lw_pick [.ref n, .v (.list xs)] s) fun d s' => Pt n st s' ∧ ∃ x ∈ xs, d = .v x := by
  unfold F_lw_pick m_lw_pick
  simp only [w_ok, w_bad, w_bind, w_bindN, w_toS, w_itb, w_var, w_c, w_bin, w_un, w_cmpT, w_mB, w_chain, w_tru, w_andT, w_orT, w_notT, w_andV, w_orV, w_notV, w_if, w_nil, w_cons, w_tup, w_lst, w_lstM, w_call, w_fn, w_fnK, w_meth, w_noP, w_part, w_slice, w_rg1, w_lstRgM, w_lstRg, w_tupRg, w_gNm, w_gTu, w_gNil, w_gCons, w_gSb, w_skip, w_seq, w_asg, w_ret, w_drop, w_ifS, w_par2, w_par3, w_parN, w_runB, w_finV, w_finM, List.map, List.replicate, List.length, List.cons_append, List.nil_append, List.append_nil, List.getElem?_cons_zero, List.getElem?_cons_succ, List.set_cons_zero, List.set_cons_succ, setAll, pureTs, Option.map, fLen, asSeq, asL, asLt]
  refine ⟨trivial, EvO.imp (draw_pt hn h (by omega) (by omega)) fun d s1 ⟨h1, i, e, h2, h3⟩ => ?_⟩
  subst e
  have hi : i.toNat < xs.length := by omega
  have ha : atI xs i = some xs[i.toNat] := by
    have := ixi (l := xs) (i := i.toNat) (List.getElem?_eq_getElem hi)
    rwa [show ((i.toNat : Nat) : Int) = i by omega] at this
  simp only [opIx, asSeq, asL, asLt, ha, w_ok, w_finV]
  refine ⟨?_, _, List.getElem_mem hi, rfl⟩
  rw [List.take_of_length_le (by rw [h1.len, h.len]; exact Nat.le_refl _)]
  exact h1
theorem pick_app {xs : List T} {l : Sto} (hn : n < List.length st) (h : Pt n st s) (hs : 0 < xs.length) (hs2 : xs.length < 1073741824) : EvO (F_lw_pick [.ref n, .v (.list xs)] (s ++ l)) fun d s' => ∃ s1, s' = s1 ++ l ∧ Pt n st s1 ∧ ∃ x ∈ xs, d = .v x := by
  refine EvO.imp (pick_pt (st := st ++ l) (by simp; omega) (h.up hn) hs hs2) fun d s1 ⟨h1, h2⟩ => ?_
  obtain ⟨s2, e, h3⟩ := h1.app hn
  exact ⟨s2, e, h3, h2⟩
/-- at an end: the store is as long as it was -/
theorem fin_pt {s0 : Sto} {t : T} {Q : D → Sto → Prop} (h0 : Pt n st s0) (h : Pt n st s) (q : Q (.v t) s) : EvO (fin (List.length s0) s (.v t)) Q := by
  rw [w_finV, List.take_of_length_le (by rw [h.len, h0.len]; exact Nat.le_refl _)]
  exact q
end
theorem intsT_map : ∀ ns : List Int, intsT (ns.map .int) = some ns
  | [] => rfl
  | n :: ns => by simp only [List.map_cons, intsT, intsT_map ns, Option.map]
theorem cut_map {lo hi : Option Int} (ns : List Int) : cutT (ns.map PyData.int) lo hi = (cutT ns lo hi).map .int := by
  simp [cutT, List.map_take, List.map_drop]
theorem ite_nn (x : Int) : 0 ≤ (if x > 0 then x else 0) := by split <;> omega
theorem pot_ok {ns : List Int} {k : Nat} {st : Sto} (hk : k ≤ 100) : EvO (F_lw_pot [.rol (ns.map .int), .v (.int k)] st) fun d s => ∃ p, d = .ref (List.length st) ∧ s = st ++ [p] ∧ PotO p := by
  unfold F_lw_pot m_lw_pot
  have cm : ∀ i j : Int, (0 ≤ j ∧ j < 2 ^ 63) → CMul i j := fun i j h => .inr ⟨by omega, by omega⟩
  have hm : ∀ i : Int, 0 ≤ i % 2147483563 ∧ i % 2147483563 < 2147483563 := fun i => ⟨Int.emod_nonneg _ (by decide), Int.emod_lt_of_pos _ (by decide)⟩
  by_cases h : k < ns.length
  · have ha : atI (ns.map PyData.int) (k : Int) = some (.int ns[k]) := ixi (by simp [h])
    simp only [w_ok, w_bad, w_bind, w_bindN, w_toS, w_itb, w_var, w_c, w_bin, w_un, w_cmpT, w_mB, w_chain, w_tru, w_andT, w_orT, w_notT, w_andV, w_orV, w_notV, w_if, w_nil, w_cons, w_tup, w_lst, w_lstM, w_call, w_fn, w_fnK, w_meth, w_noP, w_part, w_slice, w_rg1, w_lstRgM, w_lstRg, w_tupRg, w_gNm, w_gTu, w_gNil, w_gCons, w_gSb, w_skip, w_seq, w_asg, w_ret, w_drop, w_ifS, w_par2, w_par3, w_parN, w_runB, w_finV, w_finM, List.map, List.replicate, List.length, List.cons_append, List.nil_append, List.append_nil, List.getElem?_cons_zero, List.getElem?_cons_succ, List.set_cons_zero, List.set_cons_succ, setAll, pureTs, Option.map, fLen, asSeq, asL, asLt, opIx, opI0, opI, fAbs, fMax2, opAdd, opMul, opMod, opPow, fInt, fSum, onInts, opSl, cut_map, intsT_map, List.length_map, ha]
    rw [if_pos (by simp; omega)]
    exact ⟨⟨by decide, by decide, by decide⟩, by decide, cm _ _ (by decide), cm _ _ (by omega), by decide, by decide, _, trivial, rfl, _, _, rfl, ite_nn _, Int.add_nonneg (hm _).1 (by decide), Int.lt_of_lt_of_le (Int.add_lt_add_right (hm _).2 1) (by decide)⟩
  · simp only [w_ok, w_bad, w_bind, w_bindN, w_toS, w_itb, w_var, w_c, w_bin, w_un, w_cmpT, w_mB, w_chain, w_tru, w_andT, w_orT, w_notT, w_andV, w_orV, w_notV, w_if, w_nil, w_cons, w_tup, w_lst, w_lstM, w_call, w_fn, w_fnK, w_meth, w_noP, w_part, w_slice, w_rg1, w_lstRgM, w_lstRg, w_tupRg, w_gNm, w_gTu, w_gNil, w_gCons, w_gSb, w_skip, w_seq, w_asg, w_ret, w_drop, w_ifS, w_par2, w_par3, w_parN, w_runB, w_finV, w_finM, List.map, List.replicate, List.length, List.cons_append, List.nil_append, List.append_nil, List.getElem?_cons_zero, List.getElem?_cons_succ, List.set_cons_zero, List.set_cons_succ, setAll, pureTs, Option.map, fLen, asSeq, asL, asLt, opIx, opI0, opI, fAbs, fMax2, opAdd, opMul, opMod, opPow, fInt, fSum, onInts, opSl, cut_map, intsT_map, List.length_map]
    rw [if_neg (by simp; omega)]
    exact ⟨cm _ _ (by omega), by decide, ⟨by decide, by decide, by decide⟩, by decide, cm _ _ (by decide), cm _ _ (by omega), by decide, by decide, _, trivial, rfl, _, _, rfl, ite_nn _, Int.add_nonneg (hm _).1 (by decide), Int.lt_of_lt_of_le (Int.add_lt_add_right (hm _).2 1) (by decide)⟩
theorem cut_take {ts : List T} {i : Int} (h0 : 0 ≤ i) (h1 : i ≤ ts.length) : cutT ts none (some i) = ts.take i.toNat := by
  have e : HT.sIx ts.length ts.length (some i) = i.toNat := by
    show (if i < 0 then _ else min i.toNat ts.length) = _
    rw [if_neg (by omega)]; omega
  unfold cutT
  rw [e]
  simp [HT.sIx]
theorem cut_drop {ts : List T} {i : Int} (h0 : 0 ≤ i) (h1 : i ≤ ts.length) : cutT ts (some i) none = ts.drop i.toNat := by
  have e : HT.sIx ts.length 0 (some i) = i.toNat := by
    show (if i < 0 then _ else min i.toNat ts.length) = _
    rw [if_neg (by omega)]; omega
  unfold cutT
  rw [e]
  simp only [HT.sIx]
  rw [List.take_of_length_le (by rw [List.length_drop]; exact Nat.le_refl _)]
theorem at_int {ts : List T} {i : Int} (h0 : 0 ≤ i) (h1 : i < ts.length) : ∃ h : i.toNat < ts.length, atI ts i = some ts[i.toNat] := by
  have hi : i.toNat < ts.length := by omega
  refine ⟨hi, ?_⟩
  have := ixi (l := ts) (i := i.toNat) (List.getElem?_eq_getElem hi)
  rwa [show ((i.toNat : Nat) : Int) = i by omega] at this
end Law

namespace Law
open PySem PL
open L2 (atI ixN CDiv CMul CPow RgOk)
/-! ### making issues -/
def ST (s1 B : Sto) (gs ls : List T) : Sto := s1 ++ (B ++ [.lst gs, .lst ls])
section
variable {s1 B : Sto} {gs ls gs' ls' : List T} {A : Nat}
theorem st_g (hA : A = List.length s1 + List.length B) : (ST s1 B gs ls)[A]? = some (.lst gs) := by
  subst hA
  unfold ST
  rw [List.getElem?_append_right (by omega), List.getElem?_append_right (by omega)]
  simp
theorem st_l (hA : A = List.length s1 + List.length B) : (ST s1 B gs ls)[A + 1]? = some (.lst ls) := by
  subst hA
  unfold ST
  rw [List.getElem?_append_right (by omega), List.getElem?_append_right (by omega)]
  have : List.length s1 + List.length B + 1 - List.length s1 - List.length B = 1 := by omega
  rw [this]; rfl
theorem set_g (hA : A = List.length s1 + List.length B) : List.set (ST s1 B gs ls) A (.lst gs') = ST s1 B gs' ls := by
  subst hA
  unfold ST
  rw [List.set_append_right _ _ (by omega), List.set_append_right _ _ (by omega)]
  have : List.length s1 + List.length B - List.length s1 - List.length B = 0 := by omega
  rw [this]; rfl
theorem set_l (hA : A = List.length s1 + List.length B) : List.set (ST s1 B gs ls) (A + 1) (.lst ls') = ST s1 B gs ls' := by
  subst hA
  unfold ST
  rw [List.set_append_right _ _ (by omega), List.set_append_right _ _ (by omega)]
  have : List.length s1 + List.length B + 1 - List.length s1 - List.length B = 1 := by omega
  rw [this]; rfl
theorem draw_st {n : Nat} {st : Sto} {k : Int} (hn : n < List.length st) (h : Pt n st s1) (hs : 0 < k) (hs2 : k < 1073741824) : EvO (F_lw_draw [.ref n, .v (.int k)] (ST s1 B gs ls)) fun d s' => ∃ s2, s' = ST s2 B gs ls ∧ Pt n st s2 ∧ ∃ i : Int, d = .v (.int i) ∧ 0 ≤ i ∧ i < k := draw_app hn h hs hs2
theorem pick_st {n : Nat} {st : Sto} {xs : List T} (hn : n < List.length st) (h : Pt n st s1) (hs : 0 < xs.length) (hs2 : xs.length < 1073741824) : EvO (F_lw_pick [.ref n, .v (.list xs)] (ST s1 B gs ls)) fun d s' => ∃ s2, s' = ST s2 B gs ls ∧ Pt n st s2 ∧ ∃ x ∈ xs, d = .v x := pick_app hn h hs hs2
end
structure Gd (f m o : Int) (gs : List T) : Prop where
  gr : ∀ t ∈ gs, grOk t f m o = true
  nd : (gs.map hpT).Nodup
  ok : ∀ t ∈ gs, OkT 20 8 1 12 t
theorem Gd.nil {f m o : Int} : Gd f m o [] := ⟨fun t h => (by cases h), by simp, fun t h => (by cases h)⟩
theorem Gd.add {f m o : Int} {gs : List T} {t : T} (h : Gd f m o gs) (h1 : grOk t f m o = true) (h2 : hpT t ∉ gs.map hpT) (h3 : OkT 20 8 1 12 t) : Gd f m o (gs ++ [t]) := by
  refine ⟨fun u hu => ?_, ?_, fun u hu => ?_⟩
  · rcases List.mem_append.mp hu with hu | hu
    · exact h.gr u hu
    · rw [List.mem_singleton] at hu; subst hu; exact h1
  · rw [List.map_append, List.nodup_append]
    refine ⟨h.nd, by simp, fun a ha b hb => ?_⟩
    simp only [List.map_cons, List.map_nil, List.mem_singleton] at hb
    subst hb
    rintro rfl
    exact h2 ha
  · rcases List.mem_append.mp hu with hu | hu
    · exact h.ok u hu
    · rw [List.mem_singleton] at hu; subst hu; exact h3
theorem ixN_ok {n : Nat} {i : Int} (h0 : 0 ≤ i) (h1 : i < n) : ixN n i = some i.toNat := by
  unfold ixN
  rw [if_pos h0, if_pos h1]
theorem gr_fact {f m o x b : Int} (h0 : 0 ≤ x) (h1 : x < f) (b0 : 0 ≤ b) (b1 : b < 2) : grOk (.tuple [.str "fact", .int x, .int b]) f m o = true := by
  simp [grOk, isW]; omega
theorem gr_issue {f m o x b : Int} (h0 : o < x) (h1 : x < m) (b0 : 0 ≤ b) (b1 : b < 2) : grOk (.tuple [.str "issue", .int x, .int b]) f m o = true := by
  simp [grOk, isW, hne]; omega
theorem ok_gr {w : Str} {x b : Int} (hw : PyData.strOk w = true) (hl : w.cps.size ≤ 5) (h0 : 0 ≤ x) (h1 : x < 20) (b0 : 0 ≤ b) (b1 : b < 2) : OkT 20 8 1 12 (.tuple [.str w, .int x, .int b]) :=
  ⟨by simp [wd, wds], by simp [lv, lvs, hw]; omega, by simp [PyData.bulk, PyData.bulkAll]; omega, by simp [PyData.depth, PyData.depthAll]⟩
theorem erase_map {α β : Type} (f : α → β) : ∀ (l : List α) (i : Nat), (l.map f).eraseIdx i = (l.eraseIdx i).map f
  | [], _ => by simp
  | a :: l, 0 => by simp
  | a :: l, i + 1 => by simp [erase_map f l i]
/-- loop 1: facts are taken -/
structure J1 (n : Nat) (st : Sto) (B : Sto) (f m o : Int) (j : Nat) (s : Sto) : Prop where
  ex : ∃ (s1 : Sto) (gs : List T) (ms : List Int), s = ST s1 B gs (ms.map .int) ∧ Pt n st s1 ∧ Gd f m o gs ∧ gs.length = j ∧ (ms.length : Int) = f - j ∧ ms.Nodup ∧ ∀ x ∈ ms, 0 ≤ x ∧ x < f ∧ (("fact" : Str), x) ∉ gs.map hpT
  no : ∀ (s1 : Sto) (gs ms : List T), s = ST s1 B gs ms → List.length s1 = List.length st → ∀ x, (("issue" : Str), x) ∉ gs.map hpT
theorem st_inj {s1 s2 B : Sto} {gs gs' ls ls' : List T} (h : ST s1 B gs ls = ST s2 B gs' ls') (hl : List.length s1 = List.length s2) : gs = gs' := by
  unfold ST at h
  have := (List.append_inj h hl).2
  have := (List.append_inj this rfl).2
  simp only [List.cons.injEq, MO.lst.injEq] at this
  exact this.1
theorem hpf : ¬ (("issue" : Str) = "fact") := hne
theorem loop1 {n : Nat} {st s B : Sto} {f m o : Int} {j A : Nat} {x4 x5 x6 x7 : Option D} {d3 : D} (hn : n < List.length st) (hA : A = List.length st + List.length B) (hf : f ≤ 4) (hj : (j : Int) < f) (h : J1 n st B f m o j s) {Z : Zz}
    (q : ∀ s', J1 n st B f m o (j + 1) s' → Z.nx [some (.ref n), some (.v (.int f)), some (.v (.int m)), some d3, x4, x5, x6, x7, some (.ref A), some (.ref (A + 1))] s') :
    EvS ((mDrop (mMeth fAppend (mVar 8) (mCons (mTup (mCons (mC (.v (.str ("fact" : Str)))) (mCons (mMeth fPop (mVar 9) (mCons (mFn 2 F_lw_draw (mCons (mVar 0) (mCons (mCall fLen (mCons (mVar 9) mNil)) mNil)) []) mNil)) (mCons (mFn 2 F_lw_draw (mCons (mVar 0) (mCons (mC (.v (.int 2))) mNil)) []) mNil)))) mNil)))
      [some (.ref n), some (.v (.int f)), some (.v (.int m)), some d3, x4, x5, x6, x7, some (.ref A), some (.ref (A + 1))] s) Z := by
  obtain ⟨s1, gs, ms, rfl, hp, hg, hlg, hlm, hnd, hin⟩ := h.ex
  have hA1 : A = List.length s1 + List.length B := by rw [hp.len]; exact hA
  have hmp : 0 < ms.length := by omega
  simp only [w_drop, w_meth, w_cons, w_nil, w_tup, w_call, w_fn, w_var, w_c, w_ok, asL, asLt, asSeq, fLen, st_g hA1, st_l hA1, List.length_map, List.getElem?_cons_zero, List.getElem?_cons_succ, List.append_nil, List.length]
  refine ⟨trivial, EvO.imp (draw_st hn hp (by omega) (by omega)) fun a s' ⟨s2, e1, hp2, i, e2, i0, i1⟩ => ?_⟩
  subst e1 e2
  have hA2 : A = List.length s2 + List.length B := by rw [hp2.len]; exact hA
  have hi : i.toNat < ms.length := by omega
  have hget : (ms.map PyData.int)[i.toNat]? = some (.int ms[i.toNat]) := by simp [hi]
  simp only [fPop, onRef, st_l hA2, List.length_map, ixN_ok i0 i1, hget, w_itb, w_ok, set_l hA2]
  refine ⟨by omega, trivial, EvO.imp (draw_st hn hp2 (by omega) (by omega)) fun a s' ⟨s3, e1, hp3, b, e2, b0, b1⟩ => ?_⟩
  subst e1 e2
  have hA3 : A = List.length s3 + List.length B := by rw [hp3.len]; exact hA
  simp only [pureTs, Option.map, fAppend, onRef, st_g hA3, w_itb, w_ok, set_g hA3, List.length]
  obtain ⟨hx0, hx1, hx2⟩ := hin ms[i.toNat] (List.getElem_mem hi)
  refine ⟨by decide, small_len (m := 100) (by omega), q _ ⟨⟨s3, gs ++ [.tuple [.str "fact", .int ms[i.toNat], .int b]], ms.eraseIdx i.toNat, ?_, hp3, ?_, by simp [hlg], ?_, ?_, ?_⟩, ?_⟩⟩
  · rw [erase_map]
  · exact hg.add (gr_fact hx0 hx1 b0 b1) hx2 (ok_gr (by decide +kernel) (by decide +kernel) hx0 (by omega) b0 b1)
  · rw [List.length_eraseIdx_of_lt hi]; omega
  · exact hnd.sublist (List.eraseIdx_sublist ..)
  · intro x hx
    have hxm := (List.eraseIdx_sublist ms i.toNat).subset hx
    obtain ⟨a1, a2, a3⟩ := hin x hxm
    refine ⟨a1, a2, ?_⟩
    rw [List.map_append]
    intro hm
    rcases List.mem_append.mp hm with hm | hm
    · exact a3 hm
    · simp only [List.map_cons, List.map_nil, List.mem_singleton, hpT, Prod.mk.injEq, true_and] at hm
      subst hm
      have := hnd
      rw [List.mem_eraseIdx_iff_getElem] at hx
      obtain ⟨k, hk, hne', e⟩ := hx
      exact hne' ((List.getElem_inj hnd).mp e)
  · intro s4 gs4 ms4 e4 l4 x hx
    obtain rfl := st_inj e4 (by rw [l4, hp3.len])
    rw [List.map_append] at hx
    rcases List.mem_append.mp hx with hx | hx
    · exact h.no s1 gs _ rfl hp.len x hx
    · simp only [List.map_cons, List.map_nil, List.mem_singleton, hpT, Prod.mk.injEq] at hx
      exact hpf hx.1
/-- loop 2: later issues -/
structure J2 (n : Nat) (st : Sto) (B : Sto) (f m o : Int) (k : Nat) (later : Int) (s : Sto) : Prop where
  ex : ∃ (s1 : Sto) (gs ls : List T), s = ST s1 B gs ls ∧ Pt n st s1 ∧ Gd f m o gs ∧ 1 ≤ gs.length ∧ gs.length ≤ k ∧ ∀ x, (("issue" : Str), x) ∈ gs.map hpT → x < later
theorem hpn : ¬ (("fact" : Str) = "issue") := fun e => hne e.symm
theorem loop2 {n : Nat} {st s B : Sto} {f m o later : Int} {k A : Nat} {x4 x5 x7 : Option D} {d3 : D} (hn : n < List.length st) (hA : A = List.length st + List.length B) (hk : k ≤ 7) (h0 : o < later) (h00 : 0 ≤ o) (h1 : later < m) (hm : m ≤ 10) (h : J2 n st B f m o k later s) {Z : Zz}
    (q : ∀ s', J2 n st B f m o (k + 1) (later + 1) s' → Z.nx [some (.ref n), some (.v (.int f)), some (.v (.int m)), some d3, x4, x5, some (.v (.int later)), x7, some (.ref A), some (.ref (A + 1))] s') :
    EvS ((mIfS (mAndT (mCmpT opGt (mFn 2 F_lw_draw (mCons (mVar 0) (mCons (mC (.v (.int 3))) mNil)) []) (mC (.v (.int 0)))) (mCmpT opLt (mCall fLen (mCons (mVar 8) mNil)) (mC (.v (.int 8))))) (mDrop (mMeth fAppend (mVar 8) (mCons (mTup (mCons (mC (.v (.str ("issue" : Str)))) (mCons (mVar 6) (mCons (mFn 2 F_lw_pick (mCons (mVar 0) (mCons (mLst (mCons (mC (.v (.int 1))) (mCons (mC (.v (.int 1))) (mCons (mC (.v (.int 0))) mNil)))) mNil)) []) mNil)))) mNil))) mSkip)
      [some (.ref n), some (.v (.int f)), some (.v (.int m)), some d3, x4, x5, some (.v (.int later)), x7, some (.ref A), some (.ref (A + 1))] s) Z := by
  obtain ⟨s1, gs, ls, rfl, hp, hg, hl1, hlk, hin⟩ := h.ex
  simp only [w_ifS, w_andT, w_cmpT, w_cons, w_nil, w_fn, w_call, w_var, w_c, w_ok, List.getElem?_cons_zero, List.getElem?_cons_succ, List.append_nil, List.length]
  refine ⟨trivial, EvO.imp (draw_st hn hp (by omega) (by omega)) fun a s' ⟨s2, e1, hp2, i, e2, i0, i1⟩ => ?_⟩
  subst e1 e2
  have hA2 : A = List.length s2 + List.length B := by rw [hp2.len]; exact hA
  have skip : Z.nx [some (.ref n), some (.v (.int f)), some (.v (.int m)), some d3, x4, x5, some (.v (.int later)), x7, some (.ref A), some (.ref (A + 1))] (ST s2 B gs ls) :=
    q _ ⟨s2, gs, ls, rfl, hp2, hg, hl1, by omega, fun x hx => by have := hin x hx; omega⟩
  simp only [opI0, w_ok]
  by_cases hi : 0 < i
  · rw [decide_eq_true hi, if_pos rfl]
    simp only [fLen, asSeq, asL, asLt, st_g hA2, w_ok, opI0]
    have h8 : (gs.length : Int) < 8 := by omega
    rw [decide_eq_true h8, if_pos rfl]
    simp only [w_drop, w_meth, w_cons, w_nil, w_tup, w_lst, w_fn, w_var, w_c, w_ok, asL, asLt, st_g hA2, pureTs, Option.map, List.getElem?_cons_zero, List.getElem?_cons_succ, List.append_nil, List.length]
    refine ⟨by decide, trivial, EvO.imp (pick_st hn hp2 (by decide) (by decide)) fun a s' ⟨s3, e1, hp3, b, hb, e2⟩ => ?_⟩
    subst e1 e2
    have hA3 : A = List.length s3 + List.length B := by rw [hp3.len]; exact hA
    have ⟨b', eb, b0, b1⟩ : ∃ b' : Int, b = .int b' ∧ 0 ≤ b' ∧ b' < 2 := by
      simp only [List.mem_cons, List.not_mem_nil, or_false] at hb
      rcases hb with rfl | rfl | rfl
      · exact ⟨1, rfl, by decide, by decide⟩
      · exact ⟨1, rfl, by decide, by decide⟩
      · exact ⟨0, rfl, by decide, by decide⟩
    subst eb
    simp only [pureTs, Option.map, fAppend, onRef, st_g hA3, w_itb, w_ok, set_g hA3, List.length]
    refine ⟨by decide, small_len (m := 100) (by omega), q _ ⟨s3, gs ++ [.tuple [.str "issue", .int later, .int b']], ls, rfl, hp3, ?_, by simp, by simp; omega, ?_⟩⟩
    · exact hg.add (gr_issue h0 h1 b0 b1) (fun hm' => by have := hin later hm'; omega) (ok_gr (by decide +kernel) (by decide +kernel) (by omega) (by omega) b0 b1)
    · intro x hx
      rw [List.map_append] at hx
      rcases List.mem_append.mp hx with hx | hx
      · have := hin x hx; omega
      · simp only [List.map_cons, List.map_nil, List.mem_singleton, hpT, Prod.mk.injEq, true_and] at hx
        omega
  · rw [decide_eq_false hi, if_neg Bool.false_ne_true, if_neg Bool.false_ne_true, w_skip]
    exact skip
/-- the issue that is made of the grounds -/
theorem made_ok {f m : Int} {o i : Nat} {gs : List T} (h : Gd f m o gs) (h1 : 1 ≤ gs.length) (h2 : gs.length ≤ 8) (hi : i ≤ gs.length) : issOk (.tuple (gs.drop i ++ gs.take i)) f m o = true ∧ OkT 20 80 2 12 (.tuple (gs.drop i ++ gs.take i)) := by
  have hl : (gs.drop i ++ gs.take i).length = gs.length := by simp; omega
  have hm : ∀ t, t ∈ gs.drop i ++ gs.take i → t ∈ gs := fun t ht => by
    rcases List.mem_append.mp ht with h | h
    · exact List.mem_of_mem_drop h
    · exact List.mem_of_mem_take h
  have hperm : (gs.drop i ++ gs.take i).Perm gs := by
    have := List.perm_append_comm (l₁ := gs.drop i) (l₂ := gs.take i)
    rwa [List.take_append_drop] at this
  constructor
  · simp only [issOk, hl, h1, h2, decide_true, Bool.true_and, Bool.and_eq_true, List.all_eq_true, decide_eq_true_eq]
    exact ⟨fun t ht => h.gr t (hm t ht), ((hperm.map hpT).nodup_iff).mpr h.nd⟩
  · have all : ∀ us : List T, (∀ t ∈ us, OkT 20 8 1 12 t) → OkL 20 (9 * us.length) 1 12 us := by
      intro us
      induction us with
      | nil => intro _; exact (OkL.nil (n := 20) (k := 12)).mono
      | cons u us ih => intro hu; exact (OkL.cons (hu u List.mem_cons_self) (ih fun t ht => hu t (List.mem_cons_of_mem _ ht))).mono (by omega) (by simp; omega) (by omega)
    exact (OkT.tup (all _ fun t ht => h.ok t (hm t ht)) (by omega)).mono (by omega) (by omega) (by omega)
end Law

namespace Law
open PySem PL
open L2 (atI ixN CDiv CMul CPow RgOk)
theorem w_itR2 {m : ME (List D)} {env : EnvD} {st : Sto} {QP : List T × Chk → Sto → Prop} : EvO (mItR2 m env st) QP = EvO (m env st) fun ds s => match ds with
    | [.v (.int i), .v (.int j)] => (-(2 ^ 62) ≤ i ∧ i < 2 ^ 62 ∧ -(2 ^ 62) ≤ j ∧ j < 2 ^ 62) ∧ QP (rgT i j, none) s
    | _ => False := by
  unfold mItR2; rw [w_bind]; congr; funext ds s
  split
  · exact w_itb
  · rename_i h
    match ds, h with
    | [], _ => rfl
    | [x], _ =>
      cases x with
      | v t => cases t <;> rfl
      | _ => rfl
    | x :: y :: _ :: _, _ => 
      cases x with
      | v t => cases t <;> (cases y with
        | v u => cases u <;> rfl
        | _ => rfl)
      | _ => rfl
    | [x, y], h =>
      cases x with
      | v t =>
        cases t with
        | int i =>
          cases y with
          | v u =>
            cases u with
            | int j => exact (h i j rfl).elim
            | _ => rfl
          | _ => rfl
        | _ => rfl
      | _ => rfl
theorem rg_len {a b : Int} : (rgT a b).length = (b - a).toNat := by simp [rgT]
theorem rg_get {a b : Int} {i : Nat} {t : T} (h : (rgT a b)[i]? = some t) : t = .int (a + i) ∧ a + i < b := by
  obtain ⟨hi, e⟩ := List.getElem?_eq_some_iff.mp h
  rw [rg_len] at hi
  refine ⟨?_, by omega⟩
  rw [← e]
  simp [rgT]
theorem rg_map {b : Int} : rgT 0 b = ((List.range b.toNat).map fun i : Nat => (i : Int)).map .int := by
  simp [rgT]
theorem st_0 {s1 B : Sto} {gs ls : List T} {x : MO} {k : Nat} (h : List.length s1 = k) : (ST s1 (x :: B) gs ls)[k]? = some x := by
  subst h
  unfold ST
  rw [List.getElem?_append_right (Nat.le_refl _), Nat.sub_self]; rfl
theorem set_0 {s1 B : Sto} {gs ls : List T} {x y : MO} {k : Nat} (h : List.length s1 = k) : List.set (ST s1 (x :: B) gs ls) k y = ST s1 (y :: B) gs ls := by
  subst h
  unfold ST
  rw [List.set_append_right _ _ (Nat.le_refl _), Nat.sub_self]; rfl
/-- the outer loop -/
structure IO (n : Nat) (st : Sto) (f m : Int) (i : Nat) (env : EnvD) (s : Sto) : Prop where
  ex : ∃ (s1 : Sto) (is : List T) (junk : Sto) (x4 x5 x6 x7 x8 x9 : Option D), env = [some (.ref n), some (.v (.int f)), some (.v (.int m)), some (.ref (List.length st)), x4, x5, x6, x7, x8, x9] ∧ s = s1 ++ (.lst is :: junk) ∧ Pt n st s1 ∧ is.length = i ∧ (∀ (j : Nat) t, is[j]? = some t → issOk t f m j = true) ∧ ∀ t ∈ is, OkT 20 80 2 12 t
theorem issues_ok {n : Nat} {st : Sto} {f m : Int} (hn : n < List.length st) (h : Pt n st st) (hf : 1 ≤ f) (hf4 : f ≤ 4) (hm : 1 ≤ m) (hm3 : m ≤ 3) :
    EvO (F_lw_issues [.ref n, .v (.int f), .v (.int m)] st) fun d s => Pt n st s ∧ ∃ is : List T, d = .v (.tuple is) ∧ (is.length : Int) = m ∧ (∀ (j : Nat) t, is[j]? = some t → issOk t f m j = true) ∧ ∀ t ∈ is, OkT 20 80 2 12 t := by
  unfold F_lw_issues m_lw_issues
  simp only [w_runB, w_seq, w_asg, w_lstM, w_nil, w_ok, w_gNm, pureTs, w_for, w_itR1, w_cons, w_var, List.map, List.replicate, List.length, List.cons_append, List.nil_append, List.getElem?_cons_zero, List.getElem?_cons_succ, List.set_cons_zero, List.set_cons_succ]
  refine ⟨by omega, by omega, ?_⟩
  refine for_inv (IO n st f m) _ 0 _ _ ⟨st, [], [], _, _, _, _, _, _, rfl, rfl, h, rfl, by simp, by simp⟩ (fun i t env s ht hI => ?_) fun env s hI => ?_
  · obtain ⟨rfl, hlt⟩ := rg_get ht
    obtain ⟨s1, is, junk, x4, x5, x6, x7, x8, x9, rfl, rfl, hp, hli, hio, hik⟩ := hI.ex
    have hA : List.length (s1 ++ (MO.lst is :: junk)) = List.length st + List.length (MO.lst is :: junk) := by rw [List.length_append, hp.len]
    have i0 : (0 : Int) ≤ 0 + (i : Int) := by omega
    simp only [w_gNm, w_seq, w_par2, w_cons, w_nil, w_lstM, w_lstRgM, w_rg1, w_var, w_ok, pureTs, List.getElem?_cons_zero, List.getElem?_cons_succ, List.set_cons_zero, List.set_cons_succ, List.length_append, hp.len, List.length]
    obtain ⟨A, eA⟩ : ∃ A, A = List.length st + (List.length junk + 1) := ⟨_, rfl⟩
    have hA' : A = List.length st + List.length (MO.lst is :: junk) := eA
    rw [← eA]
    have est : s1 ++ MO.lst is :: junk ++ [MO.lst []] ++ [MO.lst (rgT 0 f)] = ST s1 (MO.lst is :: junk) [] (rgT 0 f) := by simp [ST]
    have rgok : RgOk 0 f := by unfold RgOk; omega
    rw [est]
    refine ⟨by omega, rgok, rgok, ?_⟩
    have hk0 : 0 < (if f < 3 then f else 3) := by split <;> omega
    have hk3 : (if f < 3 then f else 3) ≤ 3 := by split <;> omega
    have hkf : (if f < 3 then f else 3) ≤ f := by split <;> omega
    simp only [w_for, w_itR1, w_cons, w_nil, w_bin, w_c, w_call, w_fn, w_var, w_ok, fMin2, List.append_nil, List.length, List.getElem?_cons_zero, List.getElem?_cons_succ]
    refine ⟨trivial, EvO.imp (draw_st hn hp hk0 (by omega)) fun a s' ⟨s2, e1, hp2, t1, e2, t0, t2⟩ => ?_⟩
    subst e1 e2
    simp only [opAdd, w_ok]
    refine ⟨by omega, ?_⟩
    have hJ : J1 n st (.lst is :: junk) f m (0 + (i : Int)) 0 (ST s2 (.lst is :: junk) [] (rgT 0 f)) := by
      refine ⟨⟨s2, [], _, by rw [rg_map], hp2, Gd.nil, rfl, by simp; omega, ?_, ?_⟩, fun s4 gs4 ms4 e4 l4 x hx => by rw [← st_inj e4 (by rw [l4, hp2.len])] at hx; simp at hx⟩
      · rw [List.Nodup, List.pairwise_map]
        exact List.Pairwise.imp (fun h e => h (by omega)) (List.nodup_range (n := f.toNat))
      · intro x hx
        rw [List.mem_map] at hx
        obtain ⟨k, hk, rfl⟩ := hx
        rw [List.mem_range] at hk
        exact ⟨by omega, by omega, by simp⟩
    refine for_inv (fun j env s => (∃ x5, env = [some (.ref n), some (.v (.int f)), some (.v (.int m)), some (.ref (List.length st)), some (.v (.int (0 + (i : Int)))), x5, x6, x7, some (.ref A), some (.ref (A + 1))]) ∧ J1 n st (.lst is :: junk) f m (0 + (i : Int)) j s) _ 0 _ _ ⟨⟨_, rfl⟩, hJ⟩ (fun j t env s ht hI => ?_) fun env s hI => ?_
    · obtain ⟨rfl, hjt⟩ := rg_get ht
      obtain ⟨⟨y5, rfl⟩, hJ1⟩ := hI
      rw [w_gNm]
      exact loop1 hn hA' hf4 (by omega) hJ1 fun s' q => ⟨⟨_, rfl⟩, q⟩
    · obtain ⟨⟨y5, rfl⟩, hJ1⟩ := hI
      rw [rg_len] at hJ1
      simp only [w_for, w_itR2, w_cons, w_nil, w_bin, w_c, w_var, w_ok, opAdd, List.append_nil, List.getElem?_cons_zero, List.getElem?_cons_succ]
      refine ⟨by omega, ?_⟩
      obtain ⟨k1, hk1⟩ : ∃ k1, k1 = 0 + (1 + t1 - 0).toNat := ⟨_, rfl⟩
      rw [← hk1] at hJ1
      have hJ2 : J2 n st (.lst is :: junk) f m (0 + (i : Int)) (k1 + 0) (0 + (i : Int) + 1 + ((0 : Nat) : Int)) s := by
        obtain ⟨s3, gs, ms, rfl, h1, h2, h3, h4, h5, h6⟩ := hJ1.ex
        exact ⟨s3, gs, _, rfl, h1, h2, by omega, by omega, fun x hx => (hJ1.no s3 gs _ rfl h1.len x hx).elim⟩
      refine for_inv (fun j env s => (∃ x5 x6, env = [some (.ref n), some (.v (.int f)), some (.v (.int m)), some (.ref (List.length st)), some (.v (.int (0 + (i : Int)))), x5, x6, x7, some (.ref A), some (.ref (A + 1))]) ∧ J2 n st (.lst is :: junk) f m (0 + (i : Int)) (k1 + j) (0 + (i : Int) + 1 + (j : Int)) s) _ 0 _ _ ⟨⟨_, _, rfl⟩, hJ2⟩ (fun j t env s ht hI => ?_) fun env s hI => ?_
      · obtain ⟨rfl, hjt⟩ := rg_get ht
        obtain ⟨⟨y5, y6, rfl⟩, hJ3⟩ := hI
        rw [w_gNm]
        rw [Nat.zero_add] at hJ3 ⊢
        refine loop2 hn hA' (by omega) (by omega) i0 (by omega) (by omega) hJ3 fun s' q => ⟨⟨_, _, rfl⟩, ?_⟩
        have e : (0 + (i : Int) + 1 + (j : Int) + 1) = 0 + (i : Int) + 1 + ((j + 1 : Nat) : Int) := by omega
        rw [e] at q
        exact q
      · obtain ⟨⟨y5, y6, rfl⟩, hJ3⟩ := hI
        rw [rg_len] at hJ3
        obtain ⟨s3, gs, ls, rfl, hp3, hg, hg1, hg2, _⟩ := hJ3.ex
        have hA3 : A = List.length s3 + List.length (MO.lst is :: junk) := by rw [hp3.len]; exact hA'
        have hg8 : gs.length ≤ 8 := by omega
        simp only [w_asg, w_gNm, w_drop, w_meth, w_cons, w_nil, w_call, w_fn, w_var, w_c, w_ok, fLen, asSeq, asL, asLt, st_g hA3, List.append_nil, List.length, List.getElem?_cons_zero, List.getElem?_cons_succ]
        refine ⟨trivial, EvO.imp (draw_st hn hp3 (by omega) (by omega)) fun a s' ⟨s4, e1, hp4, at', e2, a0, a1⟩ => ?_⟩
        subst e1 e2
        have hA4 : A = List.length s4 + List.length (MO.lst is :: junk) := by rw [hp4.len]; exact hA'
        simp only [List.set_cons_succ, List.set_cons_zero, List.getElem?_cons_zero, List.getElem?_cons_succ, w_bin, w_var, w_slice, w_part, w_noP, w_ok, opSl, asL, asLt, st_g hA4, st_0 hp4.len, cut_take a0 (Int.le_of_lt a1), cut_drop a0 (Int.le_of_lt a1), opAdd, w_itb, fTup, fAppend, onRef, set_0 hp4.len, pureTs, List.length]
        have hai : at'.toNat ≤ gs.length := by omega
        obtain ⟨m1, m2⟩ := made_ok hg hg1 hg8 hai
        refine ⟨small_len (m := 100) (by simp; omega), small_len (m := 100) (by omega), s4, is ++ [.tuple (gs.drop at'.toNat ++ gs.take at'.toNat)], junk ++ [.lst gs, .lst ls], _, _, _, _, _, _, rfl, by simp [ST], hp4, by simp; omega, fun j t e => ?_, fun t ht => ?_⟩
        · rw [List.getElem?_append] at e
          by_cases hj : j < is.length
          · rw [if_pos hj] at e; exact hio j t e
          · rw [if_neg hj] at e
            obtain ⟨hj2, rfl⟩ := List.getElem?_eq_some_iff.mp e
            simp only [List.length_singleton] at hj2
            have : j = i := by omega
            subst this
            simpa using m1
        · rcases List.mem_append.mp ht with ht | ht
          · exact hik t ht
          · rw [List.mem_singleton] at ht; subst ht; exact m2
  · obtain ⟨s1, is, junk, x4, x5, x6, x7, x8, x9, rfl, rfl, hp, hli, hio, hik⟩ := hI.ex
    rw [rg_len] at hli
    have e0 : (s1 ++ MO.lst is :: junk)[List.length st]? = some (.lst is) := by
      rw [← hp.len, List.getElem?_append_right (Nat.le_refl _), Nat.sub_self]; rfl
    simp only [w_ret, w_call, w_cons, w_nil, w_var, w_ok, List.getElem?_cons_zero, List.getElem?_cons_succ, fTup, asL, asLt, e0, w_finV]
    refine ⟨?_, is, rfl, by omega, hio, hik⟩
    rw [← hp.len, List.take_left]
    exact hp
end Law

namespace Law
open PySem PL
open L2 (atI ixN CDiv CMul CPow RgOk)
theorem OkL.all {n c d k k0 : Nat} : ∀ {us : List T}, (∀ t ∈ us, OkT n c d k0 t) → us.length ≤ k → OkL n ((c + 1) * k) d k0 us := by
  have : ∀ us : List T, (∀ t ∈ us, OkT n c d k0 t) → OkL n ((c + 1) * us.length) d k0 us := by
    intro us
    induction us with
    | nil => intro _; exact (OkL.nil (n := n) (k := k0)).mono
    | cons u us ih =>
      intro hu
      have := OkL.cons (hu u List.mem_cons_self) (ih fun t ht => hu t (List.mem_cons_of_mem _ ht))
      rw [List.length_cons, Nat.mul_succ, Nat.add_comm]
      exact this
  intro us h hk
  exact (this us h).mono (Nat.le_refl _) (Nat.mul_le_mul_left _ hk) (Nat.le_refl _)
theorem ok_int {i : Int} (h0 : -20 < i) (h1 : i < 20) : OkT 20 8 1 12 (.int i) :=
  ⟨rfl, by simp [lv]; omega, by simp [PyData.bulk], by simp [PyData.depth]⟩
theorem ok_bool {b : Bool} : OkT 20 8 1 12 (.bool b) := ⟨rfl, rfl, by simp [PyData.bulk], by simp [PyData.depth]⟩
theorem ok_none : OkT 20 8 1 12 .none := ⟨rfl, rfl, by simp [PyData.bulk], by simp [PyData.depth]⟩
theorem bads_none {q : T → Int → Bool} : ∀ (ts : List T) (k : Nat), (∀ (j : Nat) t, ts[j]? = some t → q t (k + j : Nat) = true) → bads q k ts = []
  | [], _, _ => rfl
  | t :: ts, k, h => by
    rw [bads, if_pos (by simpa using h 0 t rfl)]
    have := bads_none (q := q) ts (k + 1) fun j t e => by
      have := h (j + 1) t (by simpa using e)
      rw [show k + 1 + j = k + (j + 1) by omega]; exact this
    exact_mod_cast this
/-! typed parts -/
structure Gr where
  fact : Bool
  num : Nat
  side : Int
def Gr.t (g : Gr) : T := .tuple [.str (if g.fact = true then "fact" else "issue"), .int g.num, .int g.side]
structure Bk where
  ms : List Int
  is : List (List Gr)
  cs : List T
def issT (is : List (List Gr)) : List T := is.map fun gs => .tuple (gs.map Gr.t)
def Bk.t (b : Bk) : T := .tuple [.str "book", .tuple (b.ms.map .int), .tuple (issT b.is), .tuple b.cs]
def Gr.ok (f m : Int) (g : Gr) : Prop := (g.fact = true → (g.num : Int) < f) ∧ (g.fact = false → (g.num : Int) < m) ∧ (g.side = 0 ∨ g.side = 1)
/-- a book that the law makes -/
structure Bk.ok (b : Bk) : Prop where
  ms : ∀ x ∈ b.ms, 1 ≤ x ∧ x ≤ 9
  msl : 1 ≤ b.ms.length ∧ b.ms.length ≤ 4
  isl : 1 ≤ b.is.length ∧ b.is.length ≤ 3
  csl : 1 ≤ b.cs.length ∧ b.cs.length ≤ 8
  gl : ∀ gs ∈ b.is, 1 ≤ gs.length ∧ gs.length ≤ 8
  gr : ∀ gs ∈ b.is, ∀ g ∈ gs, Gr.ok b.ms.length b.is.length g
  fl : flawT b.t = .none
  okt : OkT 20 1300 4 12 b.t
theorem typed_ints {a b : Int} : ∀ ts : List T, (∀ t ∈ ts, isW t a b = true) → ∃ l : List Int, ts = l.map .int ∧ ∀ x ∈ l, a ≤ x ∧ x ≤ b
  | [], _ => ⟨[], rfl, fun x h => by cases h⟩
  | t :: ts, h => by
    obtain ⟨l, e, hl⟩ := typed_ints ts fun u hu => h u (List.mem_cons_of_mem _ hu)
    have h1 := h t List.mem_cons_self
    cases t with
    | int i =>
      simp only [isW, Bool.and_eq_true, decide_eq_true_eq] at h1
      refine ⟨i :: l, by rw [e]; rfl, fun x hx => ?_⟩
      rcases List.mem_cons.mp hx with rfl | hx
      · exact h1
      · exact hl x hx
    | _ => simp [isW] at h1
theorem typed_gr {t : T} {f m o : Int} (h : grOk t f m o = true) (ho : 0 ≤ o) : ∃ g : Gr, t = g.t ∧ Gr.ok f m g := by
  unfold grOk at h
  split at h
  · rename_i w x y
    simp only [Bool.and_eq_true] at h
    obtain ⟨hy, hx⟩ := h
    cases y with
    | int s =>
      simp only [isW, Bool.and_eq_true, decide_eq_true_eq] at hy
      have hs : s = 0 ∨ s = 1 := by omega
      split at hx
      · rename_i hw
        cases x with
        | int i =>
          simp only [isW, Bool.and_eq_true, decide_eq_true_eq] at hx
          refine ⟨⟨true, i.toNat, s⟩, ?_, fun _ => by show ((i.toNat : Nat) : Int) < f; omega, fun h => (by cases h), hs⟩
          simp only [Gr.t, if_true, hw]
          rw [show ((i.toNat : Nat) : Int) = i by omega]
        | _ => simp [isW] at hx
      · split at hx
        · rename_i _ hw
          cases x with
          | int i =>
            simp only [isW, Bool.and_eq_true, decide_eq_true_eq] at hx
            refine ⟨⟨false, i.toNat, s⟩, ?_, fun h => (by cases h), fun _ => by show ((i.toNat : Nat) : Int) < m; omega, hs⟩
            simp only [Gr.t, Bool.false_eq_true, if_false, hw]
            rw [show ((i.toNat : Nat) : Int) = i by omega]
          | _ => simp [isW] at hx
        · cases hx
    | _ => simp [isW] at hy
  · cases h
theorem typed_grs {f m o : Int} (ho : 0 ≤ o) : ∀ ts : List T, (∀ t ∈ ts, grOk t f m o = true) → ∃ gs : List Gr, ts = gs.map Gr.t ∧ ∀ g ∈ gs, Gr.ok f m g
  | [], _ => ⟨[], rfl, fun x h => by cases h⟩
  | t :: ts, h => by
    obtain ⟨l, e, hl⟩ := typed_grs ho ts fun u hu => h u (List.mem_cons_of_mem _ hu)
    obtain ⟨g, e2, hg⟩ := typed_gr (h t List.mem_cons_self) ho
    refine ⟨g :: l, by rw [e, e2]; rfl, fun x hx => ?_⟩
    rcases List.mem_cons.mp hx with rfl | hx
    · exact hg
    · exact hl x hx
theorem typed_iss {f m : Int} : ∀ (ts : List T) (k : Nat), (∀ (j : Nat) t, ts[j]? = some t → issOk t f m (k + j : Nat) = true) → ∃ is : List (List Gr), ts = issT is ∧ ∀ gs ∈ is, (1 ≤ gs.length ∧ gs.length ≤ 8) ∧ ∀ g ∈ gs, Gr.ok f m g
  | [], _, _ => ⟨[], rfl, fun x h => by cases h⟩
  | t :: ts, k, h => by
    obtain ⟨l, e, hl⟩ := typed_iss (f := f) (m := m) ts (k + 1) fun j u hu => by
      have := h (j + 1) u (by simpa using hu)
      rwa [show k + (j + 1) = k + 1 + j by omega] at this
    have h0 := h 0 t rfl
    cases t with
    | tuple us =>
      simp only [issOk, Bool.and_eq_true, decide_eq_true_eq, List.all_eq_true] at h0
      obtain ⟨gs, e2, hg⟩ := typed_grs (by omega) us fun u hu => h0.1.2 u hu
      have hl2 : gs.length = us.length := by rw [e2]; simp
      refine ⟨gs :: l, by rw [e, e2]; rfl, fun x hx => ?_⟩
      rcases List.mem_cons.mp hx with rfl | hx
      · exact ⟨by omega, hg⟩
      · exact hl x hx
    | _ => simp [issOk] at h0
theorem crt_first {b : Bool} : crtOk (.tuple [.none, .bool b]) 0 = true := rfl
theorem crt_later {x o : Int} {b : Bool} (h0 : 0 ≤ x) (h1 : x < o) : crtOk (.tuple [.int x, .bool b]) o = true := by
  simp only [crtOk]
  rw [if_neg (by omega)]
  simp [isW]; omega
theorem ok_crt {t : T} {b : Bool} (h : OkT 20 8 1 12 t) : OkT 20 30 2 12 (.tuple [t, .bool b]) := (OkT.tup (OkL.cons h (OkL.cons (ok_bool (b := b)) ((OkL.nil (n := 20) (k := 12)).mono (by omega) (by omega) (by omega) : OkL 20 0 1 12 []))) (by simp)).mono (by omega) (by omega) (by omega)
/-- the courts' loop -/
structure CO (n : Nat) (st : Sto) (a1 a2 a3 a4 : D) (i : Nat) (env : EnvD) (s : Sto) : Prop where
  ex : ∃ (s1 : Sto) (cs : List T) (x6 x7 : Option D), env = [some (.ref n), some a1, some a2, some a3, some a4, some (.ref (List.length st)), x6, x7] ∧ s = s1 ++ [.lst cs] ∧ Pt n st s1 ∧ cs.length = i + 1 ∧ (∀ (j : Nat) t, cs[j]? = some t → crtOk t j = true) ∧ ∀ t ∈ cs, OkT 20 30 2 12 t
theorem issues_app {n : Nat} {st s l : Sto} {f m : Int} (hn : n < List.length st) (h : Pt n st s) (hf : 1 ≤ f) (hf4 : f ≤ 4) (hm : 1 ≤ m) (hm3 : m ≤ 3) :
    EvO (F_lw_issues [.ref n, .v (.int f), .v (.int m)] (s ++ l)) fun d s' => ∃ s2, s' = s2 ++ l ∧ Pt n st s2 ∧ ∃ is : List T, d = .v (.tuple is) ∧ (is.length : Int) = m ∧ (∀ (j : Nat) t, is[j]? = some t → issOk t f m j = true) ∧ ∀ t ∈ is, OkT 20 80 2 12 t := by
  obtain ⟨p, hg, hpo⟩ := h.get hn
  have hn2 : n < List.length s := by rw [h.len]; exact hn
  have hs : Pt n (s ++ l) (s ++ l) := (Pt.start hg hpo).up hn2
  refine EvO.imp (issues_ok (by simp; omega) hs hf hf4 hm hm3) fun d s' ⟨h1, h2⟩ => ?_
  obtain ⟨s2, e, h3⟩ := h1.app hn2
  exact ⟨s2, e, h.trans h3, h2⟩
theorem book_ok {n : Nat} {st s0 : Sto} {f m c : Int} (hn : n < List.length st) (h0 : Pt n st s0) (hf : 1 ≤ f) (hf4 : f ≤ 4) (hm : 1 ≤ m) (hm3 : m ≤ 3) (hc : 1 ≤ c) (hc4 : c ≤ 4) :
    EvO (F_lw_book [.ref n, .v (.int f), .v (.int m), .v (.int c)] s0) fun d s => Pt n st s ∧ ∃ b : Bk, d = .v b.t ∧ b.ok := by
  unfold F_lw_book m_lw_book
  simp only [w_runB, w_seq, w_asg, w_lstM, w_nil, w_ok, w_gNm, pureTs, w_lc, w_itR1, w_cons, w_var, w_bin, w_c, w_fn, w_call, w_bind, List.append_nil, List.map, List.replicate, List.length, List.cons_append, List.nil_append, List.getElem?_cons_zero, List.getElem?_cons_succ, List.set_cons_zero, List.set_cons_succ]
  refine ⟨trivial, EvO.imp (draw_pt hn h0 (by omega) (by omega)) fun a s ⟨hp, t1, e, t0, t2⟩ => ?_⟩
  subst e
  simp only [opAdd, w_ok]
  refine ⟨by omega, by rw [rg_len]; exact small_len (m := 100) (by omega), ?_⟩
  refine lc_inv (Pt n st) (fun t => isW t 1 9 = true ∧ OkT 20 8 1 12 t) _ _ hp (fun t ht s hp => ?_) fun ms s hl hms hp => ?_
  · simp only [wipeD, w_gNm, w_bin, w_c, w_fn, w_var, w_cons, w_nil, w_ok, List.append_nil, List.length, List.getElem?_cons_zero, List.getElem?_cons_succ, List.set_cons_zero, List.set_cons_succ, List.foldl]
    refine ⟨trivial, EvO.imp (draw_pt hn hp (by omega) (by omega)) fun a s ⟨hp, t1, e, t0, t2⟩ => ?_⟩
    subst e
    simp only [opAdd, w_ok]
    exact ⟨hp, _, rfl, by simp [isW]; omega, ok_int (by omega) (by omega)⟩
  · have hl' : ms.length = (1 + t1 - 0).toNat := by rw [hl, rg_len]
    simp only [fTup, asL, asLt, w_ok, w_tup, w_cons, w_nil, w_c, w_bin, w_fn, w_var, List.append_nil, List.length, List.getElem?_cons_zero, List.getElem?_cons_succ]
    refine ⟨trivial, EvO.imp (draw_pt hn hp (by omega) (by omega)) fun a s ⟨hp, t3, e, t4, t5⟩ => ?_⟩
    subst e
    simp only [opEq, opEqB, toT, sh_int, and_self, if_true, PyData.eqv, Bool.false_eq_true, if_false, w_ok, pureTs, Option.map, w_for, w_itR2, w_cons, w_nil, w_c, w_bin, w_fn, w_var, List.append_nil, List.length, List.getElem?_cons_zero, List.getElem?_cons_succ]
    rw [hp.len]
    refine ⟨by decide, by decide, trivial, EvO.imp (draw_app hn hp (by omega) (by omega)) fun a s ⟨s1, e1, hp, t6, e, t7, t8⟩ => ?_⟩
    subst e e1
    simp only [opAdd, w_ok]
    refine ⟨by omega, ?_⟩
    refine for_inv (CO n st (.v (.int f)) (.v (.int m)) (.v (.int c)) (.v (.tuple ms))) _ 0 _ _ ⟨s1, _, _, _, rfl, rfl, hp, rfl, ?_, ?_⟩ (fun i t env s ht hI => ?_) fun env s hI => ?_
    · intro j t e
      cases j with
      | zero =>
        simp only [List.getElem?_cons_zero, Option.some.injEq] at e
        subst e; exact crt_first
      | succ j => simp at e
    · intro t ht
      rw [List.mem_singleton] at ht
      subst ht; exact ok_crt ok_none
    · obtain ⟨rfl, hlt⟩ := rg_get ht
      obtain ⟨s1, cs, x6, x7, rfl, rfl, hp, hlc, hco, hck⟩ := hI.ex
      have e0 : ∀ {s2 : Sto}, Pt n st s2 → (s2 ++ [MO.lst cs])[List.length st]? = some (.lst cs) := fun hp => by
        rw [← hp.len, List.getElem?_append_right (Nat.le_refl _), Nat.sub_self]; rfl
      have e9 : ∀ {s2 : Sto} {x : MO}, Pt n st s2 → List.set (s2 ++ [MO.lst cs]) (List.length st) x = s2 ++ [x] := fun hp => by
        rw [← hp.len, List.set_append_right _ _ (Nat.le_refl _), Nat.sub_self]; rfl
      simp only [w_gNm, w_drop, w_meth, w_tup, w_cons, w_nil, w_c, w_bin, w_fn, w_var, w_ok, asL, asLt, e0 hp, List.append_nil, List.length, List.getElem?_cons_zero, List.getElem?_cons_succ, List.set_cons_succ, List.set_cons_zero]
      refine ⟨trivial, EvO.imp (draw_app hn hp (by omega) (by omega)) fun a s ⟨s2, e1, hp2, t9, e, ta, tb⟩ => ?_⟩
      subst e e1
      refine ⟨trivial, EvO.imp (draw_app hn hp2 (by omega) (by omega)) fun a s ⟨s3, e1, hp3, tc, e, td, te⟩ => ?_⟩
      subst e e1
      simp only [opEq, opEqB, toT, sh_int, and_self, if_true, PyData.eqv, Bool.false_eq_true, if_false, w_ok, pureTs, Option.map, fAppend, onRef, e0 hp3, e9 hp3, w_itb, List.length]
      refine ⟨by decide, small_len (m := 100) (by omega), s3, _, _, _, rfl, rfl, hp3, by simp; omega, fun j t e => ?_, fun t ht => ?_⟩
      · rw [List.getElem?_append] at e
        by_cases hj : j < cs.length
        · rw [if_pos hj] at e; exact hco j t e
        · rw [if_neg hj] at e
          obtain ⟨hj2, rfl⟩ := List.getElem?_eq_some_iff.mp e
          simp only [List.length_singleton] at hj2
          have : j = i + 1 := by omega
          subst this
          have q := crt_later (b := tc == 0) ta tb
          have e3 : ((i + 1 : Nat) : Int) = 1 + i := by omega
          rw [e3]
          simpa using q
      · rcases List.mem_append.mp ht with ht | ht
        · exact hck t ht
        · rw [List.mem_singleton] at ht; subst ht; exact ok_crt (ok_int (by omega) (by omega))
    · rw [rg_len] at hI
      obtain ⟨s1, cs, x6, x7, rfl, rfl, hp, hlc, hco, hck⟩ := hI.ex
      have e0 : ∀ {s2 : Sto}, Pt n st s2 → (s2 ++ [MO.lst cs])[List.length st]? = some (.lst cs) := fun hp => by
        rw [← hp.len, List.getElem?_append_right (Nat.le_refl _), Nat.sub_self]; rfl
      simp only [w_ret, w_tup, w_cons, w_nil, w_c, w_bin, w_fn, w_var, w_call, w_ok, fLen, asSeq, List.append_nil, List.length, List.getElem?_cons_zero, List.getElem?_cons_succ]
      refine ⟨trivial, EvO.imp (draw_app hn hp (by omega) (by omega)) fun a s ⟨s2, e1, hp2, ta, e, tb, tc⟩ => ?_⟩
      subst e e1
      simp only [opAdd, w_ok]
      refine ⟨trivial, EvO.imp (issues_app hn hp2 (by omega) (by omega) (by omega) (by omega)) fun a s ⟨s3, e1, hp3, is, e, hil, hio, hik⟩ => ?_⟩
      subst e e1
      simp only [fTup, asL, asLt, e0 hp3, w_ok, pureTs, Option.map]
      have ht : List.take (List.length s0) (s3 ++ [MO.lst cs]) = s3 := by rw [h0.len, ← hp3.len, List.take_left]
      refine ⟨small_len (n := 4) (m := 100) (by decide), ?_⟩
      rw [w_finV, ht]
      have hml : 1 ≤ ms.length ∧ ms.length ≤ 4 := by omega
      have hcl : 1 ≤ cs.length ∧ cs.length ≤ 8 := by omega
      have hil' : 1 ≤ is.length ∧ is.length ≤ 6 := by omega
      have hmo : mostsOk (.tuple ms) = true := by
        simp only [mostsOk, Bool.and_eq_true, decide_eq_true_eq, List.all_eq_true]
        exact ⟨⟨hml.1, by omega⟩, fun t ht => (hms t ht).1⟩
      obtain ⟨M, rfl, hM⟩ := typed_ints ms fun t ht => (hms t ht).1
      obtain ⟨I, rfl, hI⟩ := typed_iss (f := (M.map PyData.int).length) (m := is.length) is 0 fun j t e => by
        have := hio j t e
        rw [hil, Nat.zero_add]
        exact this
      have lM : (M.map PyData.int).length = M.length := by simp
      have lI : (issT I).length = I.length := by simp [issT]
      rw [lM, lI] at hI
      have b1 : bads (fun t o => issOk t (tlen (.tuple (M.map PyData.int))) (issT I).length o) 0 (issT I) = [] := bads_none _ 0 fun j t e => by
        have := hio j t e
        rw [hil, Nat.zero_add]
        exact this
      have b2 : bads crtOk 0 cs = [] := bads_none cs 0 fun j t e => by
        rw [Nat.zero_add]
        exact hco j t e
      have o1 : OkT 20 90 2 12 (.tuple (M.map PyData.int)) := (OkT.tup (OkL.all (k := 10) (fun t ht => (hms t ht).2) (by omega)) (by omega)).mono (by omega) (by omega) (by omega)
      have o2 : OkT 20 810 3 12 (.tuple (issT I)) := (OkT.tup (OkL.all (k := 10) hik (by omega)) (by omega)).mono (by omega) (by omega) (by omega)
      have o3 : OkT 20 300 3 12 (.tuple cs) := (OkT.tup (OkL.all (k := 8) hck (by omega)) (by omega)).mono (by omega) (by omega) (by omega)
      have o0 : OkT 20 8 1 12 (.str "book") := ⟨by decide +kernel, by decide +kernel, by decide +kernel, by decide +kernel⟩
      have on : OkL 20 0 3 12 [] := (OkL.nil (n := 20) (k := 12)).mono
      have p0 : OkT 20 8 3 12 (.str "book") := o0.mono
      have p1 : OkT 20 90 3 12 (.tuple (M.map PyData.int)) := o1.mono
      have p2 : OkT 20 810 3 12 (.tuple (issT I)) := o2.mono
      have p3 : OkT 20 300 3 12 (.tuple cs) := o3.mono
      have oo : OkL 20 1300 3 12 [.str "book", .tuple (M.map PyData.int), .tuple (issT I), .tuple cs] :=
        (OkL.cons p0 (OkL.cons p1 (OkL.cons p2 (OkL.cons p3 on)))).mono
      refine ⟨hp3, ⟨M, I, cs⟩, rfl, hM, (by show 1 ≤ M.length ∧ M.length ≤ 4; omega), (by show 1 ≤ I.length ∧ I.length ≤ 3; omega), hcl, fun gs hg => (hI gs hg).1, fun gs hg => (hI gs hg).2, ?_, OkT.tup oo (by simp)⟩
      simp only [Bk.t, flawT, if_true, hmo, if_pos hil', if_pos hcl, b1, b2]
end Law

namespace Law
open PySem PL
open L2 (atI ixN CDiv CMul CPow RgOk)
section
variable {env : EnvD} {st : Sto} {QP : List T × Chk → Sto → Prop}
theorem w_itZ2 {m : ME (List D)} : EvO (mItZ2 m env st) QP = EvO (m env st) fun ds s => match ds with
    | [d1, d2] => match asSeq s d1, asSeq s d2, chk2 d1 d2 ((asSeq s d1).getD []) ((asSeq s d2).getD []) with
      | some ts, some us, some c => QP (zipT2 ts us, c) s
      | _, _, _ => False
    | _ => False := by
  unfold mItZ2; rw [w_bind]; congr; funext ds s
  match ds with
  | [] => rfl
  | [_] => rfl
  | [d1, d2] =>
    dsimp only
    generalize asSeq s d1 = a
    generalize asSeq s d2 = b
    generalize chk2 d1 d2 (a.getD []) (b.getD []) = c
    cases a <;> cases b <;> cases c <;> rfl
  | _ :: _ :: _ :: _ => rfl
theorem w_itZ3 {m : ME (List D)} : EvO (mItZ3 m env st) QP = EvO (m env st) fun ds s => match ds with
    | [d1, d2, d3] => match asSeq s d1, asSeq s d2, asSeq s d3 with
      | some ts, some us, some zs => (noRef d1 = true ∧ noRef d2 = true ∧ noRef d3 = true) ∧ QP (zipT3 ts us zs, none) s
      | _, _, _ => False
    | _ => False := by
  unfold mItZ3; rw [w_bind]; congr; funext ds s
  match ds with
  | [] => rfl
  | [_] => rfl
  | [_, _] => rfl
  | [d1, d2, d3] =>
    dsimp only
    generalize asSeq s d1 = a
    generalize asSeq s d2 = b
    generalize asSeq s d3 = c
    cases a <;> cases b <;> cases c <;> first | rfl | exact w_itb
  | _ :: _ :: _ :: _ :: _ => rfl
theorem lc_map {α : Type} {g : MG} {e : ME D} (f h : α → T) : ∀ (l : List α), (∀ x ∈ l, EvO (g (.v (f x)) env st) fun e1 s1 => EvO (e e1 s1) fun d s3 => d = .v (h x) ∧ s3 = st) → lcGo none g mYes e env (l.map f) st = .ok (l.map h) st
  | [], _ => rfl
  | t :: ts, ht => by
    have ih := lc_map f h ts fun t' h' => ht t' (List.mem_cons_of_mem _ h')
    apply eqn_a
    rw [List.map_cons, w_lcC]
    refine EvO.imp (ht t List.mem_cons_self) fun e1 s1 q => ?_
    show EvO (.ok true s1) _
    rw [w_ok, if_pos rfl]
    refine EvO.imp q fun d s3 ⟨q1, q2⟩ => ?_
    subst q1 q2
    simp only [ih, w_ok, List.map_cons, and_self]
end
def mostG (ms : List Int) (g : Gr) : Int := if g.fact = true then ms.getD g.num 0 else 1
def amtG (ms fs zs : List Int) (g : Gr) : Int := if g.side = 1 then (if g.fact = true then fs.getD g.num 0 else zs.getD g.num 0) else mostG ms g - (if g.fact = true then fs.getD g.num 0 else zs.getD g.num 0)
theorem at_map {l : List Int} {i : Nat} (h : i < l.length) : atI (l.map PyData.int) (i : Int) = some (.int (l.getD i 0)) := by
  apply ixi
  simp [h]
theorem at_iss {is : List (List Gr)} {i : Nat} {gs : List Gr} (h : is[i]? = some gs) : atI (issT is) (i : Int) = some (.tuple (gs.map Gr.t)) := by
  apply ixi
  simp [issT, h]
theorem hfi : ¬ (("fact" : Str) = "issue") := fun e => hne e.symm
theorem sh_fact : SeqAt.shaped (.str "fact") = true := by decide +kernel
theorem sh_issue : SeqAt.shaped (.str "issue") = true := by decide +kernel
theorem Bk.ok.at {b : Bk} (hb : b.ok) {i : Nat} {gs : List Gr} (hg : b.is[i]? = some gs) : (1 ≤ gs.length ∧ gs.length ≤ 8) ∧ ∀ g ∈ gs, Gr.ok b.ms.length b.is.length g :=
  ⟨hb.gl gs (List.mem_of_getElem? hg), hb.gr gs (List.mem_of_getElem? hg)⟩
theorem ox {ts : List T} {i : Int} {t : T} {st : Sto} (h : atI ts i = some t) : opIx (.v (.tuple ts)) (.v (.int i)) st = .ok (.v t) st := by simp [opIx, asSeq, h]
theorem oxl {ts : List T} {i : Int} {t : T} {st : Sto} (h : atI ts i = some t) : opIx (.v (.list ts)) (.v (.int i)) st = .ok (.v t) st := by simp [opIx, asSeq, asL, asLt, h]
theorem ob0 {b : Bk} {st : Sto} : opIx (.v b.t) (.v (.int 0)) st = .ok (.v (.str "book")) st := ox ix0
theorem ob1 {b : Bk} {st : Sto} : opIx (.v b.t) (.v (.int 1)) st = .ok (.v (.tuple (b.ms.map .int))) st := ox ix1
theorem ob2 {b : Bk} {st : Sto} : opIx (.v b.t) (.v (.int 2)) st = .ok (.v (.tuple (issT b.is))) st := ox ix2
theorem ob3 {b : Bk} {st : Sto} : opIx (.v b.t) (.v (.int 3)) st = .ok (.v (.tuple b.cs)) st := ox ix3
theorem oq_int {i j : Int} {n : Bool} {st : Sto} : opEqB n (.v (.int i)) (.v (.int j)) st = .ok (.v (.bool (if n then !(i == j) else i == j))) st := by simp [opEqB, toT, sh_int, PyData.eqv]
theorem oq_str {i j : Str} {n : Bool} {st : Sto} : opEqB n (.v (.str i)) (.v (.str j)) st = .ok (.v (.bool (if n then !(i == j) else i == j))) st := rfl
theorem sff : (("fact" : Str) == "fact") = true := by decide +kernel
theorem sif : (("issue" : Str) == "fact") = false := by decide +kernel
theorem e_lw_mosts {b : Bk} (hb : b.ok) {i : Nat} {gs : List Gr} (hg : b.is[i]? = some gs) {st : Sto} : F_lw_mosts [.v b.t, .v (.int i)] st = .ok (.v (.tuple ((gs.map (mostG b.ms)).map .int))) st := by
  obtain ⟨⟨_, hl⟩, hgr⟩ := hb.at hg
  apply eqn_of
  unfold F_lw_mosts m_lw_mosts
  have hlc : lcGo none (gTu 3 (gCons (gNm 2) (gCons (gNm 3) (gCons (gNm 4) gNil)))) mYes (mIf (mCmpT opEq (mVar 2) (mC (.v (.str ("fact" : Str))))) (mBin opIx (mBin opIx (mVar 0) (mC (.v (.int 1)))) (mVar 3)) (mC (.v (.int 1)))) [some (.v b.t), some (.v (.int i)), none, none, none] (gs.map Gr.t) st = .ok (gs.map fun g => .int (mostG b.ms g)) st :=
    lc_map _ _ _ fun g hgm => by
      obtain ⟨h1, h2, _⟩ := hgr g hgm
      cases hf : g.fact with
      | true =>
        have := at_map (l := b.ms) (i := g.num) (by have := h1 hf; omega)
        simp [w_ok, w_bad, w_bind, w_bindN, w_toS, w_itb, w_var, w_c, w_bin, w_un, w_cmpT, w_mB, w_chain, w_tru, w_andT, w_orT, w_notT, w_andV, w_orV, w_notV, w_if, w_nil, w_cons, w_tup, w_lst, w_lstM, w_call, w_fn, w_fnK, w_meth, w_noP, w_part, w_slice, w_rg1, w_lstRgM, w_lstRg, w_tupRg, w_gNm, w_gTu, w_gNil, w_gCons, w_gSb, w_skip, w_seq, w_asg, w_ret, w_drop, w_ifS, w_par2, w_par3, w_parN, w_runB, w_finV, w_finM, List.map, List.replicate, List.length, List.cons_append, List.nil_append, List.append_nil, List.getElem?_cons_zero, List.getElem?_cons_succ, List.set_cons_zero, List.set_cons_succ, setAll, pureTs, Option.map, Gr.t, hf, opEq, opEqB, toT, sh_fact, sh_issue, PyData.eqv, opIx, Bk.t, asSeq, asL, asLt, ix1, this, mostG]
      | false =>
        simp [w_ok, w_bad, w_bind, w_bindN, w_toS, w_itb, w_var, w_c, w_bin, w_un, w_cmpT, w_mB, w_chain, w_tru, w_andT, w_orT, w_notT, w_andV, w_orV, w_notV, w_if, w_nil, w_cons, w_tup, w_lst, w_lstM, w_call, w_fn, w_fnK, w_meth, w_noP, w_part, w_slice, w_rg1, w_lstRgM, w_lstRg, w_tupRg, w_gNm, w_gTu, w_gNil, w_gCons, w_gSb, w_skip, w_seq, w_asg, w_ret, w_drop, w_ifS, w_par2, w_par3, w_parN, w_runB, w_finV, w_finM, List.map, List.replicate, List.length, List.cons_append, List.nil_append, List.append_nil, List.getElem?_cons_zero, List.getElem?_cons_succ, List.set_cons_zero, List.set_cons_succ, setAll, pureTs, Option.map, Gr.t, hf, opEq, opEqB, toT, sh_fact, sh_issue, PyData.eqv, hne, mostG, beq_str]
  simp only [Bk.t] at hlc
  simp [w_ok, w_bad, w_bind, w_bindN, w_toS, w_itb, w_var, w_c, w_bin, w_un, w_cmpT, w_mB, w_chain, w_tru, w_andT, w_orT, w_notT, w_andV, w_orV, w_notV, w_if, w_nil, w_cons, w_tup, w_lst, w_lstM, w_call, w_fn, w_fnK, w_meth, w_noP, w_part, w_slice, w_rg1, w_lstRgM, w_lstRg, w_tupRg, w_gNm, w_gTu, w_gNil, w_gCons, w_gSb, w_skip, w_seq, w_asg, w_ret, w_drop, w_ifS, w_par2, w_par3, w_parN, w_runB, w_finV, w_finM, List.map, List.replicate, List.length, List.cons_append, List.nil_append, List.append_nil, List.getElem?_cons_zero, List.getElem?_cons_succ, List.set_cons_zero, List.set_cons_succ, setAll, pureTs, Option.map, w_lc, w_itS, wipeD, opIx, asSeq, asL, asLt, Bk.t, ix1, ix2, at_iss hg, chkOf, hlc, finF, fTup, small_len (m := 100) (show gs.length ≤ 100 by omega), take_all]
theorem e_mosts_in {b : Bk} (hb : b.ok) {i : Nat} {gs : List Gr} (hg : b.is[i]? = some gs) {st : Sto} : F_mosts_in [.v b.t, .v (.int i)] st = .ok (.v (.list ((gs.map (mostG b.ms)).map .int))) st := by
  obtain ⟨⟨_, hl⟩, hgr⟩ := hb.at hg
  apply eqn_of
  unfold F_mosts_in m_mosts_in
  have hlc : lcGo none (gTu 3 (gCons (gNm 2) (gCons (gNm 3) (gCons (gNm 4) gNil)))) mYes (mIf (mCmpT opEq (mVar 2) (mC (.v (.str ("fact" : Str))))) (mBin opIx (mBin opIx (mVar 0) (mC (.v (.int 1)))) (mVar 3)) (mC (.v (.int 1)))) [some (.v b.t), some (.v (.int i)), none, none, none] (gs.map Gr.t) st = .ok (gs.map fun g => .int (mostG b.ms g)) st :=
    lc_map _ _ _ fun g hgm => by
      obtain ⟨h1, h2, _⟩ := hgr g hgm
      cases hf : g.fact with
      | true =>
        have := at_map (l := b.ms) (i := g.num) (by have := h1 hf; omega)
        simp [w_ok, w_bad, w_bind, w_bindN, w_toS, w_itb, w_var, w_c, w_bin, w_un, w_cmpT, w_mB, w_chain, w_tru, w_andT, w_orT, w_notT, w_andV, w_orV, w_notV, w_if, w_nil, w_cons, w_tup, w_lst, w_lstM, w_call, w_fn, w_fnK, w_meth, w_noP, w_part, w_slice, w_rg1, w_lstRgM, w_lstRg, w_tupRg, w_gNm, w_gTu, w_gNil, w_gCons, w_gSb, w_skip, w_seq, w_asg, w_ret, w_drop, w_ifS, w_par2, w_par3, w_parN, w_runB, w_finV, w_finM, List.map, List.replicate, List.length, List.cons_append, List.nil_append, List.append_nil, List.getElem?_cons_zero, List.getElem?_cons_succ, List.set_cons_zero, List.set_cons_succ, setAll, pureTs, Option.map, Gr.t, hf, opEq, opEqB, toT, sh_fact, sh_issue, PyData.eqv, opIx, Bk.t, asSeq, asL, asLt, ix1, this, mostG]
      | false =>
        simp [w_ok, w_bad, w_bind, w_bindN, w_toS, w_itb, w_var, w_c, w_bin, w_un, w_cmpT, w_mB, w_chain, w_tru, w_andT, w_orT, w_notT, w_andV, w_orV, w_notV, w_if, w_nil, w_cons, w_tup, w_lst, w_lstM, w_call, w_fn, w_fnK, w_meth, w_noP, w_part, w_slice, w_rg1, w_lstRgM, w_lstRg, w_tupRg, w_gNm, w_gTu, w_gNil, w_gCons, w_gSb, w_skip, w_seq, w_asg, w_ret, w_drop, w_ifS, w_par2, w_par3, w_parN, w_runB, w_finV, w_finM, List.map, List.replicate, List.length, List.cons_append, List.nil_append, List.append_nil, List.getElem?_cons_zero, List.getElem?_cons_succ, List.set_cons_zero, List.set_cons_succ, setAll, pureTs, Option.map, Gr.t, hf, opEq, opEqB, toT, sh_fact, sh_issue, PyData.eqv, hne, mostG, beq_str]
  simp only [Bk.t] at hlc
  simp [w_ok, w_bad, w_bind, w_bindN, w_toS, w_itb, w_var, w_c, w_bin, w_un, w_cmpT, w_mB, w_chain, w_tru, w_andT, w_orT, w_notT, w_andV, w_orV, w_notV, w_if, w_nil, w_cons, w_tup, w_lst, w_lstM, w_call, w_fn, w_fnK, w_meth, w_noP, w_part, w_slice, w_rg1, w_lstRgM, w_lstRg, w_tupRg, w_gNm, w_gTu, w_gNil, w_gCons, w_gSb, w_skip, w_seq, w_asg, w_ret, w_drop, w_ifS, w_par2, w_par3, w_parN, w_runB, w_finV, w_finM, List.map, List.replicate, List.length, List.cons_append, List.nil_append, List.append_nil, List.getElem?_cons_zero, List.getElem?_cons_succ, List.set_cons_zero, List.set_cons_succ, setAll, pureTs, Option.map, w_lc, w_itS, wipeD, opIx, asSeq, asL, asLt, Bk.t, ix1, ix2, at_iss hg, chkOf, hlc, finF, fTup, small_len (m := 100) (show gs.length ≤ 100 by omega), take_all]
/-! the points -/
theorem e_lw_point {b : Bk} (hb : b.ok) {i : Nat} {gs : List Gr} (hg : b.is[i]? = some gs) {fs zs : List Int} (hf : fs.length = b.ms.length) (hz : zs.length = b.is.length) {st : Sto} :
    F_lw_point [.v b.t, .v (.tuple (fs.map .int)), .v (.tuple (zs.map .int)), .v (.int i)] st = .ok (.v (.tuple ((gs.map (amtG b.ms fs zs)).map .int))) st := by
  obtain ⟨⟨_, hl⟩, hgr⟩ := hb.at hg
  apply eqn_of
  unfold F_lw_point m_lw_point
  simp only [w_runB, w_seq, w_asg, w_lstM, w_nil, w_ok, w_gNm, pureTs, w_for, w_itS, w_bin, w_var, w_c, ob2, ox (at_iss hg), asSeq, chkOf, List.map, List.replicate, List.length, List.cons_append, List.nil_append, List.getElem?_cons_zero, List.getElem?_cons_succ, List.set_cons_zero, List.set_cons_succ]
  refine ⟨by decide, ?_⟩
  have e0 : ∀ l : List T, (st ++ [MO.lst l])[List.length st]? = some (.lst l) := fun l => by rw [List.getElem?_append_right (Nat.le_refl _), Nat.sub_self]; rfl
  have e9 : ∀ (l : List T) (x : MO), List.set (st ++ [MO.lst l]) (List.length st) x = st ++ [x] := fun l x => by rw [List.set_append_right _ _ (Nat.le_refl _), Nat.sub_self]; rfl
  obtain ⟨F, hF⟩ : ∃ F : Gr → T, F = fun g => .int (amtG b.ms fs zs g) := ⟨_, rfl⟩
  refine for_inv (fun j env s => (∃ x5 x6 x7 x8 x9, env = [some (.v b.t), some (.v (.tuple (fs.map .int))), some (.v (.tuple (zs.map .int))), some (.v (.int i)), some (.ref (List.length st)), x5, x6, x7, x8, x9]) ∧ s = st ++ [.lst ((gs.take j).map F)]) _ 0 _ _ ⟨⟨_, _, _, _, _, rfl⟩, by simp⟩ (fun j t env s ht hI => ?_) fun env s hI => ?_
  · obtain ⟨⟨x5, x6, x7, x8, x9, rfl⟩, rfl⟩ := hI
    rw [Nat.zero_add]
    rw [List.getElem?_map] at ht
    obtain ⟨g, hgj, rfl⟩ := Option.map_eq_some_iff.mp ht
    have hgm : g ∈ gs := List.mem_of_getElem? hgj
    obtain ⟨h1, h2, h3⟩ := hgr g hgm
    have hj := (List.getElem?_eq_some_iff.mp hgj).1
    have nx : (gs.take (j + 1)).map F = (gs.take j).map F ++ [F g] := by
      rw [List.take_add_one, hgj]; simp
    have lb : ((gs.take j).map F).length < sizeLine := by
      rw [List.length_map, List.length_take]
      exact Nat.lt_of_le_of_lt (show min j gs.length ≤ 100 by omega) (by decide)
    rw [nx]
    generalize (gs.take j).map F = L at lb
    have hF1 : F g = .int (amtG b.ms fs zs g) := by rw [hF]
    rw [hF1]
    unfold amtG mostG
    cases hfa : g.fact with
    | true =>
      have hm := at_map (l := b.ms) (i := g.num) (by have := h1 hfa; omega)
      have ha := at_map (l := fs) (i := g.num) (by have := h1 hfa; omega)
      cases hs : (g.side == 1) with
      | true =>
        simp only [Gr.t, w_gTu, w_gCons, w_gNil, w_gNm, w_ok, List.length, List.set_cons_succ, List.set_cons_zero]
        refine ⟨trivial, ?_⟩
        simp only [w_ok, w_bad, w_bind, w_bindN, w_toS, w_itb, w_var, w_c, w_bin, w_un, w_cmpT, w_mB, w_chain, w_tru, w_andT, w_orT, w_notT, w_andV, w_orV, w_notV, w_if, w_nil, w_cons, w_tup, w_lst, w_lstM, w_call, w_fn, w_fnK, w_meth, w_noP, w_part, w_slice, w_rg1, w_lstRgM, w_lstRg, w_tupRg, w_gNm, w_gTu, w_gNil, w_gCons, w_gSb, w_skip, w_seq, w_asg, w_ret, w_drop, w_ifS, w_par2, w_par3, w_parN, w_runB, w_finV, w_finM, List.map, List.replicate, List.length, List.cons_append, List.nil_append, List.append_nil, List.getElem?_cons_zero, List.getElem?_cons_succ, List.set_cons_zero, List.set_cons_succ, setAll, pureTs, Option.map, hfa, ob1, ox ha, ox hm, oq_str, oq_int, sff, sif, hs, asL, asLt, e0, e9, fAppend, onRef, opSub, opI0, ↓reduceIte, Bool.false_eq_true, beq_iff_eq.mp hs]
        exact ⟨by decide, trivial, lb, ⟨_, _, _, _, _, rfl⟩, trivial⟩
      | false =>
        simp only [Gr.t, w_gTu, w_gCons, w_gNil, w_gNm, w_ok, List.length, List.set_cons_succ, List.set_cons_zero]
        refine ⟨trivial, ?_⟩
        simp only [w_ok, w_bad, w_bind, w_bindN, w_toS, w_itb, w_var, w_c, w_bin, w_un, w_cmpT, w_mB, w_chain, w_tru, w_andT, w_orT, w_notT, w_andV, w_orV, w_notV, w_if, w_nil, w_cons, w_tup, w_lst, w_lstM, w_call, w_fn, w_fnK, w_meth, w_noP, w_part, w_slice, w_rg1, w_lstRgM, w_lstRg, w_tupRg, w_gNm, w_gTu, w_gNil, w_gCons, w_gSb, w_skip, w_seq, w_asg, w_ret, w_drop, w_ifS, w_par2, w_par3, w_parN, w_runB, w_finV, w_finM, List.map, List.replicate, List.length, List.cons_append, List.nil_append, List.append_nil, List.getElem?_cons_zero, List.getElem?_cons_succ, List.set_cons_zero, List.set_cons_succ, setAll, pureTs, Option.map, hfa, ob1, ox ha, ox hm, oq_str, oq_int, sff, sif, hs, asL, asLt, e0, e9, fAppend, onRef, opSub, opI0, ↓reduceIte, Bool.false_eq_true, if_neg (show ¬ g.side = 1 by simpa using hs)]
        exact ⟨by decide, trivial, lb, ⟨_, _, _, _, _, rfl⟩, trivial⟩
    | false =>
      have ha := at_map (l := zs) (i := g.num) (by have := h2 hfa; omega)
      cases hs : (g.side == 1) with
      | true =>
        simp only [Gr.t, w_gTu, w_gCons, w_gNil, w_gNm, w_ok, List.length, List.set_cons_succ, List.set_cons_zero]
        refine ⟨trivial, ?_⟩
        simp only [w_ok, w_bad, w_bind, w_bindN, w_toS, w_itb, w_var, w_c, w_bin, w_un, w_cmpT, w_mB, w_chain, w_tru, w_andT, w_orT, w_notT, w_andV, w_orV, w_notV, w_if, w_nil, w_cons, w_tup, w_lst, w_lstM, w_call, w_fn, w_fnK, w_meth, w_noP, w_part, w_slice, w_rg1, w_lstRgM, w_lstRg, w_tupRg, w_gNm, w_gTu, w_gNil, w_gCons, w_gSb, w_skip, w_seq, w_asg, w_ret, w_drop, w_ifS, w_par2, w_par3, w_parN, w_runB, w_finV, w_finM, List.map, List.replicate, List.length, List.cons_append, List.nil_append, List.append_nil, List.getElem?_cons_zero, List.getElem?_cons_succ, List.set_cons_zero, List.set_cons_succ, setAll, pureTs, Option.map, hfa, ob1, ox ha, oq_str, oq_int, sff, sif, hs, asL, asLt, e0, e9, fAppend, onRef, opSub, opI0, ↓reduceIte, Bool.false_eq_true, beq_iff_eq.mp hs]
        exact ⟨by decide, trivial, lb, ⟨_, _, _, _, _, rfl⟩, trivial⟩
      | false =>
        simp only [Gr.t, w_gTu, w_gCons, w_gNil, w_gNm, w_ok, List.length, List.set_cons_succ, List.set_cons_zero]
        refine ⟨trivial, ?_⟩
        simp only [w_ok, w_bad, w_bind, w_bindN, w_toS, w_itb, w_var, w_c, w_bin, w_un, w_cmpT, w_mB, w_chain, w_tru, w_andT, w_orT, w_notT, w_andV, w_orV, w_notV, w_if, w_nil, w_cons, w_tup, w_lst, w_lstM, w_call, w_fn, w_fnK, w_meth, w_noP, w_part, w_slice, w_rg1, w_lstRgM, w_lstRg, w_tupRg, w_gNm, w_gTu, w_gNil, w_gCons, w_gSb, w_skip, w_seq, w_asg, w_ret, w_drop, w_ifS, w_par2, w_par3, w_parN, w_runB, w_finV, w_finM, List.map, List.replicate, List.length, List.cons_append, List.nil_append, List.append_nil, List.getElem?_cons_zero, List.getElem?_cons_succ, List.set_cons_zero, List.set_cons_succ, setAll, pureTs, Option.map, hfa, ob1, ox ha, oq_str, oq_int, sff, sif, hs, asL, asLt, e0, e9, fAppend, onRef, opSub, opI0, ↓reduceIte, Bool.false_eq_true, if_neg (show ¬ g.side = 1 by simpa using hs)]
        exact ⟨by decide, trivial, lb, ⟨_, _, _, _, _, rfl⟩, trivial⟩
  · obtain ⟨⟨x5, x6, x7, x8, x9, rfl⟩, rfl⟩ := hI
    have e8 : List.take (0 + (gs.map Gr.t).length) gs = gs := List.take_of_length_le (by simp)
    rw [e8]
    simp only [w_ret, w_call, w_cons, w_nil, w_var, w_ok, List.getElem?_cons_zero, List.getElem?_cons_succ, fTup, asL, asLt, e0, w_finV, List.take_left]
    rw [hF]
    exact ⟨by simp, trivial⟩
theorem e_point_in {b : Bk} (hb : b.ok) {i : Nat} {gs : List Gr} (hg : b.is[i]? = some gs) {fs zs : List Int} (hf : fs.length = b.ms.length) (hz : zs.length = b.is.length) {st : Sto} :
    F_point_in [.v b.t, .v (.int i), .v (.tuple (fs.map .int)), .v (.tuple (zs.map .int))] st = .ok (.v (.tuple ((gs.map (amtG b.ms fs zs)).map .int))) st := by
  obtain ⟨⟨_, hl⟩, hgr⟩ := hb.at hg
  apply eqn_of
  unfold F_point_in m_point_in
  simp only [w_runB, w_seq, w_asg, w_lstM, w_nil, w_ok, w_gNm, pureTs, w_for, w_itS, w_bin, w_var, w_c, ob2, ox (at_iss hg), asSeq, chkOf, List.map, List.replicate, List.length, List.cons_append, List.nil_append, List.getElem?_cons_zero, List.getElem?_cons_succ, List.set_cons_zero, List.set_cons_succ]
  refine ⟨by decide, ?_⟩
  have e0 : ∀ l : List T, (st ++ [MO.lst l])[List.length st]? = some (.lst l) := fun l => by rw [List.getElem?_append_right (Nat.le_refl _), Nat.sub_self]; rfl
  have e9 : ∀ (l : List T) (x : MO), List.set (st ++ [MO.lst l]) (List.length st) x = st ++ [x] := fun l x => by rw [List.set_append_right _ _ (Nat.le_refl _), Nat.sub_self]; rfl
  obtain ⟨F, hF⟩ : ∃ F : Gr → T, F = fun g => .int (amtG b.ms fs zs g) := ⟨_, rfl⟩
  refine for_inv (fun j env s => (∃ x5 x6 x7 x8 x9, env = [some (.v b.t), some (.v (.int i)), some (.v (.tuple (fs.map .int))), some (.v (.tuple (zs.map .int))), some (.ref (List.length st)), x5, x6, x7, x8, x9]) ∧ s = st ++ [.lst ((gs.take j).map F)]) _ 0 _ _ ⟨⟨_, _, _, _, _, rfl⟩, by simp⟩ (fun j t env s ht hI => ?_) fun env s hI => ?_
  · obtain ⟨⟨x5, x6, x7, x8, x9, rfl⟩, rfl⟩ := hI
    rw [Nat.zero_add]
    rw [List.getElem?_map] at ht
    obtain ⟨g, hgj, rfl⟩ := Option.map_eq_some_iff.mp ht
    have hgm : g ∈ gs := List.mem_of_getElem? hgj
    obtain ⟨h1, h2, h3⟩ := hgr g hgm
    have hj := (List.getElem?_eq_some_iff.mp hgj).1
    have nx : (gs.take (j + 1)).map F = (gs.take j).map F ++ [F g] := by
      rw [List.take_add_one, hgj]; simp
    have lb : ((gs.take j).map F).length < sizeLine := by
      rw [List.length_map, List.length_take]
      exact Nat.lt_of_le_of_lt (show min j gs.length ≤ 100 by omega) (by decide)
    rw [nx]
    generalize (gs.take j).map F = L at lb
    have hF1 : F g = .int (amtG b.ms fs zs g) := by rw [hF]
    rw [hF1]
    unfold amtG mostG
    cases hfa : g.fact with
    | true =>
      have hm := at_map (l := b.ms) (i := g.num) (by have := h1 hfa; omega)
      have ha := at_map (l := fs) (i := g.num) (by have := h1 hfa; omega)
      cases hs : (g.side == 1) with
      | true =>
        simp only [Gr.t, w_gTu, w_gCons, w_gNil, w_gNm, w_ok, List.length, List.set_cons_succ, List.set_cons_zero]
        refine ⟨trivial, ?_⟩
        simp only [w_ok, w_bad, w_bind, w_bindN, w_toS, w_itb, w_var, w_c, w_bin, w_un, w_cmpT, w_mB, w_chain, w_tru, w_andT, w_orT, w_notT, w_andV, w_orV, w_notV, w_if, w_nil, w_cons, w_tup, w_lst, w_lstM, w_call, w_fn, w_fnK, w_meth, w_noP, w_part, w_slice, w_rg1, w_lstRgM, w_lstRg, w_tupRg, w_gNm, w_gTu, w_gNil, w_gCons, w_gSb, w_skip, w_seq, w_asg, w_ret, w_drop, w_ifS, w_par2, w_par3, w_parN, w_runB, w_finV, w_finM, List.map, List.replicate, List.length, List.cons_append, List.nil_append, List.append_nil, List.getElem?_cons_zero, List.getElem?_cons_succ, List.set_cons_zero, List.set_cons_succ, setAll, pureTs, Option.map, hfa, ob1, ox ha, ox hm, oq_str, oq_int, sff, sif, hs, asL, asLt, e0, e9, fAppend, onRef, opSub, opI0, ↓reduceIte, Bool.false_eq_true, beq_iff_eq.mp hs]
        exact ⟨by decide, trivial, lb, ⟨_, _, _, _, _, rfl⟩, trivial⟩
      | false =>
        simp only [Gr.t, w_gTu, w_gCons, w_gNil, w_gNm, w_ok, List.length, List.set_cons_succ, List.set_cons_zero]
        refine ⟨trivial, ?_⟩
        simp only [w_ok, w_bad, w_bind, w_bindN, w_toS, w_itb, w_var, w_c, w_bin, w_un, w_cmpT, w_mB, w_chain, w_tru, w_andT, w_orT, w_notT, w_andV, w_orV, w_notV, w_if, w_nil, w_cons, w_tup, w_lst, w_lstM, w_call, w_fn, w_fnK, w_meth, w_noP, w_part, w_slice, w_rg1, w_lstRgM, w_lstRg, w_tupRg, w_gNm, w_gTu, w_gNil, w_gCons, w_gSb, w_skip, w_seq, w_asg, w_ret, w_drop, w_ifS, w_par2, w_par3, w_parN, w_runB, w_finV, w_finM, List.map, List.replicate, List.length, List.cons_append, List.nil_append, List.append_nil, List.getElem?_cons_zero, List.getElem?_cons_succ, List.set_cons_zero, List.set_cons_succ, setAll, pureTs, Option.map, hfa, ob1, ox ha, ox hm, oq_str, oq_int, sff, sif, hs, asL, asLt, e0, e9, fAppend, onRef, opSub, opI0, ↓reduceIte, Bool.false_eq_true, if_neg (show ¬ g.side = 1 by simpa using hs)]
        exact ⟨by decide, trivial, lb, ⟨_, _, _, _, _, rfl⟩, trivial⟩
    | false =>
      have ha := at_map (l := zs) (i := g.num) (by have := h2 hfa; omega)
      cases hs : (g.side == 1) with
      | true =>
        simp only [Gr.t, w_gTu, w_gCons, w_gNil, w_gNm, w_ok, List.length, List.set_cons_succ, List.set_cons_zero]
        refine ⟨trivial, ?_⟩
        simp only [w_ok, w_bad, w_bind, w_bindN, w_toS, w_itb, w_var, w_c, w_bin, w_un, w_cmpT, w_mB, w_chain, w_tru, w_andT, w_orT, w_notT, w_andV, w_orV, w_notV, w_if, w_nil, w_cons, w_tup, w_lst, w_lstM, w_call, w_fn, w_fnK, w_meth, w_noP, w_part, w_slice, w_rg1, w_lstRgM, w_lstRg, w_tupRg, w_gNm, w_gTu, w_gNil, w_gCons, w_gSb, w_skip, w_seq, w_asg, w_ret, w_drop, w_ifS, w_par2, w_par3, w_parN, w_runB, w_finV, w_finM, List.map, List.replicate, List.length, List.cons_append, List.nil_append, List.append_nil, List.getElem?_cons_zero, List.getElem?_cons_succ, List.set_cons_zero, List.set_cons_succ, setAll, pureTs, Option.map, hfa, ob1, ox ha, oq_str, oq_int, sff, sif, hs, asL, asLt, e0, e9, fAppend, onRef, opSub, opI0, ↓reduceIte, Bool.false_eq_true, beq_iff_eq.mp hs]
        exact ⟨by decide, trivial, lb, ⟨_, _, _, _, _, rfl⟩, trivial⟩
      | false =>
        simp only [Gr.t, w_gTu, w_gCons, w_gNil, w_gNm, w_ok, List.length, List.set_cons_succ, List.set_cons_zero]
        refine ⟨trivial, ?_⟩
        simp only [w_ok, w_bad, w_bind, w_bindN, w_toS, w_itb, w_var, w_c, w_bin, w_un, w_cmpT, w_mB, w_chain, w_tru, w_andT, w_orT, w_notT, w_andV, w_orV, w_notV, w_if, w_nil, w_cons, w_tup, w_lst, w_lstM, w_call, w_fn, w_fnK, w_meth, w_noP, w_part, w_slice, w_rg1, w_lstRgM, w_lstRg, w_tupRg, w_gNm, w_gTu, w_gNil, w_gCons, w_gSb, w_skip, w_seq, w_asg, w_ret, w_drop, w_ifS, w_par2, w_par3, w_parN, w_runB, w_finV, w_finM, List.map, List.replicate, List.length, List.cons_append, List.nil_append, List.append_nil, List.getElem?_cons_zero, List.getElem?_cons_succ, List.set_cons_zero, List.set_cons_succ, setAll, pureTs, Option.map, hfa, ob1, ox ha, oq_str, oq_int, sff, sif, hs, asL, asLt, e0, e9, fAppend, onRef, opSub, opI0, ↓reduceIte, Bool.false_eq_true, if_neg (show ¬ g.side = 1 by simpa using hs)]
        exact ⟨by decide, trivial, lb, ⟨_, _, _, _, _, rfl⟩, trivial⟩
  · obtain ⟨⟨x5, x6, x7, x8, x9, rfl⟩, rfl⟩ := hI
    have e8 : List.take (0 + (gs.map Gr.t).length) gs = gs := List.take_of_length_le (by simp)
    rw [e8]
    simp only [w_ret, w_call, w_cons, w_nil, w_var, w_ok, List.getElem?_cons_zero, List.getElem?_cons_succ, fTup, asL, asLt, e0, w_finV, List.take_left]
    rw [hF]
    exact ⟨by simp, trivial⟩
end Law

namespace Law
open PySem PL
open L2 (atI ixN CDiv CMul CPow RgOk)
/-! ### rows of numbers -/
def okP (z : T) : Bool := match z with
  | .tuple [t, .int m] => isW t 0 m
  | _ => false
def areT (v : T) (ms : List Int) : Bool := match v with
  | .tuple ts => decide (ts.length = ms.length) && (zipT2 ts (ms.map .int)).all okP
  | _ => false
theorem zip_mem : ∀ {ts us : List T} {z : T}, z ∈ zipT2 ts us → ∃ x y, z = .tuple [x, y] ∧ x ∈ ts ∧ y ∈ us
  | [], _, z, h => by simp [zipT2] at h
  | _ :: _, [], z, h => by simp [zipT2] at h
  | t :: ts, u :: us, z, h => by
    simp only [zipT2] at h
    rcases List.mem_cons.mp h with rfl | h
    · exact ⟨t, u, rfl, List.mem_cons_self, List.mem_cons_self⟩
    · obtain ⟨x, y, e, h1, h2⟩ := zip_mem h
      exact ⟨x, y, e, List.mem_cons_of_mem _ h1, List.mem_cons_of_mem _ h2⟩
theorem are_typed : ∀ {ts : List T} {ms : List Int}, ts.length = ms.length → (zipT2 ts (ms.map .int)).all okP = true → ∃ l : List Int, ts = l.map .int ∧ l.length = ms.length ∧ ∀ (j : Nat) (x m : Int), l[j]? = some x → ms[j]? = some m → 0 ≤ x ∧ x ≤ m
  | [], [], _, _ => ⟨[], rfl, rfl, fun j x m h => by simp at h⟩
  | t :: ts, m :: ms, hl, h => by
    simp only [List.map_cons, zipT2, List.all_cons, Bool.and_eq_true] at h
    obtain ⟨l, e, h2, h3⟩ := are_typed (ts := ts) (ms := ms) (by simpa using hl) h.2
    cases t with
    | int i =>
      have h1 := h.1
      simp only [okP, isW, Bool.and_eq_true, decide_eq_true_eq] at h1
      refine ⟨i :: l, by rw [e]; rfl, by simp [h2], fun j x m' hx hm => ?_⟩
      cases j with
      | zero => simp at hx hm; subst hx hm; exact h1
      | succ j => exact h3 j x m' (by simpa using hx) (by simpa using hm)
    | _ => simp [okP, isW] at h
  | [], _ :: _, hl, _ => by simp at hl
  | _ :: _, [], hl, _ => by simp at hl
theorem are_of : ∀ {l ms : List Int}, l.length = ms.length → (∀ (j : Nat) (x m : Int), l[j]? = some x → ms[j]? = some m → 0 ≤ x ∧ x ≤ m) → (zipT2 (l.map .int) (ms.map .int)).all okP = true
  | [], [], _, _ => rfl
  | x :: l, m :: ms, hl, h => by
    simp only [List.map_cons, zipT2, List.all_cons, Bool.and_eq_true]
    refine ⟨?_, are_of (by simpa using hl) fun j x m hx hm => h (j + 1) x m (by simpa using hx) (by simpa using hm)⟩
    have := h 0 x m rfl rfl
    simp [okP, isW, this]
  | [], _ :: _, hl, _ => by simp at hl
  | _ :: _, [], hl, _ => by simp at hl
theorem zip_ones : ∀ (ts : List T) (n : Nat), ts.length = n → (zipT2 ts ((List.replicate n (1 : Int)).map .int)).all okP = ts.all fun t => isW t 0 1
  | [], _, _ => by simp [zipT2]
  | t :: ts, 0, h => by simp at h
  | t :: ts, n + 1, h => by
    rw [List.replicate_succ, List.map_cons, zipT2, List.all_cons, List.all_cons, zip_ones ts n (by simpa using h)]
    rfl
theorem zip_len_le (ts us : List T) (h : ts.length ≤ 1000000) : (zipT2 ts us).length ≤ sizeLine := by
  rw [zipT2_len]
  exact small_len (m := 1000000) (by omega)
theorem lc_zip {a b : Nat} {e : ME D} {env : EnvD} {st : Sto} (ts us : List T) (h : ∀ x y, y ∈ us → EvO (gTu 2 (gCons (gNm a) (gCons (gNm b) gNil)) (.v (.tuple [x, y])) env st) fun e1 s1 => EvO (e e1 s1) fun d s3 => d = .v (.bool (okP (.tuple [x, y]))) ∧ s3 = st) :
    lcGo none (gTu 2 (gCons (gNm a) (gCons (gNm b) gNil))) mYes e env (zipT2 ts us) st = .ok ((zipT2 ts us).map fun z => .bool (okP z)) st :=
  lc_eq _ _ fun z hz => by
    obtain ⟨x, y, rfl, _, hy⟩ := zip_mem hz
    exact h x y hy
theorem e_lw_are {v : T} {ms : List Int} {st : Sto} (hm : ms.length ≤ 1000) : F_lw_are [.v v, .v (.tuple (ms.map .int))] st = .ok (.v (.bool (areT v ms))) st := by
  apply eqn_of
  unfold F_lw_are m_lw_are
  cases v with
  | tuple ts =>
    by_cases hl : ts.length = ms.length
    · have hq := lc_zip (a := 2) (b := 3) (e := mFn 3 F_lw_number (mCons (mVar 2) (mCons (mC (.v (.int 0))) (mCons (mVar 3) mNil))) []) (env := [some (.v (.tuple ts)), some (.v (.tuple (ms.map .int))), none, none]) (st := st) ts (ms.map .int) fun x y hy => by
        obtain ⟨m, _, rfl⟩ := List.mem_map.mp hy
        simp [w_ok, w_bad, w_bind, w_bindN, w_toS, w_itb, w_var, w_c, w_bin, w_un, w_cmpT, w_mB, w_chain, w_tru, w_andT, w_orT, w_notT, w_andV, w_orV, w_notV, w_if, w_nil, w_cons, w_tup, w_lst, w_lstM, w_call, w_fn, w_fnK, w_meth, w_noP, w_part, w_slice, w_rg1, w_lstRgM, w_lstRg, w_tupRg, w_gNm, w_gTu, w_gNil, w_gCons, w_gSb, w_skip, w_seq, w_asg, w_ret, w_drop, w_ifS, w_par2, w_par3, w_parN, w_runB, w_finV, w_finM, List.map, List.replicate, List.length, List.cons_append, List.nil_append, List.append_nil, List.getElem?_cons_zero, List.getElem?_cons_succ, List.set_cons_zero, List.set_cons_succ, setAll, pureTs, Option.map, e_lw_number, okP]
      have hz := zip_len_le ts (ms.map PyData.int) (by omega)
      simp [w_ok, w_bad, w_bind, w_bindN, w_toS, w_itb, w_var, w_c, w_bin, w_un, w_cmpT, w_mB, w_chain, w_tru, w_andT, w_orT, w_notT, w_andV, w_orV, w_notV, w_if, w_nil, w_cons, w_tup, w_lst, w_lstM, w_call, w_fn, w_fnK, w_meth, w_noP, w_part, w_slice, w_rg1, w_lstRgM, w_lstRg, w_tupRg, w_gNm, w_gTu, w_gNil, w_gCons, w_gSb, w_skip, w_seq, w_asg, w_ret, w_drop, w_ifS, w_par2, w_par3, w_parN, w_runB, w_finV, w_finM, List.map, List.replicate, List.length, List.cons_append, List.nil_append, List.append_nil, List.getElem?_cons_zero, List.getElem?_cons_succ, List.set_cons_zero, List.set_cons_succ, setAll, pureTs, Option.map, w_itZ2, w_lc, fIsi, tyD, tyT, subTy, truD, fLen, asSeq, oq_int, chk2, noRef, chkOf, wipeD, hq, hz, fAll, onBools, asL, asLt, boolsT_map, all_map, take_all, areT, hl, List.all_map]
    · have hb : ((ts.length : Int) == (ms.length : Int)) = false := by simpa using (show (ts.length : Int) ≠ ms.length by omega)
      simp [w_ok, w_bad, w_bind, w_bindN, w_toS, w_itb, w_var, w_c, w_bin, w_un, w_cmpT, w_mB, w_chain, w_tru, w_andT, w_orT, w_notT, w_andV, w_orV, w_notV, w_if, w_nil, w_cons, w_tup, w_lst, w_lstM, w_call, w_fn, w_fnK, w_meth, w_noP, w_part, w_slice, w_rg1, w_lstRgM, w_lstRg, w_tupRg, w_gNm, w_gTu, w_gNil, w_gCons, w_gSb, w_skip, w_seq, w_asg, w_ret, w_drop, w_ifS, w_par2, w_par3, w_parN, w_runB, w_finV, w_finM, List.map, List.replicate, List.length, List.cons_append, List.nil_append, List.append_nil, List.getElem?_cons_zero, List.getElem?_cons_succ, List.set_cons_zero, List.set_cons_succ, setAll, pureTs, Option.map, w_itZ2, w_lc, fIsi, tyD, tyT, subTy, truD, fLen, asSeq, oq_int, take_all, areT, hl, hb]
  | _ => simp [w_ok, w_bad, w_bind, w_bindN, w_toS, w_itb, w_var, w_c, w_bin, w_un, w_cmpT, w_mB, w_chain, w_tru, w_andT, w_orT, w_notT, w_andV, w_orV, w_notV, w_if, w_nil, w_cons, w_tup, w_lst, w_lstM, w_call, w_fn, w_fnK, w_meth, w_noP, w_part, w_slice, w_rg1, w_lstRgM, w_lstRg, w_tupRg, w_gNm, w_gTu, w_gNil, w_gCons, w_gSb, w_skip, w_seq, w_asg, w_ret, w_drop, w_ifS, w_par2, w_par3, w_parN, w_runB, w_finV, w_finM, List.map, List.replicate, List.length, List.cons_append, List.nil_append, List.append_nil, List.getElem?_cons_zero, List.getElem?_cons_succ, List.set_cons_zero, List.set_cons_succ, setAll, pureTs, Option.map, fIsi, tyD, tyT, subTy, truD, take_all, areT]
theorem bk_ms {b : Bk} : (b.ms.map PyData.int).length = b.ms.length := List.length_map ..
theorem iss_len {is : List (List Gr)} : (issT is).length = is.length := List.length_map ..
theorem e_are_facts {b : Bk} (hb : b.ok) {v : T} {st : Sto} : F_are_facts [.v b.t, .v v] st = .ok (.v (.bool (areT v b.ms))) st := by
  have hm := hb.msl
  apply eqn_of
  unfold F_are_facts m_are_facts
  cases v with
  | tuple ts =>
    by_cases hl : ts.length = b.ms.length
    · have hq := lc_zip (a := 2) (b := 3) (e := mFn 3 F_is_within (mCons (mVar 2) (mCons (mC (.v (.int 0))) (mCons (mVar 3) mNil))) []) (env := [some (.v b.t), some (.v (.tuple ts)), none, none]) (st := st) ts (b.ms.map .int) fun x y hy => by
        obtain ⟨m, _, rfl⟩ := List.mem_map.mp hy
        simp [w_ok, w_bad, w_bind, w_bindN, w_toS, w_itb, w_var, w_c, w_bin, w_un, w_cmpT, w_mB, w_chain, w_tru, w_andT, w_orT, w_notT, w_andV, w_orV, w_notV, w_if, w_nil, w_cons, w_tup, w_lst, w_lstM, w_call, w_fn, w_fnK, w_meth, w_noP, w_part, w_slice, w_rg1, w_lstRgM, w_lstRg, w_tupRg, w_gNm, w_gTu, w_gNil, w_gCons, w_gSb, w_skip, w_seq, w_asg, w_ret, w_drop, w_ifS, w_par2, w_par3, w_parN, w_runB, w_finV, w_finM, List.map, List.replicate, List.length, List.cons_append, List.nil_append, List.append_nil, List.getElem?_cons_zero, List.getElem?_cons_succ, List.set_cons_zero, List.set_cons_succ, setAll, pureTs, Option.map, e_is_within, okP]
      have hz := zip_len_le ts (b.ms.map PyData.int) (by omega)
      simp [w_ok, w_bad, w_bind, w_bindN, w_toS, w_itb, w_var, w_c, w_bin, w_un, w_cmpT, w_mB, w_chain, w_tru, w_andT, w_orT, w_notT, w_andV, w_orV, w_notV, w_if, w_nil, w_cons, w_tup, w_lst, w_lstM, w_call, w_fn, w_fnK, w_meth, w_noP, w_part, w_slice, w_rg1, w_lstRgM, w_lstRg, w_tupRg, w_gNm, w_gTu, w_gNil, w_gCons, w_gSb, w_skip, w_seq, w_asg, w_ret, w_drop, w_ifS, w_par2, w_par3, w_parN, w_runB, w_finV, w_finM, List.map, List.replicate, List.length, List.cons_append, List.nil_append, List.append_nil, List.getElem?_cons_zero, List.getElem?_cons_succ, List.set_cons_zero, List.set_cons_succ, setAll, pureTs, Option.map, w_itZ2, w_lc, ob1, e_is_tuple, truD, fLen, asSeq, oq_int, chk2, noRef, chkOf, wipeD, hq, hz, fAll, onBools, asL, asLt, boolsT_map, all_map, take_all, areT, hl, List.all_map]
    · have hb' : ((ts.length : Int) == (b.ms.length : Int)) = false := by simpa using (show (ts.length : Int) ≠ b.ms.length by omega)
      simp [w_ok, w_bad, w_bind, w_bindN, w_toS, w_itb, w_var, w_c, w_bin, w_un, w_cmpT, w_mB, w_chain, w_tru, w_andT, w_orT, w_notT, w_andV, w_orV, w_notV, w_if, w_nil, w_cons, w_tup, w_lst, w_lstM, w_call, w_fn, w_fnK, w_meth, w_noP, w_part, w_slice, w_rg1, w_lstRgM, w_lstRg, w_tupRg, w_gNm, w_gTu, w_gNil, w_gCons, w_gSb, w_skip, w_seq, w_asg, w_ret, w_drop, w_ifS, w_par2, w_par3, w_parN, w_runB, w_finV, w_finM, List.map, List.replicate, List.length, List.cons_append, List.nil_append, List.append_nil, List.getElem?_cons_zero, List.getElem?_cons_succ, List.set_cons_zero, List.set_cons_succ, setAll, pureTs, Option.map, ob1, e_is_tuple, truD, fLen, asSeq, take_all, areT, hl, hb']
  | _ => simp [w_ok, w_bad, w_bind, w_bindN, w_toS, w_itb, w_var, w_c, w_bin, w_un, w_cmpT, w_mB, w_chain, w_tru, w_andT, w_orT, w_notT, w_andV, w_orV, w_notV, w_if, w_nil, w_cons, w_tup, w_lst, w_lstM, w_call, w_fn, w_fnK, w_meth, w_noP, w_part, w_slice, w_rg1, w_lstRgM, w_lstRg, w_tupRg, w_gNm, w_gTu, w_gNil, w_gCons, w_gSb, w_skip, w_seq, w_asg, w_ret, w_drop, w_ifS, w_par2, w_par3, w_parN, w_runB, w_finV, w_finM, List.map, List.replicate, List.length, List.cons_append, List.nil_append, List.append_nil, List.getElem?_cons_zero, List.getElem?_cons_succ, List.set_cons_zero, List.set_cons_succ, setAll, pureTs, Option.map, ob1, e_is_tuple, truD, fLen, asSeq, take_all, areT]
theorem e_are_findings {b : Bk} (hb : b.ok) {v : T} {st : Sto} : F_are_findings [.v b.t, .v v] st = .ok (.v (.bool (areT v (List.replicate b.is.length 1)))) st := by
  have hm := hb.isl
  apply eqn_of
  unfold F_are_findings m_are_findings
  cases v with
  | tuple ts =>
    by_cases hl : ts.length = b.is.length
    · have hq : lcGo none (gNm 2) mYes (mFn 3 F_is_within (mCons (mVar 2) (mCons (mC (.v (.int 0))) (mCons (mC (.v (.int 1))) mNil))) []) [some (.v b.t), some (.v (.tuple ts)), none] ts st = .ok (ts.map fun t => .bool (isW t 0 1)) st :=
        lc_eq _ ts fun t ht => by simp [w_ok, w_bad, w_bind, w_bindN, w_toS, w_itb, w_var, w_c, w_bin, w_un, w_cmpT, w_mB, w_chain, w_tru, w_andT, w_orT, w_notT, w_andV, w_orV, w_notV, w_if, w_nil, w_cons, w_tup, w_lst, w_lstM, w_call, w_fn, w_fnK, w_meth, w_noP, w_part, w_slice, w_rg1, w_lstRgM, w_lstRg, w_tupRg, w_gNm, w_gTu, w_gNil, w_gCons, w_gSb, w_skip, w_seq, w_asg, w_ret, w_drop, w_ifS, w_par2, w_par3, w_parN, w_runB, w_finV, w_finM, List.map, List.replicate, List.length, List.cons_append, List.nil_append, List.append_nil, List.getElem?_cons_zero, List.getElem?_cons_succ, List.set_cons_zero, List.set_cons_succ, setAll, pureTs, Option.map, e_is_within]
      have hz := small_len (n := b.is.length) (m := 100) (by omega)
      have hr := zip_ones ts b.is.length hl
      rw [List.map_replicate] at hr
      simp [w_ok, w_bad, w_bind, w_bindN, w_toS, w_itb, w_var, w_c, w_bin, w_un, w_cmpT, w_mB, w_chain, w_tru, w_andT, w_orT, w_notT, w_andV, w_orV, w_notV, w_if, w_nil, w_cons, w_tup, w_lst, w_lstM, w_call, w_fn, w_fnK, w_meth, w_noP, w_part, w_slice, w_rg1, w_lstRgM, w_lstRg, w_tupRg, w_gNm, w_gTu, w_gNil, w_gCons, w_gSb, w_skip, w_seq, w_asg, w_ret, w_drop, w_ifS, w_par2, w_par3, w_parN, w_runB, w_finV, w_finM, List.map, List.replicate, List.length, List.cons_append, List.nil_append, List.append_nil, List.getElem?_cons_zero, List.getElem?_cons_succ, List.set_cons_zero, List.set_cons_succ, setAll, pureTs, Option.map, w_itS, w_lc, ob2, e_is_tuple, truD, fLen, asSeq, iss_len, chkOf, wipeD, hq, hz, fAll, onBools, asL, asLt, boolsT_map, all_map, take_all, areT, hl, hr, List.all_map]
    · have hb' : ((ts.length : Int) == (b.is.length : Int)) = false := by simpa using (show (ts.length : Int) ≠ b.is.length by omega)
      simp [w_ok, w_bad, w_bind, w_bindN, w_toS, w_itb, w_var, w_c, w_bin, w_un, w_cmpT, w_mB, w_chain, w_tru, w_andT, w_orT, w_notT, w_andV, w_orV, w_notV, w_if, w_nil, w_cons, w_tup, w_lst, w_lstM, w_call, w_fn, w_fnK, w_meth, w_noP, w_part, w_slice, w_rg1, w_lstRgM, w_lstRg, w_tupRg, w_gNm, w_gTu, w_gNil, w_gCons, w_gSb, w_skip, w_seq, w_asg, w_ret, w_drop, w_ifS, w_par2, w_par3, w_parN, w_runB, w_finV, w_finM, List.map, List.replicate, List.length, List.cons_append, List.nil_append, List.append_nil, List.getElem?_cons_zero, List.getElem?_cons_succ, List.set_cons_zero, List.set_cons_succ, setAll, pureTs, Option.map, ob2, e_is_tuple, truD, fLen, asSeq, iss_len, take_all, areT, hl, hb']
  | _ => simp [w_ok, w_bad, w_bind, w_bindN, w_toS, w_itb, w_var, w_c, w_bin, w_un, w_cmpT, w_mB, w_chain, w_tru, w_andT, w_orT, w_notT, w_andV, w_orV, w_notV, w_if, w_nil, w_cons, w_tup, w_lst, w_lstM, w_call, w_fn, w_fnK, w_meth, w_noP, w_part, w_slice, w_rg1, w_lstRgM, w_lstRg, w_tupRg, w_gNm, w_gTu, w_gNil, w_gCons, w_gSb, w_skip, w_seq, w_asg, w_ret, w_drop, w_ifS, w_par2, w_par3, w_parN, w_runB, w_finV, w_finM, List.map, List.replicate, List.length, List.cons_append, List.nil_append, List.append_nil, List.getElem?_cons_zero, List.getElem?_cons_succ, List.set_cons_zero, List.set_cons_succ, setAll, pureTs, Option.map, ob2, e_is_tuple, truD, fLen, asSeq, take_all, areT]
theorem e_is_point_of {b : Bk} (hb : b.ok) {i : Nat} {gs : List Gr} (hg : b.is[i]? = some gs) {v : T} {st : Sto} : F_is_point_of [.v b.t, .v (.int i), .v v] st = .ok (.v (.bool (areT v (gs.map (mostG b.ms))))) st := by
  obtain ⟨⟨_, hl8⟩, _⟩ := hb.at hg
  apply eqn_of
  unfold F_is_point_of m_is_point_of
  obtain ⟨M, hM⟩ : ∃ M, M = gs.map (mostG b.ms) := ⟨_, rfl⟩
  have em := e_mosts_in hb hg (st := st)
  rw [← hM] at em ⊢
  have hm : M.length = gs.length := by rw [hM]; simp
  cases v with
  | tuple ts =>
    by_cases hl : ts.length = M.length
    · have hq := lc_zip (a := 4) (b := 5) (e := mFn 3 F_is_within (mCons (mVar 4) (mCons (mC (.v (.int 0))) (mCons (mVar 5) mNil))) []) (env := [some (.v b.t), some (.v (.int i)), some (.v (.tuple ts)), some (.v (.list (M.map .int))), none, none]) (st := st) ts (M.map .int) fun x y hy => by
        obtain ⟨m, _, rfl⟩ := List.mem_map.mp hy
        simp [w_ok, w_bad, w_bind, w_bindN, w_toS, w_itb, w_var, w_c, w_bin, w_un, w_cmpT, w_mB, w_chain, w_tru, w_andT, w_orT, w_notT, w_andV, w_orV, w_notV, w_if, w_nil, w_cons, w_tup, w_lst, w_lstM, w_call, w_fn, w_fnK, w_meth, w_noP, w_part, w_slice, w_rg1, w_lstRgM, w_lstRg, w_tupRg, w_gNm, w_gTu, w_gNil, w_gCons, w_gSb, w_skip, w_seq, w_asg, w_ret, w_drop, w_ifS, w_par2, w_par3, w_parN, w_runB, w_finV, w_finM, List.map, List.replicate, List.length, List.cons_append, List.nil_append, List.append_nil, List.getElem?_cons_zero, List.getElem?_cons_succ, List.set_cons_zero, List.set_cons_succ, setAll, pureTs, Option.map, e_is_within, okP]
      have hz := zip_len_le ts (M.map PyData.int) (by omega)
      simp [w_ok, w_bad, w_bind, w_bindN, w_toS, w_itb, w_var, w_c, w_bin, w_un, w_cmpT, w_mB, w_chain, w_tru, w_andT, w_orT, w_notT, w_andV, w_orV, w_notV, w_if, w_nil, w_cons, w_tup, w_lst, w_lstM, w_call, w_fn, w_fnK, w_meth, w_noP, w_part, w_slice, w_rg1, w_lstRgM, w_lstRg, w_tupRg, w_gNm, w_gTu, w_gNil, w_gCons, w_gSb, w_skip, w_seq, w_asg, w_ret, w_drop, w_ifS, w_par2, w_par3, w_parN, w_runB, w_finV, w_finM, List.map, List.replicate, List.length, List.cons_append, List.nil_append, List.append_nil, List.getElem?_cons_zero, List.getElem?_cons_succ, List.set_cons_zero, List.set_cons_succ, setAll, pureTs, Option.map, w_itZ2, w_lc, em, e_is_tuple, truD, fLen, asSeq, chk2, noRef, chkOf, wipeD, hq, hz, fAll, onBools, asL, asLt, boolsT_map, all_map, take_all, areT, hl, List.all_map]
    · have hb' : ((ts.length : Int) == (M.length : Int)) = false := by simpa using (show (ts.length : Int) ≠ M.length by omega)
      simp [w_ok, w_bad, w_bind, w_bindN, w_toS, w_itb, w_var, w_c, w_bin, w_un, w_cmpT, w_mB, w_chain, w_tru, w_andT, w_orT, w_notT, w_andV, w_orV, w_notV, w_if, w_nil, w_cons, w_tup, w_lst, w_lstM, w_call, w_fn, w_fnK, w_meth, w_noP, w_part, w_slice, w_rg1, w_lstRgM, w_lstRg, w_tupRg, w_gNm, w_gTu, w_gNil, w_gCons, w_gSb, w_skip, w_seq, w_asg, w_ret, w_drop, w_ifS, w_par2, w_par3, w_parN, w_runB, w_finV, w_finM, List.map, List.replicate, List.length, List.cons_append, List.nil_append, List.append_nil, List.getElem?_cons_zero, List.getElem?_cons_succ, List.set_cons_zero, List.set_cons_succ, setAll, pureTs, Option.map, em, e_is_tuple, truD, fLen, asSeq, asL, asLt, take_all, areT, hl, hb']
  | _ => simp [w_ok, w_bad, w_bind, w_bindN, w_toS, w_itb, w_var, w_c, w_bin, w_un, w_cmpT, w_mB, w_chain, w_tru, w_andT, w_orT, w_notT, w_andV, w_orV, w_notV, w_if, w_nil, w_cons, w_tup, w_lst, w_lstM, w_call, w_fn, w_fnK, w_meth, w_noP, w_part, w_slice, w_rg1, w_lstRgM, w_lstRg, w_tupRg, w_gNm, w_gTu, w_gNil, w_gCons, w_gSb, w_skip, w_seq, w_asg, w_ret, w_drop, w_ifS, w_par2, w_par3, w_parN, w_runB, w_finV, w_finM, List.map, List.replicate, List.length, List.cons_append, List.nil_append, List.append_nil, List.getElem?_cons_zero, List.getElem?_cons_succ, List.set_cons_zero, List.set_cons_succ, setAll, pureTs, Option.map, em, e_is_tuple, truD, fLen, asSeq, asL, asLt, take_all, areT]
end Law

namespace Law
open PySem PL
open L2 (atI ixN CDiv CMul CPow RgOk)
/-! ### reasons -/
def brn (fi side own s : Int) : Bool := if side = fi then (if fi = 1 then decide (s ≤ own) else decide (s ≥ own)) else decide (s = own)
def brnAll (fi : Int) : List Gr → List Int → List Int → Bool
  | g :: gs, o :: os, r :: rs => brn fi g.side o r && brnAll fi gs os rs
  | _, _, _ => true
theorem brn_iff {fi : Int} : ∀ {gs : List Gr} {os rs : List Int}, brnAll fi gs os rs = true ↔ ∀ (j : Nat) g o r, gs[j]? = some g → os[j]? = some o → rs[j]? = some r → brn fi g.side o r = true
  | [], os, rs => by simp [brnAll]
  | g :: gs, [], rs => by simp [brnAll]
  | g :: gs, o :: os, [] => by simp [brnAll]
  | g :: gs, o :: os, r :: rs => by
    simp only [brnAll, Bool.and_eq_true, brn_iff (gs := gs)]
    constructor
    · rintro ⟨h1, h2⟩ j g' o' r' e1 e2 e3
      cases j with
      | zero => simp at e1 e2 e3; subst e1 e2 e3; exact h1
      | succ j => exact h2 j g' o' r' (by simpa using e1) (by simpa using e2) (by simpa using e3)
    · intro h
      exact ⟨h 0 g o r rfl rfl rfl, fun j g' o' r' e1 e2 e3 => h (j + 1) g' o' r' (by simpa using e1) (by simpa using e2) (by simpa using e3)⟩
def toI (t : T) : Int := match t with
  | .int i => i
  | _ => 0
def intsOf (v : T) : List Int := match v with
  | .tuple ts => ts.map toI
  | _ => []
theorem intsOf_map (l : List Int) : intsOf (.tuple (l.map .int)) = l := by
  simp [intsOf, Function.comp_def, toI]
def rOk (b : Bk) (gs : List Gr) (fs zs : List Int) (fi : Int) (v : T) : Bool := areT v (gs.map (mostG b.ms)) && brnAll fi gs (gs.map (amtG b.ms fs zs)) (intsOf v)
theorem e_is_borne {fi side own s : Int} {st : Sto} : F_is_borne [.v (.int fi), .v (.int side), .v (.int own), .v (.int s)] st = .ok (.v (.bool (brn fi side own s))) st := by
  apply eqn_of
  unfold F_is_borne m_is_borne
  by_cases h : side = fi
  · by_cases h1 : fi = 1
    · simp [w_ok, w_bad, w_bind, w_bindN, w_toS, w_itb, w_var, w_c, w_bin, w_un, w_cmpT, w_mB, w_chain, w_tru, w_andT, w_orT, w_notT, w_andV, w_orV, w_notV, w_if, w_nil, w_cons, w_tup, w_lst, w_lstM, w_call, w_fn, w_fnK, w_meth, w_noP, w_part, w_slice, w_rg1, w_lstRgM, w_lstRg, w_tupRg, w_gNm, w_gTu, w_gNil, w_gCons, w_gSb, w_skip, w_seq, w_asg, w_ret, w_drop, w_ifS, w_par2, w_par3, w_parN, w_runB, w_finV, w_finM, List.map, List.replicate, List.length, List.cons_append, List.nil_append, List.append_nil, List.getElem?_cons_zero, List.getElem?_cons_succ, List.set_cons_zero, List.set_cons_succ, setAll, pureTs, Option.map, oq_int, opI0, h, h1, brn, take_all]
    · have : (fi == 1) = false := by simpa using h1
      simp [w_ok, w_bad, w_bind, w_bindN, w_toS, w_itb, w_var, w_c, w_bin, w_un, w_cmpT, w_mB, w_chain, w_tru, w_andT, w_orT, w_notT, w_andV, w_orV, w_notV, w_if, w_nil, w_cons, w_tup, w_lst, w_lstM, w_call, w_fn, w_fnK, w_meth, w_noP, w_part, w_slice, w_rg1, w_lstRgM, w_lstRg, w_tupRg, w_gNm, w_gTu, w_gNil, w_gCons, w_gSb, w_skip, w_seq, w_asg, w_ret, w_drop, w_ifS, w_par2, w_par3, w_parN, w_runB, w_finV, w_finM, List.map, List.replicate, List.length, List.cons_append, List.nil_append, List.append_nil, List.getElem?_cons_zero, List.getElem?_cons_succ, List.set_cons_zero, List.set_cons_succ, setAll, pureTs, Option.map, oq_int, opI0, h, h1, this, brn, take_all]
  · have : (side == fi) = false := by simpa using h
    simp [w_ok, w_bad, w_bind, w_bindN, w_toS, w_itb, w_var, w_c, w_bin, w_un, w_cmpT, w_mB, w_chain, w_tru, w_andT, w_orT, w_notT, w_andV, w_orV, w_notV, w_if, w_nil, w_cons, w_tup, w_lst, w_lstM, w_call, w_fn, w_fnK, w_meth, w_noP, w_part, w_slice, w_rg1, w_lstRgM, w_lstRg, w_tupRg, w_gNm, w_gTu, w_gNil, w_gCons, w_gSb, w_skip, w_seq, w_asg, w_ret, w_drop, w_ifS, w_par2, w_par3, w_parN, w_runB, w_finV, w_finM, List.map, List.replicate, List.length, List.cons_append, List.nil_append, List.append_nil, List.getElem?_cons_zero, List.getElem?_cons_succ, List.set_cons_zero, List.set_cons_succ, setAll, pureTs, Option.map, oq_int, opI0, h, this, brn, take_all]
    rfl
theorem en_get {ts : List T} {i : Nat} {t : T} (h : (enT 0 ts)[i]? = some t) : ∃ u, ts[i]? = some u ∧ t = .tuple [.int i, u] := by
  unfold enT at h
  rw [List.getElem?_mapIdx] at h
  obtain ⟨u, hu, rfl⟩ := Option.map_eq_some_iff.mp h
  exact ⟨u, hu, by simp⟩
theorem get_d {l : List Int} {i : Nat} (h : i < l.length) : l[i]? = some (l.getD i 0) := by simp [h]
section
variable {b : Bk} {i : Nat} {gs : List Gr} {fs zs : List Int} {v : T} {st : Sto}
theorem e_flaw_of_reason (hb : b.ok) (hg : b.is[i]? = some gs) (hf : fs.length = b.ms.length) (hz : zs.length = b.is.length) :
    EvO (F_flaw_of_reason [.v b.t, .v (.tuple (fs.map .int)), .v (.tuple (zs.map .int)), .v (.int i), .v v] st) fun d s => s = st ∧ isNoneD d = rOk b gs fs zs (zs.getD i 0) v := by
  obtain ⟨⟨_, hl8⟩, hgr⟩ := hb.at hg
  have hi : i < zs.length := by rw [hz]; exact (List.getElem?_eq_some_iff.mp hg).1
  unfold F_flaw_of_reason m_flaw_of_reason
  rw [w_runB]
  simp only [List.map, List.replicate, List.length, List.cons_append, List.nil_append]
  cases ha : areT v (gs.map (mostG b.ms)) with
  | false =>
    refine guardT (by simp [w_ok, w_bad, w_bind, w_bindN, w_toS, w_itb, w_var, w_c, w_bin, w_un, w_cmpT, w_mB, w_chain, w_tru, w_andT, w_orT, w_notT, w_andV, w_orV, w_notV, w_if, w_nil, w_cons, w_tup, w_lst, w_lstM, w_call, w_fn, w_fnK, w_meth, w_noP, w_part, w_slice, w_rg1, w_lstRgM, w_lstRg, w_tupRg, w_gNm, w_gTu, w_gNil, w_gCons, w_gSb, w_skip, w_seq, w_asg, w_ret, w_drop, w_ifS, w_par2, w_par3, w_parN, w_runB, w_finV, w_finM, List.map, List.replicate, List.length, List.cons_append, List.nil_append, List.append_nil, List.getElem?_cons_zero, List.getElem?_cons_succ, List.set_cons_zero, List.set_cons_succ, setAll, pureTs, Option.map, e_is_point_of hb hg, truD, ha]) ?_
    simp [w_ok, w_bad, w_bind, w_bindN, w_toS, w_itb, w_var, w_c, w_bin, w_un, w_cmpT, w_mB, w_chain, w_tru, w_andT, w_orT, w_notT, w_andV, w_orV, w_notV, w_if, w_nil, w_cons, w_tup, w_lst, w_lstM, w_call, w_fn, w_fnK, w_meth, w_noP, w_part, w_slice, w_rg1, w_lstRgM, w_lstRg, w_tupRg, w_gNm, w_gTu, w_gNil, w_gCons, w_gSb, w_skip, w_seq, w_asg, w_ret, w_drop, w_ifS, w_par2, w_par3, w_parN, w_runB, w_finV, w_finM, List.map, List.replicate, List.length, List.cons_append, List.nil_append, List.append_nil, List.getElem?_cons_zero, List.getElem?_cons_succ, List.set_cons_zero, List.set_cons_succ, setAll, pureTs, Option.map, take_all, rOk, ha, isNoneD]
    decide
  | true =>
    refine guardF (by simp [w_ok, w_bad, w_bind, w_bindN, w_toS, w_itb, w_var, w_c, w_bin, w_un, w_cmpT, w_mB, w_chain, w_tru, w_andT, w_orT, w_notT, w_andV, w_orV, w_notV, w_if, w_nil, w_cons, w_tup, w_lst, w_lstM, w_call, w_fn, w_fnK, w_meth, w_noP, w_part, w_slice, w_rg1, w_lstRgM, w_lstRg, w_tupRg, w_gNm, w_gTu, w_gNil, w_gCons, w_gSb, w_skip, w_seq, w_asg, w_ret, w_drop, w_ifS, w_par2, w_par3, w_parN, w_runB, w_finV, w_finM, List.map, List.replicate, List.length, List.cons_append, List.nil_append, List.append_nil, List.getElem?_cons_zero, List.getElem?_cons_succ, List.set_cons_zero, List.set_cons_succ, setAll, pureTs, Option.map, e_is_point_of hb hg, truD, ha]) ?_
    cases v with
    | tuple ts =>
      simp only [areT, Bool.and_eq_true, decide_eq_true_eq] at ha
      obtain ⟨rs, rfl, hrl, _⟩ := are_typed ha.1 ha.2
      have hrl' : rs.length = gs.length := by rw [hrl]; simp
      obtain ⟨P, hP⟩ : ∃ P, P = gs.map (amtG b.ms fs zs) := ⟨_, rfl⟩
      have hPl : P.length = gs.length := by rw [hP]; simp
      have hro : rOk b gs fs zs (zs.getD i 0) (.tuple (rs.map .int)) = brnAll (zs.getD i 0) gs P rs := by
        have : areT (.tuple (rs.map .int)) (gs.map (mostG b.ms)) = true := by
          simp only [areT, Bool.and_eq_true, decide_eq_true_eq]; exact ha
        rw [rOk, this, intsOf_map, hP]; rfl
      rw [hro]
      have ep := e_point_in hb hg hf hz (st := st)
      rw [← hP] at ep
      simp only [w_seq, w_asg, w_fn, w_cons, w_nil, w_var, List.getElem?_cons_zero, List.getElem?_cons_succ, List.append_nil, ep, w_ok, w_gNm, List.length, List.set_cons_succ, List.set_cons_zero, w_for, w_itE, w_bin, w_c, ob2, ox (at_iss hg), asSeq, chkOf]
      refine ⟨trivial, ?_⟩
      refine for_inv (fun j env s => (∃ x6 x7 x8 x9, env = [some (.v b.t), some (.v (.tuple (fs.map .int))), some (.v (.tuple (zs.map .int))), some (.v (.int i)), some (.v (.tuple (rs.map .int))), some (.v (.tuple (P.map .int))), x6, x7, x8, x9]) ∧ s = st ∧ ∀ m, m < j → ∀ g o r, gs[m]? = some g → P[m]? = some o → rs[m]? = some r → brn (zs.getD i 0) g.side o r = true) _ 0 _ _ ⟨⟨_, _, _, _, rfl⟩, rfl, fun m hm => absurd hm (by omega)⟩ (fun j t env s ht hI => ?_) fun env s hI => ?_
      · obtain ⟨⟨x6, x7, x8, x9, rfl⟩, rfl, hp⟩ := hI
        rw [Nat.zero_add] at hp ⊢
        obtain ⟨u, hu, rfl⟩ := en_get ht
        rw [List.getElem?_map] at hu
        obtain ⟨g, hgj, rfl⟩ := Option.map_eq_some_iff.mp hu
        have hj := (List.getElem?_eq_some_iff.mp hgj).1
        simp only [Gr.t, w_gTu, w_gCons, w_gNil, w_gNm, w_ok, List.length, List.set_cons_succ, List.set_cons_zero]
        refine ⟨trivial, trivial, ?_⟩
        have a1 := at_map (l := zs) hi
        have a2 := at_map (l := P) (i := j) (by omega)
        have a3 := at_map (l := rs) (i := j) (by omega)
        simp only [w_ok, w_bad, w_bind, w_bindN, w_toS, w_itb, w_var, w_c, w_bin, w_un, w_cmpT, w_mB, w_chain, w_tru, w_andT, w_orT, w_notT, w_andV, w_orV, w_notV, w_if, w_nil, w_cons, w_tup, w_lst, w_lstM, w_call, w_fn, w_fnK, w_meth, w_noP, w_part, w_slice, w_rg1, w_lstRgM, w_lstRg, w_tupRg, w_gNm, w_gTu, w_gNil, w_gCons, w_gSb, w_skip, w_seq, w_asg, w_ret, w_drop, w_ifS, w_par2, w_par3, w_parN, w_runB, w_finV, w_finM, List.map, List.replicate, List.length, List.cons_append, List.nil_append, List.append_nil, List.getElem?_cons_zero, List.getElem?_cons_succ, List.set_cons_zero, List.set_cons_succ, setAll, pureTs, Option.map, ox a1, ox a2, ox a3, e_is_borne, truD]
        refine ⟨trivial, ?_⟩
        have g2 := get_d (l := P) (i := j) (by omega)
        have g3 := get_d (l := rs) (i := j) (by omega)
        cases hbr : brn (zs.getD i 0) g.side (P.getD j 0) (rs.getD j 0) with
        | false =>
          simp only [Bool.not_false, ↓reduceIte, SS, take_all]
          refine ⟨by decide, trivial, ?_⟩
          have : ¬ brnAll (zs.getD i 0) gs P rs = true := fun h => by
            have := brn_iff.mp h j g _ _ hgj g2 g3
            rw [hbr] at this; cases this
          rw [Bool.not_eq_true] at this
          rw [this]; rfl
        | true =>
          simp only [Bool.not_true, Bool.false_eq_true, ↓reduceIte, SS]
          refine ⟨⟨_, _, _, _, rfl⟩, trivial, fun m hm g' o r e1 e2 e3 => ?_⟩
          by_cases hmj : m < j
          · exact hp m hmj g' o r e1 e2 e3
          · have : m = j := by omega
            subst this
            rw [hgj] at e1; rw [g2] at e2; rw [g3] at e3
            cases e1; cases e2; cases e3
            exact hbr
      · obtain ⟨⟨x6, x7, x8, x9, rfl⟩, rfl, hp⟩ := hI
        rw [enT_len, List.length_map, Nat.zero_add] at hp
        simp only [w_ret, w_c, w_finV, take_all]
        refine ⟨trivial, ?_⟩
        have : brnAll (zs.getD i 0) gs P rs = true := brn_iff.mpr fun j g o r e1 e2 e3 => hp j (List.getElem?_eq_some_iff.mp e1).1 g o r e1 e2 e3
        rw [this]; rfl
    | _ => simp [areT] at ha
end
end Law

namespace Law
open PySem PL
open L2 (atI ixN CDiv CMul CPow RgOk)
section
variable {b : Bk} {i : Nat} {gs : List Gr} {fs zs : List Int} {v : T} {st : Sto}
theorem brn_law {fi side own s : Int} (h : fi = 0 ∨ fi = 1) : brn fi side own s = !((!(side == fi) && !(s == own)) || (fi == 1 && decide (s > own)) || (fi == 0 && decide (s < own))) := by
  unfold brn
  rcases h with rfl | rfl
  · by_cases h1 : side = 0
    · simp [h1]
      by_cases h2 : s < own <;> simp [h2] <;> omega
    · have : (side == 0) = false := by simpa using h1
      simp [h1, this]
      by_cases h2 : s = own
      · subst h2; simp
      · simp [h2]
  · by_cases h1 : side = 1
    · simp [h1]
      by_cases h2 : own < s <;> simp [h2] <;> omega
    · have : (side == 1) = false := by simpa using h1
      simp [h1, this]
      by_cases h2 : s = own
      · subst h2; simp
      · simp [h2]
theorem e_lw_is_reason (hb : b.ok) (hg : b.is[i]? = some gs) (hf : fs.length = b.ms.length) (hz : zs.length = b.is.length) (hz2 : ∀ x ∈ zs, x = 0 ∨ x = 1) :
    F_lw_is_reason [.v b.t, .v (.tuple (fs.map .int)), .v (.tuple (zs.map .int)), .v (.int i), .v v] st = .ok (.v (.bool (rOk b gs fs zs (zs.getD i 0) v))) st := by
  obtain ⟨⟨_, hl8⟩, hgr⟩ := hb.at hg
  have hi : i < zs.length := by rw [hz]; exact (List.getElem?_eq_some_iff.mp hg).1
  have hfi : zs.getD i 0 = 0 ∨ zs.getD i 0 = 1 := hz2 _ (by simp [hi])
  apply eqn_of
  unfold F_lw_is_reason m_lw_is_reason
  rw [w_runB]
  simp only [List.map, List.replicate, List.length, List.cons_append, List.nil_append]
  have hml : (gs.map (mostG b.ms)).length ≤ 1000 := by simp; omega
  cases ha : areT v (gs.map (mostG b.ms)) with
  | false =>
    refine guardT (by simp only [w_ok, w_bad, w_bind, w_bindN, w_toS, w_itb, w_var, w_c, w_bin, w_un, w_cmpT, w_mB, w_chain, w_tru, w_andT, w_orT, w_notT, w_andV, w_orV, w_notV, w_if, w_nil, w_cons, w_tup, w_lst, w_lstM, w_call, w_fn, w_fnK, w_meth, w_noP, w_part, w_slice, w_rg1, w_lstRgM, w_lstRg, w_tupRg, w_gNm, w_gTu, w_gNil, w_gCons, w_gSb, w_skip, w_seq, w_asg, w_ret, w_drop, w_ifS, w_par2, w_par3, w_parN, w_runB, w_finV, w_finM, List.map, List.replicate, List.length, List.cons_append, List.nil_append, List.append_nil, List.getElem?_cons_zero, List.getElem?_cons_succ, List.set_cons_zero, List.set_cons_succ, setAll, pureTs, Option.map, e_lw_mosts hb hg, e_lw_are hml, truD, ha]; simp) ?_
    simp [w_ok, w_bad, w_bind, w_bindN, w_toS, w_itb, w_var, w_c, w_bin, w_un, w_cmpT, w_mB, w_chain, w_tru, w_andT, w_orT, w_notT, w_andV, w_orV, w_notV, w_if, w_nil, w_cons, w_tup, w_lst, w_lstM, w_call, w_fn, w_fnK, w_meth, w_noP, w_part, w_slice, w_rg1, w_lstRgM, w_lstRg, w_tupRg, w_gNm, w_gTu, w_gNil, w_gCons, w_gSb, w_skip, w_seq, w_asg, w_ret, w_drop, w_ifS, w_par2, w_par3, w_parN, w_runB, w_finV, w_finM, List.map, List.replicate, List.length, List.cons_append, List.nil_append, List.append_nil, List.getElem?_cons_zero, List.getElem?_cons_succ, List.set_cons_zero, List.set_cons_succ, setAll, pureTs, Option.map, take_all, rOk, ha]
  | true =>
    refine guardF (by simp only [w_ok, w_bad, w_bind, w_bindN, w_toS, w_itb, w_var, w_c, w_bin, w_un, w_cmpT, w_mB, w_chain, w_tru, w_andT, w_orT, w_notT, w_andV, w_orV, w_notV, w_if, w_nil, w_cons, w_tup, w_lst, w_lstM, w_call, w_fn, w_fnK, w_meth, w_noP, w_part, w_slice, w_rg1, w_lstRgM, w_lstRg, w_tupRg, w_gNm, w_gTu, w_gNil, w_gCons, w_gSb, w_skip, w_seq, w_asg, w_ret, w_drop, w_ifS, w_par2, w_par3, w_parN, w_runB, w_finV, w_finM, List.map, List.replicate, List.length, List.cons_append, List.nil_append, List.append_nil, List.getElem?_cons_zero, List.getElem?_cons_succ, List.set_cons_zero, List.set_cons_succ, setAll, pureTs, Option.map, e_lw_mosts hb hg, e_lw_are hml, truD, ha]; simp) ?_
    cases v with
    | tuple ts =>
      simp only [areT, Bool.and_eq_true, decide_eq_true_eq] at ha
      obtain ⟨rs, rfl, hrl, _⟩ := are_typed ha.1 ha.2
      have hrl' : rs.length = gs.length := by rw [hrl]; simp
      obtain ⟨P, hP⟩ : ∃ P, P = gs.map (amtG b.ms fs zs) := ⟨_, rfl⟩
      have hPl : P.length = gs.length := by rw [hP]; simp
      have hro : rOk b gs fs zs (zs.getD i 0) (.tuple (rs.map .int)) = brnAll (zs.getD i 0) gs P rs := by
        have : areT (.tuple (rs.map .int)) (gs.map (mostG b.ms)) = true := by
          simp only [areT, Bool.and_eq_true, decide_eq_true_eq]; exact ha
        rw [rOk, this, intsOf_map, hP]; rfl
      rw [hro]
      have ep := e_lw_point hb hg hf hz (st := st)
      rw [← hP] at ep
      have a1 := at_map (l := zs) hi
      obtain ⟨fi, hfe⟩ : ∃ fi, fi = zs.getD i 0 := ⟨_, rfl⟩
      rw [← hfe] at a1 hfi ⊢
      simp only [w_seq, w_par2, w_fn, w_cons, w_nil, w_var, List.getElem?_cons_zero, List.getElem?_cons_succ, List.append_nil, ep, w_ok, w_gNm, List.length, List.set_cons_succ, List.set_cons_zero, w_for, w_itZ3, w_bin, w_c, ox a1, ob2, ox (at_iss hg), asSeq, noRef, and_self, true_and]
      refine for_inv (fun j env s => (∃ x7 x8 x9 x10 x11, env = [some (.v b.t), some (.v (.tuple (fs.map .int))), some (.v (.tuple (zs.map .int))), some (.v (.int i)), some (.v (.tuple (rs.map .int))), some (.v (.tuple (P.map .int))), some (.v (.int fi)), x7, x8, x9, x10, x11]) ∧ s = st ∧ ∀ m, m < j → ∀ g o r, gs[m]? = some g → P[m]? = some o → rs[m]? = some r → brn fi g.side o r = true) _ 0 _ _ ⟨⟨_, _, _, _, _, rfl⟩, rfl, fun m hm => absurd hm (by omega)⟩ (fun j t env s ht hI => ?_) fun env s hI => ?_
      · obtain ⟨⟨x7, x8, x9, x10, x11, rfl⟩, rfl, hp⟩ := hI
        rw [Nat.zero_add] at hp ⊢
        obtain ⟨u1, u2, u3, e1, e2, e3, rfl⟩ := zipT3_get _ _ _ _ _ ht
        rw [List.getElem?_map] at e1 e2 e3
        obtain ⟨o, ho, rfl⟩ := Option.map_eq_some_iff.mp e1
        obtain ⟨r, hr, rfl⟩ := Option.map_eq_some_iff.mp e2
        obtain ⟨g, hgj, rfl⟩ := Option.map_eq_some_iff.mp e3
        simp only [Gr.t, w_gTu, w_gCons, w_gNil, w_gNm, w_ok, List.length, List.set_cons_succ, List.set_cons_zero]
        refine ⟨trivial, trivial, ?_⟩
        have hbl := brn_law (side := g.side) (own := o) (s := r) hfi
        have fin1 : brn fi g.side o r = true → ∀ m, m < j + 1 → ∀ g' o' r', gs[m]? = some g' → P[m]? = some o' → rs[m]? = some r' → brn fi g'.side o' r' = true := fun hbr m hm g' o' r' q1 q2 q3 => by
          by_cases hmj : m < j
          · exact hp m hmj g' o' r' q1 q2 q3
          · have : m = j := by omega
            subst this
            rw [hgj] at q1; rw [ho] at q2; rw [hr] at q3
            cases q1; cases q2; cases q3
            exact hbr
        have fin2 : brn fi g.side o r = false → brnAll fi gs P rs = false := fun h => by
          have : ¬ brnAll fi gs P rs = true := fun h' => by
            have := brn_iff.mp h' j g _ _ hgj ho hr
            rw [h] at this; cases this
          rwa [Bool.not_eq_true] at this
        clear hp
        simp only [w_ok, w_bad, w_bind, w_bindN, w_toS, w_itb, w_var, w_c, w_bin, w_un, w_cmpT, w_mB, w_chain, w_tru, w_andT, w_orT, w_notT, w_andV, w_orV, w_notV, w_if, w_nil, w_cons, w_tup, w_lst, w_lstM, w_call, w_fn, w_fnK, w_meth, w_noP, w_part, w_slice, w_rg1, w_lstRgM, w_lstRg, w_tupRg, w_gNm, w_gTu, w_gNil, w_gCons, w_gSb, w_skip, w_seq, w_asg, w_ret, w_drop, w_ifS, w_par2, w_par3, w_parN, w_runB, w_finV, w_finM, List.map, List.replicate, List.length, List.cons_append, List.nil_append, List.append_nil, List.getElem?_cons_zero, List.getElem?_cons_succ, List.set_cons_zero, List.set_cons_succ, setAll, pureTs, Option.map, oq_int, opI0, ↓reduceIte, take_all]
        cases hs : (g.side == fi) <;> cases hso : (r == o) <;> cases h1 : (fi == 1) <;> cases h2 : decide (o < r) <;> cases h3 : (fi == 0) <;> cases h4 : decide (r < o) <;>
          simp only [hs, hso, h1, h3, gt_iff_lt, h2, h4, Bool.not_true, Bool.not_false, Bool.and_true, Bool.and_false, Bool.true_and, Bool.false_and, Bool.or_true, Bool.or_false, Bool.true_or, Bool.false_or] at hbl <;>
          simp only [hs, hso, h1, h3, h2, h4, Bool.not_true, Bool.not_false, Bool.false_eq_true, ↓reduceIte, SS, take_all] <;>
          first
          | exact ⟨by rw [fin2 hbl], trivial⟩
          | exact ⟨⟨_, _, _, _, _, rfl⟩, trivial, fin1 hbl⟩
      · obtain ⟨⟨x7, x8, x9, x10, x11, rfl⟩, rfl, hp⟩ := hI
        rw [zipT3_len, List.length_map, List.length_map, List.length_map, Nat.zero_add] at hp
        simp only [w_ret, w_c, w_finV, take_all]
        refine ⟨?_, trivial⟩
        have : brnAll fi gs P rs = true := brn_iff.mpr fun j g o r e1 e2 e3 => hp j (by have := (List.getElem?_eq_some_iff.mp e1).1; omega) g o r e1 e2 e3
        rw [this]
    | _ => simp [areT] at ha
end
end Law

namespace Law
open PySem PL
open L2 (atI ixN CDiv CMul CPow RgOk)
/-! ### rising lots -/
def rise : List Int → Bool
  | x :: y :: l => decide (x < y) && rise (y :: l)
  | _ => true
def ltP (z : T) : Bool := match z with
  | .tuple [.int x, .int y] => decide (x < y)
  | _ => false
theorem rise_zip : ∀ l : List Int, (zipT2 (l.map .int) ((l.drop 1).map .int)).all ltP = rise l
  | [] => rfl
  | [x] => rfl
  | x :: y :: l => by
    have := rise_zip (y :: l)
    simp only [List.drop_succ_cons, List.drop_zero, List.map_cons, zipT2, List.all_cons, rise] at this ⊢
    rw [this]; rfl
theorem rise_pw : ∀ {l : List Int}, rise l = true ↔ l.Pairwise (· < ·)
  | [] => by simp [rise]
  | [x] => by simp [rise]
  | x :: y :: l => by
    simp only [rise, Bool.and_eq_true, decide_eq_true_eq, rise_pw (l := y :: l), List.pairwise_cons (a := x)]
    constructor
    · rintro ⟨h1, h2⟩
      refine ⟨fun z hz => ?_, h2⟩
      rcases List.mem_cons.mp hz with rfl | hz
      · exact h1
      · exact Int.lt_trans h1 ((List.pairwise_cons.mp h2).1 z hz)
    · rintro ⟨h1, h2⟩
      exact ⟨h1 y List.mem_cons_self, h2⟩
theorem rise_sort (l : List Int) : decide (l = sortD l) = rise l := by
  by_cases h : rise l = true
  · rw [h]
    have h1 := rise_pw.mp h
    exact decide_eq_true (pw_uniq _ _ h1 (sortD_pw l) fun k => (mem_sortD l).symm)
  · have h2 : rise l = false := by simpa using h
    rw [h2]
    refine decide_eq_false fun e => h (rise_pw.mpr ?_)
    rw [e]; exact sortD_pw l
def strk (v : T) : Bool := match v with
  | .tuple ts => (ts.all fun t => isW t 0 (10 ^ 40)) && rise (ts.map toI)
  | _ => false
theorem all_typed {m : Int} : ∀ {ts : List T}, (ts.all fun t => isW t 0 m) = true → ts = (ts.map toI).map .int
  | [], _ => rfl
  | t :: ts, h => by
    simp only [List.all_cons, Bool.and_eq_true] at h
    rw [List.map_cons, List.map_cons, ← all_typed h.2]
    cases t with
    | int i => rfl
    | _ => simp [isW] at h
theorem cut1 (ts : List T) : cutT ts (some 1) none = ts.drop 1 := by
  cases ts with
  | nil => rfl
  | cons t ts => exact cut_drop (ts := t :: ts) (by decide) (by simp; omega)
section
variable {st : Sto}
theorem e_are_rising {l : List Int} (hl : l.length ≤ 100000) : F_are_rising [.v (.tuple (l.map .int))] st = .ok (.v (.bool (rise l))) st := by
  apply eqn_of
  unfold F_are_rising m_are_rising
  have hq : lcGo none (gTu 2 (gCons (gNm 1) (gCons (gNm 2) gNil))) mYes (mBin opLt (mVar 1) (mVar 2)) [some (.v (.tuple (l.map .int))), none, none] (zipT2 (l.map .int) ((l.drop 1).map .int)) st = .ok ((zipT2 (l.map .int) ((l.drop 1).map .int)).map fun z => .bool (ltP z)) st :=
    lc_eq _ _ fun z hz => by
      obtain ⟨x, y, rfl, hx, hy⟩ := zip_mem hz
      obtain ⟨i, _, rfl⟩ := List.mem_map.mp hx
      obtain ⟨j, _, rfl⟩ := List.mem_map.mp hy
      simp [w_ok, w_bad, w_bind, w_bindN, w_toS, w_itb, w_var, w_c, w_bin, w_un, w_cmpT, w_mB, w_chain, w_tru, w_andT, w_orT, w_notT, w_andV, w_orV, w_notV, w_if, w_nil, w_cons, w_tup, w_lst, w_lstM, w_call, w_fn, w_fnK, w_meth, w_noP, w_part, w_slice, w_rg1, w_lstRgM, w_lstRg, w_tupRg, w_gNm, w_gTu, w_gNil, w_gCons, w_gSb, w_skip, w_seq, w_asg, w_ret, w_drop, w_ifS, w_par2, w_par3, w_parN, w_runB, w_finV, w_finM, List.map, List.replicate, List.length, List.cons_append, List.nil_append, List.append_nil, List.getElem?_cons_zero, List.getElem?_cons_succ, List.set_cons_zero, List.set_cons_succ, setAll, pureTs, Option.map, opI0, ltP]
  have hz := zip_len_le (l.map PyData.int) ((l.drop 1).map .int) (by simp; omega)
  have hr := rise_zip l
  have hc : cutT (l.map PyData.int) (some 1) none = (l.drop 1).map .int := by rw [cut1, List.map_drop]
  simp only [w_runB, w_ret, w_call, w_cons, w_nil, w_bind, w_lc, w_itZ2, w_var, w_slice, w_part, w_noP, w_c, w_ok, List.map, List.replicate, List.length, List.cons_append, List.nil_append, List.getElem?_cons_zero, List.getElem?_cons_succ, opSl, asSeq, asL, asLt, hc, chk2, noRef, ↓reduceIte, chkOf, wipeD, List.foldl, List.set_cons_zero, List.set_cons_succ, hq, finF, fAll, onBools, boolsT_map, all_map, hr, w_finV, take_all]
  exact ⟨hz, trivial, trivial⟩
theorem e_is_lot {v : T} {k : Nat} (hv : wd k v = true) (hk : k ≤ 60) : F_is_lot [.v v, .v (.int (10 ^ 40))] st = .ok (.v (.bool (strk v))) st := by
  apply eqn_of
  unfold F_is_lot m_is_lot
  cases v with
  | tuple ts =>
    simp only [wd, Bool.and_eq_true, decide_eq_true_eq] at hv
    have hq : lcGo none (gNm 2) mYes (mFn 3 F_is_within (mCons (mVar 2) (mCons (mC (.v (.int 0))) (mCons (mVar 1) mNil))) []) [some (.v (.tuple ts)), some (.v (.int (10 ^ 40))), none] ts st = .ok (ts.map fun t => .bool (isW t 0 (10 ^ 40))) st :=
      lc_eq _ ts fun t ht => by simp [w_ok, w_bad, w_bind, w_bindN, w_toS, w_itb, w_var, w_c, w_bin, w_un, w_cmpT, w_mB, w_chain, w_tru, w_andT, w_orT, w_notT, w_andV, w_orV, w_notV, w_if, w_nil, w_cons, w_tup, w_lst, w_lstM, w_call, w_fn, w_fnK, w_meth, w_noP, w_part, w_slice, w_rg1, w_lstRgM, w_lstRg, w_tupRg, w_gNm, w_gTu, w_gNil, w_gCons, w_gSb, w_skip, w_seq, w_asg, w_ret, w_drop, w_ifS, w_par2, w_par3, w_parN, w_runB, w_finV, w_finM, List.map, List.replicate, List.length, List.cons_append, List.nil_append, List.append_nil, List.getElem?_cons_zero, List.getElem?_cons_succ, List.set_cons_zero, List.set_cons_succ, setAll, pureTs, Option.map, e_is_within]
    have hz := small_len (n := ts.length) (m := 100) (by omega)
    cases ha : (ts.all fun t => isW t 0 (10 ^ 40)) with
    | false =>
      simp only [w_ok, w_bad, w_bind, w_bindN, w_toS, w_itb, w_var, w_c, w_bin, w_un, w_cmpT, w_mB, w_chain, w_tru, w_andT, w_orT, w_notT, w_andV, w_orV, w_notV, w_if, w_nil, w_cons, w_tup, w_lst, w_lstM, w_call, w_fn, w_fnK, w_meth, w_noP, w_part, w_slice, w_rg1, w_lstRgM, w_lstRg, w_tupRg, w_gNm, w_gTu, w_gNil, w_gCons, w_gSb, w_skip, w_seq, w_asg, w_ret, w_drop, w_ifS, w_par2, w_par3, w_parN, w_runB, w_finV, w_finM, List.map, List.replicate, List.length, List.cons_append, List.nil_append, List.append_nil, List.getElem?_cons_zero, List.getElem?_cons_succ, List.set_cons_zero, List.set_cons_succ, setAll, pureTs, Option.map, fIsi, tyD, tyT, subTy, truD, w_lc, w_itS, asSeq, asL, asLt, chkOf, wipeD, List.foldl, hq, finF, fAll, onBools, boolsT_map, all_map, ha, take_all, strk, Bool.false_and]
      simp [hz]
    | true =>
      have ht := all_typed ha
      have er := e_are_rising (st := st) (l := ts.map toI) (by simp; omega)
      rw [← ht] at er
      simp only [w_ok, w_bad, w_bind, w_bindN, w_toS, w_itb, w_var, w_c, w_bin, w_un, w_cmpT, w_mB, w_chain, w_tru, w_andT, w_orT, w_notT, w_andV, w_orV, w_notV, w_if, w_nil, w_cons, w_tup, w_lst, w_lstM, w_call, w_fn, w_fnK, w_meth, w_noP, w_part, w_slice, w_rg1, w_lstRgM, w_lstRg, w_tupRg, w_gNm, w_gTu, w_gNil, w_gCons, w_gSb, w_skip, w_seq, w_asg, w_ret, w_drop, w_ifS, w_par2, w_par3, w_parN, w_runB, w_finV, w_finM, List.map, List.replicate, List.length, List.cons_append, List.nil_append, List.append_nil, List.getElem?_cons_zero, List.getElem?_cons_succ, List.set_cons_zero, List.set_cons_succ, setAll, pureTs, Option.map, fIsi, tyD, tyT, subTy, truD, w_lc, w_itS, asSeq, asL, asLt, chkOf, wipeD, List.foldl, hq, finF, fAll, onBools, boolsT_map, all_map, ha, take_all, strk, Bool.true_and, er]
      simp [hz]
  | _ => simp [w_ok, w_bad, w_bind, w_bindN, w_toS, w_itb, w_var, w_c, w_bin, w_un, w_cmpT, w_mB, w_chain, w_tru, w_andT, w_orT, w_notT, w_andV, w_orV, w_notV, w_if, w_nil, w_cons, w_tup, w_lst, w_lstM, w_call, w_fn, w_fnK, w_meth, w_noP, w_part, w_slice, w_rg1, w_lstRgM, w_lstRg, w_tupRg, w_gNm, w_gTu, w_gNil, w_gCons, w_gSb, w_skip, w_seq, w_asg, w_ret, w_drop, w_ifS, w_par2, w_par3, w_parN, w_runB, w_finV, w_finM, List.map, List.replicate, List.length, List.cons_append, List.nil_append, List.append_nil, List.getElem?_cons_zero, List.getElem?_cons_succ, List.set_cons_zero, List.set_cons_succ, setAll, pureTs, Option.map, fIsi, tyD, tyT, subTy, truD, take_all, strk]
end
end Law

namespace Law
open PySem PL
open L2 (atI ixN CDiv CMul CPow RgOk)
/-! ### the flaw of a case -/
def firstBad (p : Nat → T → Bool) : Nat → List T → Option Nat
  | _, [] => none
  | k, t :: ts => if p k t = true then firstBad p (k + 1) ts else some k
def rAt (b : Bk) (fs zs : List Int) (k : Nat) (t : T) : Bool := rOk b (b.is.getD k []) fs zs (zs.getD k 0) t
def flawC (b : Bk) (v : T) : T := match v with
  | .tuple [.str w, ct, f, z, r, sk] =>
    if w = "case" then (if isW ct 0 (b.cs.length - 1) = true then (if areT f b.ms = true then (if areT z (List.replicate b.is.length 1) = true then (match r with
      | .tuple rl => if rl.length = b.is.length then (match firstBad (rAt b (intsOf f) (intsOf z)) 0 rl with
        | some i => noteT "reason" (.int i)
        | none => if strk sk = true then .none else noteT "struck" .none) else noteT "reasons" .none
      | _ => noteT "reasons" .none) else noteT "findings" .none) else noteT "facts" .none) else noteT "court" .none) else noteT "form" .none
  | _ => noteT "form" .none
theorem sh_ints (l : List Int) : SeqAt.shaped (.list (l.map .int)) = true := by
  have : ∀ l : List Int, PyData.canLayAll0 (l.map .int) = true ∧ PyData.depthAll (l.map .int) = 0 := by
    intro l
    induction l with
    | nil => exact ⟨rfl, rfl⟩
    | cons x l ih => simp [PyData.canLayAll0, PyData.canLay0, PyData.depthAll, PyData.depth, ih.1, ih.2]
  obtain ⟨h1, h2⟩ := this l
  simp [SeqAt.shaped, PyData.canLay0, PyData.depth, h1, h2]
theorem eqv_ints : ∀ a b : List Int, PyData.eqv (.list (a.map .int)) (.list (b.map .int)) = decide (a = b)
  | [], [] => by simp [PyData.eqv, PyData.eqvAll]
  | [], _ :: _ => by simp [PyData.eqv, PyData.eqvAll]
  | _ :: _, [] => by simp [PyData.eqv, PyData.eqvAll]
  | x :: a, y :: b => by
    have := eqv_ints a b
    simp only [PyData.eqv] at this
    simp only [List.map_cons, PyData.eqv, PyData.eqvAll, this]
    by_cases h : x = y <;> simp [h]
theorem ne_six {ts : List T} (h : ∀ a b c d e f, ts ≠ [a, b, c, d, e, f]) : ts.length ≠ 6 := by
  intro e
  match ts, e with
  | [a, b, c, d, e, f], _ => exact h a b c d e f rfl
theorem cx0 {a b c d e f : T} {st : Sto} : opIx (.v (.tuple [a, b, c, d, e, f])) (.v (.int 0)) st = .ok (.v a) st := ox (ixi (i := 0) rfl)
theorem cx1 {a b c d e f : T} {st : Sto} : opIx (.v (.tuple [a, b, c, d, e, f])) (.v (.int 1)) st = .ok (.v b) st := ox (ixi (i := 1) rfl)
theorem cx2 {a b c d e f : T} {st : Sto} : opIx (.v (.tuple [a, b, c, d, e, f])) (.v (.int 2)) st = .ok (.v c) st := ox (ixi (i := 2) rfl)
theorem cx3 {a b c d e f : T} {st : Sto} : opIx (.v (.tuple [a, b, c, d, e, f])) (.v (.int 3)) st = .ok (.v d) st := ox (ixi (i := 3) rfl)
theorem cx4 {a b c d e f : T} {st : Sto} : opIx (.v (.tuple [a, b, c, d, e, f])) (.v (.int 4)) st = .ok (.v e) st := ox (ixi (i := 4) rfl)
theorem cx5 {a b c d e f : T} {st : Sto} : opIx (.v (.tuple [a, b, c, d, e, f])) (.v (.int 5)) st = .ok (.v f) st := ox (ixi (i := 5) rfl)
theorem w_sortSet {m : ME D} {env : EnvD} {st : Sto} {QD : D → Sto → Prop} : EvO (mSortSet m env st) QD = EvO (m env st) fun d s => match d with
    | .v (.tuple ts) => match intsT ts with
      | some ns => ts.length < 64 ∧ QD (.v (.list ((sortD ns).map .int))) s
      | none => False
    | _ => False := by
  unfold mSortSet; rw [w_bind]; congr; funext d s
  cases d with
  | v t =>
    cases t with
    | tuple ts =>
      dsimp only
      cases intsT ts with
      | none => rfl
      | some ns => exact w_itb
    | _ => rfl
  | _ => rfl
theorem pow40 {st : Sto} : opPow (.v (.int 10)) (.v (.int 40)) st = .ok (.v (.int (10 ^ 40))) st := by
  have h : CPow 10 40 := by decide
  simp only [opPow, opI, h, if_true]
  rfl
theorem opMulX_one {k : Nat} {st : Sto} (h : 1 ≤ k) (h2 : k ≤ 1000) : opMulX (.v (.tuple [.int 1])) (.v (.int k)) st = .ok (.v (.tuple ((List.replicate k (1 : Int)).map .int))) st := by
  by_cases h1 : k = 1
  · subst h1; rfl
  · have hk : (2 : Int) ≤ (k : Int) := by omega
    have hk2 : (k : Int) ≤ 1000 := by omega
    have e : opMulX (.v (.tuple [.int 1])) (.v (.int (k : Int))) st = opMul (.v (.tuple [.int 1])) (.v (.int (k : Int))) st := by
      unfold opMulX
      split
      · rename_i xs e1 e2
        have e3 : (k : Int) = 1 := by injection e2 with e4; injection e4
        omega
      · rfl
    rw [e]
    simp [opMul, hk, hk2, List.map_replicate]
section
variable {b : Bk} {v : T} {st : Sto}
theorem e_lw_flaw (hb : b.ok) {k : Nat} (hv : wd k v = true) (hk : k ≤ 60) : F_lw_flaw [.v b.t, .v v] st = .ok (.v (flawC b v)) st := by
  have hcs := hb.csl
  have his := hb.isl
  have hms := hb.msl
  apply eqn_of
  unfold F_lw_flaw m_lw_flaw
  rw [w_runB]
  simp only [List.map, List.replicate, List.length, List.cons_append, List.nil_append]
  have badform : (∀ ct f z r sk, v ≠ .tuple [.str "case", ct, f, z, r, sk]) → EvO (((mOrT (mNotT (mTru (mCall fIsi (mCons (mVar 1) (mCons (mC (.ty "tuple")) mNil))))) (mOrT (mCmpT opNe (mCall fLen (mCons (mVar 1) mNil)) (mC (.v (.int 6)))) (mOrT (mNotT (mTru (mCall fIsi (mCons (mBin opIx (mVar 1) (mC (.v (.int 0)))) (mCons (mC (.ty "str")) mNil))))) (mCmpT opNe (mBin opIx (mVar 1) (mC (.v (.int 0)))) (mC (.v (.str ("case" : Str))))))))) [some (.v b.t), some (.v v), none, none, none, none] st) (fun k s => k = true ∧ s = st) ∧ flawC b v = noteT "form" .none := fun h => by
    cases v with
    | tuple ts =>
      by_cases h6 : ∃ a ct f z r sk, ts = [a, ct, f, z, r, sk]
      · obtain ⟨a, ct, f, z, r, sk, rfl⟩ := h6
        cases a with
        | str w =>
          have hw : ¬ w = "case" := fun e => h ct f z r sk (by rw [e])
          have hw2 : (w == "case") = false := by rw [beq_str, decide_eq_false hw]
          refine ⟨by simp [w_ok, w_bad, w_bind, w_bindN, w_toS, w_itb, w_var, w_c, w_bin, w_un, w_cmpT, w_mB, w_chain, w_tru, w_andT, w_orT, w_notT, w_andV, w_orV, w_notV, w_if, w_nil, w_cons, w_tup, w_lst, w_lstM, w_call, w_fn, w_fnK, w_meth, w_noP, w_part, w_slice, w_rg1, w_lstRgM, w_lstRg, w_tupRg, w_gNm, w_gTu, w_gNil, w_gCons, w_gSb, w_skip, w_seq, w_asg, w_ret, w_drop, w_ifS, w_par2, w_par3, w_parN, w_runB, w_finV, w_finM, List.map, List.replicate, List.length, List.cons_append, List.nil_append, List.append_nil, List.getElem?_cons_zero, List.getElem?_cons_succ, List.set_cons_zero, List.set_cons_succ, setAll, pureTs, Option.map, fIsi, tyD, tyT, subTy, truD, fLen, asSeq, oq_int, oq_str, cx0, hw2], by simp [flawC, hw]⟩
        | _ => exact ⟨by simp [w_ok, w_bad, w_bind, w_bindN, w_toS, w_itb, w_var, w_c, w_bin, w_un, w_cmpT, w_mB, w_chain, w_tru, w_andT, w_orT, w_notT, w_andV, w_orV, w_notV, w_if, w_nil, w_cons, w_tup, w_lst, w_lstM, w_call, w_fn, w_fnK, w_meth, w_noP, w_part, w_slice, w_rg1, w_lstRgM, w_lstRg, w_tupRg, w_gNm, w_gTu, w_gNil, w_gCons, w_gSb, w_skip, w_seq, w_asg, w_ret, w_drop, w_ifS, w_par2, w_par3, w_parN, w_runB, w_finV, w_finM, List.map, List.replicate, List.length, List.cons_append, List.nil_append, List.append_nil, List.getElem?_cons_zero, List.getElem?_cons_succ, List.set_cons_zero, List.set_cons_succ, setAll, pureTs, Option.map, fIsi, tyD, tyT, subTy, truD, fLen, asSeq, oq_int, oq_str, cx0], rfl⟩
      · have h6' : ts.length ≠ 6 := ne_six fun a b c d e f e' => h6 ⟨a, b, c, d, e, f, e'⟩
        have h7 : ((ts.length : Int) == 6) = false := by simpa using (show (ts.length : Int) ≠ 6 by omega)
        refine ⟨by simp [w_ok, w_bad, w_bind, w_bindN, w_toS, w_itb, w_var, w_c, w_bin, w_un, w_cmpT, w_mB, w_chain, w_tru, w_andT, w_orT, w_notT, w_andV, w_orV, w_notV, w_if, w_nil, w_cons, w_tup, w_lst, w_lstM, w_call, w_fn, w_fnK, w_meth, w_noP, w_part, w_slice, w_rg1, w_lstRgM, w_lstRg, w_tupRg, w_gNm, w_gTu, w_gNil, w_gCons, w_gSb, w_skip, w_seq, w_asg, w_ret, w_drop, w_ifS, w_par2, w_par3, w_parN, w_runB, w_finV, w_finM, List.map, List.replicate, List.length, List.cons_append, List.nil_append, List.append_nil, List.getElem?_cons_zero, List.getElem?_cons_succ, List.set_cons_zero, List.set_cons_succ, setAll, pureTs, Option.map, fIsi, tyD, tyT, subTy, truD, fLen, asSeq, oq_int, h7], ?_⟩
        unfold flawC
        split
        · rename_i w ct f z r sk e
          cases e
          exact absurd rfl h6'
        · rfl
    | _ => exact ⟨by simp [w_ok, w_bad, w_bind, w_bindN, w_toS, w_itb, w_var, w_c, w_bin, w_un, w_cmpT, w_mB, w_chain, w_tru, w_andT, w_orT, w_notT, w_andV, w_orV, w_notV, w_if, w_nil, w_cons, w_tup, w_lst, w_lstM, w_call, w_fn, w_fnK, w_meth, w_noP, w_part, w_slice, w_rg1, w_lstRgM, w_lstRg, w_tupRg, w_gNm, w_gTu, w_gNil, w_gCons, w_gSb, w_skip, w_seq, w_asg, w_ret, w_drop, w_ifS, w_par2, w_par3, w_parN, w_runB, w_finV, w_finM, List.map, List.replicate, List.length, List.cons_append, List.nil_append, List.append_nil, List.getElem?_cons_zero, List.getElem?_cons_succ, List.set_cons_zero, List.set_cons_succ, setAll, pureTs, Option.map, fIsi, tyD, tyT, subTy, truD], rfl⟩
  by_cases hform : ∃ ct f z r sk, v = .tuple [.str "case", ct, f, z, r, sk]
  · obtain ⟨ct, f, z, r, sk, rfl⟩ := hform
    refine guardF (by simp [w_ok, w_bad, w_bind, w_bindN, w_toS, w_itb, w_var, w_c, w_bin, w_un, w_cmpT, w_mB, w_chain, w_tru, w_andT, w_orT, w_notT, w_andV, w_orV, w_notV, w_if, w_nil, w_cons, w_tup, w_lst, w_lstM, w_call, w_fn, w_fnK, w_meth, w_noP, w_part, w_slice, w_rg1, w_lstRgM, w_lstRg, w_tupRg, w_gNm, w_gTu, w_gNil, w_gCons, w_gSb, w_skip, w_seq, w_asg, w_ret, w_drop, w_ifS, w_par2, w_par3, w_parN, w_runB, w_finV, w_finM, List.map, List.replicate, List.length, List.cons_append, List.nil_append, List.append_nil, List.getElem?_cons_zero, List.getElem?_cons_succ, List.set_cons_zero, List.set_cons_succ, setAll, pureTs, Option.map, fIsi, tyD, tyT, subTy, truD, fLen, asSeq, oq_int, oq_str, cx0]) ?_
    cases h1 : isW ct 0 (b.cs.length - 1) with
    | false =>
      refine guardT (by simp [w_ok, w_bad, w_bind, w_bindN, w_toS, w_itb, w_var, w_c, w_bin, w_un, w_cmpT, w_mB, w_chain, w_tru, w_andT, w_orT, w_notT, w_andV, w_orV, w_notV, w_if, w_nil, w_cons, w_tup, w_lst, w_lstM, w_call, w_fn, w_fnK, w_meth, w_noP, w_part, w_slice, w_rg1, w_lstRgM, w_lstRg, w_tupRg, w_gNm, w_gTu, w_gNil, w_gCons, w_gSb, w_skip, w_seq, w_asg, w_ret, w_drop, w_ifS, w_par2, w_par3, w_parN, w_runB, w_finV, w_finM, List.map, List.replicate, List.length, List.cons_append, List.nil_append, List.append_nil, List.getElem?_cons_zero, List.getElem?_cons_succ, List.set_cons_zero, List.set_cons_succ, setAll, pureTs, Option.map, cx1, ob3, fLen, asSeq, opI0, e_lw_number, truD, h1]) ?_
      simp [w_ok, w_bad, w_bind, w_bindN, w_toS, w_itb, w_var, w_c, w_bin, w_un, w_cmpT, w_mB, w_chain, w_tru, w_andT, w_orT, w_notT, w_andV, w_orV, w_notV, w_if, w_nil, w_cons, w_tup, w_lst, w_lstM, w_call, w_fn, w_fnK, w_meth, w_noP, w_part, w_slice, w_rg1, w_lstRgM, w_lstRg, w_tupRg, w_gNm, w_gTu, w_gNil, w_gCons, w_gSb, w_skip, w_seq, w_asg, w_ret, w_drop, w_ifS, w_par2, w_par3, w_parN, w_runB, w_finV, w_finM, List.map, List.replicate, List.length, List.cons_append, List.nil_append, List.append_nil, List.getElem?_cons_zero, List.getElem?_cons_succ, List.set_cons_zero, List.set_cons_succ, setAll, pureTs, Option.map, take_all, flawC, h1, noteT]
      decide
    | true =>
    refine guardF (by simp [w_ok, w_bad, w_bind, w_bindN, w_toS, w_itb, w_var, w_c, w_bin, w_un, w_cmpT, w_mB, w_chain, w_tru, w_andT, w_orT, w_notT, w_andV, w_orV, w_notV, w_if, w_nil, w_cons, w_tup, w_lst, w_lstM, w_call, w_fn, w_fnK, w_meth, w_noP, w_part, w_slice, w_rg1, w_lstRgM, w_lstRg, w_tupRg, w_gNm, w_gTu, w_gNil, w_gCons, w_gSb, w_skip, w_seq, w_asg, w_ret, w_drop, w_ifS, w_par2, w_par3, w_parN, w_runB, w_finV, w_finM, List.map, List.replicate, List.length, List.cons_append, List.nil_append, List.append_nil, List.getElem?_cons_zero, List.getElem?_cons_succ, List.set_cons_zero, List.set_cons_succ, setAll, pureTs, Option.map, cx1, ob3, fLen, asSeq, opI0, e_lw_number, truD, h1]) ?_
    cases h2 : areT f b.ms with
    | false =>
      refine guardT (by simp only [w_ok, w_bad, w_bind, w_bindN, w_toS, w_itb, w_var, w_c, w_bin, w_un, w_cmpT, w_mB, w_chain, w_tru, w_andT, w_orT, w_notT, w_andV, w_orV, w_notV, w_if, w_nil, w_cons, w_tup, w_lst, w_lstM, w_call, w_fn, w_fnK, w_meth, w_noP, w_part, w_slice, w_rg1, w_lstRgM, w_lstRg, w_tupRg, w_gNm, w_gTu, w_gNil, w_gCons, w_gSb, w_skip, w_seq, w_asg, w_ret, w_drop, w_ifS, w_par2, w_par3, w_parN, w_runB, w_finV, w_finM, List.map, List.replicate, List.length, List.cons_append, List.nil_append, List.append_nil, List.getElem?_cons_zero, List.getElem?_cons_succ, List.set_cons_zero, List.set_cons_succ, setAll, pureTs, Option.map, cx2, ob1, e_lw_are (show b.ms.length ≤ 1000 by omega), truD, h2]; simp) ?_
      simp [w_ok, w_bad, w_bind, w_bindN, w_toS, w_itb, w_var, w_c, w_bin, w_un, w_cmpT, w_mB, w_chain, w_tru, w_andT, w_orT, w_notT, w_andV, w_orV, w_notV, w_if, w_nil, w_cons, w_tup, w_lst, w_lstM, w_call, w_fn, w_fnK, w_meth, w_noP, w_part, w_slice, w_rg1, w_lstRgM, w_lstRg, w_tupRg, w_gNm, w_gTu, w_gNil, w_gCons, w_gSb, w_skip, w_seq, w_asg, w_ret, w_drop, w_ifS, w_par2, w_par3, w_parN, w_runB, w_finV, w_finM, List.map, List.replicate, List.length, List.cons_append, List.nil_append, List.append_nil, List.getElem?_cons_zero, List.getElem?_cons_succ, List.set_cons_zero, List.set_cons_succ, setAll, pureTs, Option.map, take_all, flawC, h1, h2, noteT]
      decide
    | true =>
    refine guardF (by simp only [w_ok, w_bad, w_bind, w_bindN, w_toS, w_itb, w_var, w_c, w_bin, w_un, w_cmpT, w_mB, w_chain, w_tru, w_andT, w_orT, w_notT, w_andV, w_orV, w_notV, w_if, w_nil, w_cons, w_tup, w_lst, w_lstM, w_call, w_fn, w_fnK, w_meth, w_noP, w_part, w_slice, w_rg1, w_lstRgM, w_lstRg, w_tupRg, w_gNm, w_gTu, w_gNil, w_gCons, w_gSb, w_skip, w_seq, w_asg, w_ret, w_drop, w_ifS, w_par2, w_par3, w_parN, w_runB, w_finV, w_finM, List.map, List.replicate, List.length, List.cons_append, List.nil_append, List.append_nil, List.getElem?_cons_zero, List.getElem?_cons_succ, List.set_cons_zero, List.set_cons_succ, setAll, pureTs, Option.map, cx2, ob1, e_lw_are (show b.ms.length ≤ 1000 by omega), truD, h2]; simp) ?_
    cases h3 : areT z (List.replicate b.is.length 1) with
    | false =>
      refine guardT (by simp only [w_ok, w_bad, w_bind, w_bindN, w_toS, w_itb, w_var, w_c, w_bin, w_un, w_cmpT, w_mB, w_chain, w_tru, w_andT, w_orT, w_notT, w_andV, w_orV, w_notV, w_if, w_nil, w_cons, w_tup, w_lst, w_lstM, w_call, w_fn, w_fnK, w_meth, w_noP, w_part, w_slice, w_rg1, w_lstRgM, w_lstRg, w_tupRg, w_gNm, w_gTu, w_gNil, w_gCons, w_gSb, w_skip, w_seq, w_asg, w_ret, w_drop, w_ifS, w_par2, w_par3, w_parN, w_runB, w_finV, w_finM, List.map, List.replicate, List.length, List.cons_append, List.nil_append, List.append_nil, List.getElem?_cons_zero, List.getElem?_cons_succ, List.set_cons_zero, List.set_cons_succ, setAll, pureTs, Option.map, cx3, ob2, fLen, asSeq, iss_len, opMulX_one his.1 (show b.is.length ≤ 1000 by omega), e_lw_are (show (List.replicate b.is.length (1 : Int)).length ≤ 1000 by simp; omega), truD, h3]; simp; decide) ?_
      simp [w_ok, w_bad, w_bind, w_bindN, w_toS, w_itb, w_var, w_c, w_bin, w_un, w_cmpT, w_mB, w_chain, w_tru, w_andT, w_orT, w_notT, w_andV, w_orV, w_notV, w_if, w_nil, w_cons, w_tup, w_lst, w_lstM, w_call, w_fn, w_fnK, w_meth, w_noP, w_part, w_slice, w_rg1, w_lstRgM, w_lstRg, w_tupRg, w_gNm, w_gTu, w_gNil, w_gCons, w_gSb, w_skip, w_seq, w_asg, w_ret, w_drop, w_ifS, w_par2, w_par3, w_parN, w_runB, w_finV, w_finM, List.map, List.replicate, List.length, List.cons_append, List.nil_append, List.append_nil, List.getElem?_cons_zero, List.getElem?_cons_succ, List.set_cons_zero, List.set_cons_succ, setAll, pureTs, Option.map, take_all, flawC, h1, h2, h3, noteT]
      decide
    | true =>
    refine guardF (by simp only [w_ok, w_bad, w_bind, w_bindN, w_toS, w_itb, w_var, w_c, w_bin, w_un, w_cmpT, w_mB, w_chain, w_tru, w_andT, w_orT, w_notT, w_andV, w_orV, w_notV, w_if, w_nil, w_cons, w_tup, w_lst, w_lstM, w_call, w_fn, w_fnK, w_meth, w_noP, w_part, w_slice, w_rg1, w_lstRgM, w_lstRg, w_tupRg, w_gNm, w_gTu, w_gNil, w_gCons, w_gSb, w_skip, w_seq, w_asg, w_ret, w_drop, w_ifS, w_par2, w_par3, w_parN, w_runB, w_finV, w_finM, List.map, List.replicate, List.length, List.cons_append, List.nil_append, List.append_nil, List.getElem?_cons_zero, List.getElem?_cons_succ, List.set_cons_zero, List.set_cons_succ, setAll, pureTs, Option.map, cx3, ob2, fLen, asSeq, iss_len, opMulX_one his.1 (show b.is.length ≤ 1000 by omega), e_lw_are (show (List.replicate b.is.length (1 : Int)).length ≤ 1000 by simp; omega), truD, h3]; simp; decide) ?_
    have hwd : wd k sk = true ∧ True := ⟨by
      simp only [wd, wds, Bool.and_eq_true] at hv
      exact hv.2.2.2.2.2.2.1, trivial⟩
    cases r with
    | tuple rl =>
      by_cases hl : rl.length = b.is.length
      · refine guardF (by simp [w_ok, w_bad, w_bind, w_bindN, w_toS, w_itb, w_var, w_c, w_bin, w_un, w_cmpT, w_mB, w_chain, w_tru, w_andT, w_orT, w_notT, w_andV, w_orV, w_notV, w_if, w_nil, w_cons, w_tup, w_lst, w_lstM, w_call, w_fn, w_fnK, w_meth, w_noP, w_part, w_slice, w_rg1, w_lstRgM, w_lstRg, w_tupRg, w_gNm, w_gTu, w_gNil, w_gCons, w_gSb, w_skip, w_seq, w_asg, w_ret, w_drop, w_ifS, w_par2, w_par3, w_parN, w_runB, w_finV, w_finM, List.map, List.replicate, List.length, List.cons_append, List.nil_append, List.append_nil, List.getElem?_cons_zero, List.getElem?_cons_succ, List.set_cons_zero, List.set_cons_succ, setAll, pureTs, Option.map, cx4, ob2, fIsi, tyD, tyT, subTy, truD, fLen, asSeq, iss_len, oq_int, hl]) ?_
        obtain ⟨F, rfl, hFl, _⟩ : ∃ F : List Int, f = .tuple (F.map .int) ∧ F.length = b.ms.length ∧ True := by
          cases f with
          | tuple ts =>
            simp only [areT, Bool.and_eq_true, decide_eq_true_eq] at h2
            obtain ⟨l, e, hl, _⟩ := are_typed h2.1 h2.2
            exact ⟨l, by rw [e], hl, trivial⟩
          | _ => simp [areT] at h2
        obtain ⟨Z, rfl, hZl, hZ⟩ : ∃ Z : List Int, z = .tuple (Z.map .int) ∧ Z.length = b.is.length ∧ ∀ x ∈ Z, x = 0 ∨ x = 1 := by
          cases z with
          | tuple ts =>
            simp only [areT, Bool.and_eq_true, decide_eq_true_eq] at h3
            obtain ⟨l, e, hl, hb'⟩ := are_typed h3.1 h3.2
            rw [List.length_replicate] at hl
            refine ⟨l, by rw [e], hl, fun x hx => ?_⟩
            obtain ⟨j, hj, rfl⟩ := List.mem_iff_getElem.mp hx
            have := hb' j l[j] 1 (List.getElem?_eq_getElem hj) (by rw [List.getElem?_replicate, if_pos (by omega)])
            omega
          | _ => simp [areT] at h3
        have hfl : flawC b (.tuple [.str "case", ct, .tuple (F.map .int), .tuple (Z.map .int), .tuple rl, sk]) = (match firstBad (rAt b F Z) 0 rl with
            | some i => noteT "reason" (.int i)
            | none => if strk sk = true then .none else noteT "struck" .none) := by
          simp only [flawC, h1, h2, h3, hl, if_true, intsOf_map]
        rw [hfl]
        generalize hQ : (fun (d : D) (s : Sto) => d = D.v (match firstBad (rAt b F Z) 0 rl with
            | some i => noteT "reason" (.int i)
            | none => if strk sk = true then .none else noteT "struck" .none) ∧ s = st) = Q
        rw [w_seq, w_for]
        simp only [w_itE, w_cons, w_nil, w_bin, w_var, w_c, w_ok, cx4, asSeq, chkOf, List.getElem?_cons_zero, List.getElem?_cons_succ]
        refine for_inv (fun j env s => (∃ x3 x4, env = [some (.v b.t), some (.v (.tuple [.str "case", ct, .tuple (F.map .int), .tuple (Z.map .int), .tuple rl, sk])), none, x3, x4, none]) ∧ s = st ∧ firstBad (rAt b F Z) 0 rl = firstBad (rAt b F Z) j (rl.drop j)) _ 0 _ _ ⟨⟨_, _, rfl⟩, rfl, rfl⟩ (fun j t env s ht hI => ?_) fun env s hI => ?_
        · obtain ⟨⟨x3, x4, rfl⟩, rfl, hp⟩ := hI
          rw [Nat.zero_add] at hp ⊢
          obtain ⟨u, hu, rfl⟩ := en_get ht
          have hj := (List.getElem?_eq_some_iff.mp hu).1
          obtain ⟨gs, hgs⟩ : ∃ gs, b.is[j]? = some gs := ⟨_, List.getElem?_eq_getElem (by omega)⟩
          have hd : rl.drop j = u :: rl.drop (j + 1) := by
            rw [List.drop_eq_getElem_cons hj]
            have := (List.getElem?_eq_some_iff.mp hu).2
            rw [this]
          have hra : rAt b F Z j u = rOk b gs F Z (Z.getD j 0) u := by
            unfold rAt
            rw [List.getD_eq_getElem?_getD, hgs]; rfl
          simp only [w_gTu, w_gCons, w_gNil, w_gNm, w_ok, List.length, List.set_cons_succ, List.set_cons_zero]
          refine ⟨trivial, ?_⟩
          simp only [w_ok, w_bad, w_bind, w_bindN, w_toS, w_itb, w_var, w_c, w_bin, w_un, w_cmpT, w_mB, w_chain, w_tru, w_andT, w_orT, w_notT, w_andV, w_orV, w_notV, w_if, w_nil, w_cons, w_tup, w_lst, w_lstM, w_call, w_fn, w_fnK, w_meth, w_noP, w_part, w_slice, w_rg1, w_lstRgM, w_lstRg, w_tupRg, w_gNm, w_gTu, w_gNil, w_gCons, w_gSb, w_skip, w_seq, w_asg, w_ret, w_drop, w_ifS, w_par2, w_par3, w_parN, w_runB, w_finV, w_finM, List.map, List.replicate, List.length, List.cons_append, List.nil_append, List.append_nil, List.getElem?_cons_zero, List.getElem?_cons_succ, List.set_cons_zero, List.set_cons_succ, setAll, pureTs, Option.map, cx2, cx3, e_lw_is_reason hb hgs hFl hZl hZ, truD, ← hra]
          refine ⟨trivial, ?_⟩
          cases hrb : rAt b F Z j u with
          | false =>
            simp only [Bool.not_false, ↓reduceIte, SS, take_all]
            have : firstBad (rAt b F Z) 0 rl = some j := by rw [hp, hd, firstBad, hrb]; rfl
            subst hQ
            rw [this]
            exact ⟨by decide, rfl, rfl⟩
          | true =>
            simp only [Bool.not_true, Bool.false_eq_true, ↓reduceIte, SS]
            refine ⟨⟨_, _, rfl⟩, trivial, ?_⟩
            rw [hp, hd, firstBad, hrb, if_pos rfl]
        · obtain ⟨⟨x3, x4, rfl⟩, rfl, hp⟩ := hI
          rw [enT_len, Nat.zero_add, List.drop_length] at hp
          have hp : firstBad (rAt b F Z) 0 rl = none := by rw [hp]; rfl
          rw [hp] at hQ
          dsimp only at hQ
          refine asgS (x := .v sk) (by simp [w_bin, w_var, w_c, w_ok, cx5]) ?_
          rw [w_gNm]
          simp only [List.set_cons_succ, List.set_cons_zero]
          have bad : strk sk = false → EvO (fin (List.length s) s (.v (noteT "struck" .none))) Q := fun h => by
            subst hQ
            rw [w_finV, take_all, h]
            exact ⟨rfl, rfl⟩
          have good : strk sk = true → EvO (fin (List.length s) s (.v .none)) Q := fun h => by
            subst hQ
            rw [w_finV, take_all, h]
            exact ⟨rfl, rfl⟩
          clear hQ
          have hwk := hwd.1
          cases sk with
          | tuple ts =>
            simp only [wd, Bool.and_eq_true, decide_eq_true_eq] at hwk
            obtain ⟨x0, hx0⟩ : ∃ x0 : T, x0 = .tuple [.str "case", ct, .tuple (F.map .int), .tuple (Z.map .int), .tuple rl, .tuple ts] := ⟨_, rfl⟩
            rw [← hx0]
            have hq : lcGo none (gNm 5) mYes (mFn 3 F_lw_number (mCons (mVar 5) (mCons (mC (.v (.int 0))) (mCons (mBin opPow (mC (.v (.int 10))) (mC (.v (.int 40)))) mNil))) []) [some (.v b.t), some (.v x0), some (.v (.tuple ts)), x3, x4, none] ts s = .ok (ts.map fun t => .bool (isW t 0 (10 ^ 40))) s :=
              lc_eq _ ts fun t ht => by simp only [w_ok, w_bad, w_bind, w_bindN, w_toS, w_itb, w_var, w_c, w_bin, w_un, w_cmpT, w_mB, w_chain, w_tru, w_andT, w_orT, w_notT, w_andV, w_orV, w_notV, w_if, w_nil, w_cons, w_tup, w_lst, w_lstM, w_call, w_fn, w_fnK, w_meth, w_noP, w_part, w_slice, w_rg1, w_lstRgM, w_lstRg, w_tupRg, w_gNm, w_gTu, w_gNil, w_gCons, w_gSb, w_skip, w_seq, w_asg, w_ret, w_drop, w_ifS, w_par2, w_par3, w_parN, w_runB, w_finV, w_finM, List.map, List.replicate, List.length, List.cons_append, List.nil_append, List.append_nil, List.getElem?_cons_zero, List.getElem?_cons_succ, List.set_cons_zero, List.set_cons_succ, setAll, pureTs, Option.map, pow40, e_lw_number]; simp
            have hz := small_len (n := ts.length) (m := 100) (by omega)
            cases ha : (ts.all fun t => isW t 0 (10 ^ 40)) with
            | false =>
              refine guardT ?_ ?_
              · simp only [w_ok, w_bad, w_bind, w_bindN, w_toS, w_itb, w_var, w_c, w_bin, w_un, w_cmpT, w_mB, w_chain, w_tru, w_andT, w_orT, w_notT, w_andV, w_orV, w_notV, w_if, w_nil, w_cons, w_tup, w_lst, w_lstM, w_call, w_fn, w_fnK, w_meth, w_noP, w_part, w_slice, w_rg1, w_lstRgM, w_lstRg, w_tupRg, w_gNm, w_gTu, w_gNil, w_gCons, w_gSb, w_skip, w_seq, w_asg, w_ret, w_drop, w_ifS, w_par2, w_par3, w_parN, w_runB, w_finV, w_finM, List.map, List.replicate, List.length, List.cons_append, List.nil_append, List.append_nil, List.getElem?_cons_zero, List.getElem?_cons_succ, List.set_cons_zero, List.set_cons_succ, setAll, pureTs, Option.map, fIsi, tyD, tyT, subTy, truD, w_lc, w_itS, asSeq, asL, asLt, chkOf, wipeD, List.foldl, hq, finF, fAll, onBools, boolsT_map, all_map, ha]
                simp [hz]
              · simp only [w_ok, w_bad, w_bind, w_bindN, w_toS, w_itb, w_var, w_c, w_bin, w_un, w_cmpT, w_mB, w_chain, w_tru, w_andT, w_orT, w_notT, w_andV, w_orV, w_notV, w_if, w_nil, w_cons, w_tup, w_lst, w_lstM, w_call, w_fn, w_fnK, w_meth, w_noP, w_part, w_slice, w_rg1, w_lstRgM, w_lstRg, w_tupRg, w_gNm, w_gTu, w_gNil, w_gCons, w_gSb, w_skip, w_seq, w_asg, w_ret, w_drop, w_ifS, w_par2, w_par3, w_parN, w_runB, w_finV, w_finM, List.map, List.replicate, List.length, List.cons_append, List.nil_append, List.append_nil, List.getElem?_cons_zero, List.getElem?_cons_succ, List.set_cons_zero, List.set_cons_succ, setAll, pureTs, Option.map]
                exact ⟨by decide, bad (by simp only [strk, ha, Bool.false_and])⟩
            | true =>
              refine guardF ?_ ?_
              · simp only [w_ok, w_bad, w_bind, w_bindN, w_toS, w_itb, w_var, w_c, w_bin, w_un, w_cmpT, w_mB, w_chain, w_tru, w_andT, w_orT, w_notT, w_andV, w_orV, w_notV, w_if, w_nil, w_cons, w_tup, w_lst, w_lstM, w_call, w_fn, w_fnK, w_meth, w_noP, w_part, w_slice, w_rg1, w_lstRgM, w_lstRg, w_tupRg, w_gNm, w_gTu, w_gNil, w_gCons, w_gSb, w_skip, w_seq, w_asg, w_ret, w_drop, w_ifS, w_par2, w_par3, w_parN, w_runB, w_finV, w_finM, List.map, List.replicate, List.length, List.cons_append, List.nil_append, List.append_nil, List.getElem?_cons_zero, List.getElem?_cons_succ, List.set_cons_zero, List.set_cons_succ, setAll, pureTs, Option.map, fIsi, tyD, tyT, subTy, truD, w_lc, w_itS, asSeq, asL, asLt, chkOf, wipeD, List.foldl, hq, finF, fAll, onBools, boolsT_map, all_map, ha]
                simp [hz]
              · have ht := all_typed ha
                obtain ⟨L, hL⟩ : ∃ L, L = ts.map toI := ⟨_, rfl⟩
                rw [← hL] at ht
                have hst : strk (.tuple ts) = rise L := by simp only [strk, ha, Bool.true_and, hL]
                rw [hst] at bad good
                subst ht
                have hlen : (L.map PyData.int).length < 64 := by omega
                simp only [w_ret, w_if, w_cmpT, w_call, w_cons, w_nil, w_sortSet, w_var, w_c, w_tup, w_ok, List.getElem?_cons_zero, List.getElem?_cons_succ, fList, asSeq, intsT_map]
                refine ⟨hlen, ?_⟩
                have heq : opEq (.v (.list (L.map .int))) (.v (.list ((sortD L).map .int))) s = .ok (.v (.bool (rise L))) s := by
                  simp only [opEq, opEqB, toT, sh_ints, and_self, if_true, eqv_ints, rise_sort, Bool.false_eq_true, if_false]
                rw [heq, w_ok]
                cases hri : rise L with
                | true => simp only [↓reduceIte]; exact good hri
                | false => simp only [Bool.false_eq_true, ↓reduceIte, pureTs, Option.map]; exact ⟨by decide, bad hri⟩
          | _ =>
            refine guardT (by simp [w_ok, w_bad, w_bind, w_bindN, w_toS, w_itb, w_var, w_c, w_bin, w_un, w_cmpT, w_mB, w_chain, w_tru, w_andT, w_orT, w_notT, w_andV, w_orV, w_notV, w_if, w_nil, w_cons, w_tup, w_lst, w_lstM, w_call, w_fn, w_fnK, w_meth, w_noP, w_part, w_slice, w_rg1, w_lstRgM, w_lstRg, w_tupRg, w_gNm, w_gTu, w_gNil, w_gCons, w_gSb, w_skip, w_seq, w_asg, w_ret, w_drop, w_ifS, w_par2, w_par3, w_parN, w_runB, w_finV, w_finM, List.map, List.replicate, List.length, List.cons_append, List.nil_append, List.append_nil, List.getElem?_cons_zero, List.getElem?_cons_succ, List.set_cons_zero, List.set_cons_succ, setAll, pureTs, Option.map, fIsi, tyD, tyT, subTy, truD]) ?_
            simp only [w_ok, w_bad, w_bind, w_bindN, w_toS, w_itb, w_var, w_c, w_bin, w_un, w_cmpT, w_mB, w_chain, w_tru, w_andT, w_orT, w_notT, w_andV, w_orV, w_notV, w_if, w_nil, w_cons, w_tup, w_lst, w_lstM, w_call, w_fn, w_fnK, w_meth, w_noP, w_part, w_slice, w_rg1, w_lstRgM, w_lstRg, w_tupRg, w_gNm, w_gTu, w_gNil, w_gCons, w_gSb, w_skip, w_seq, w_asg, w_ret, w_drop, w_ifS, w_par2, w_par3, w_parN, w_runB, w_finV, w_finM, List.map, List.replicate, List.length, List.cons_append, List.nil_append, List.append_nil, List.getElem?_cons_zero, List.getElem?_cons_succ, List.set_cons_zero, List.set_cons_succ, setAll, pureTs, Option.map]
            exact ⟨by decide, bad rfl⟩
      · have hl' : ((rl.length : Int) == (b.is.length : Int)) = false := by simpa using (show (rl.length : Int) ≠ b.is.length by omega)
        refine guardT (by simp [w_ok, w_bad, w_bind, w_bindN, w_toS, w_itb, w_var, w_c, w_bin, w_un, w_cmpT, w_mB, w_chain, w_tru, w_andT, w_orT, w_notT, w_andV, w_orV, w_notV, w_if, w_nil, w_cons, w_tup, w_lst, w_lstM, w_call, w_fn, w_fnK, w_meth, w_noP, w_part, w_slice, w_rg1, w_lstRgM, w_lstRg, w_tupRg, w_gNm, w_gTu, w_gNil, w_gCons, w_gSb, w_skip, w_seq, w_asg, w_ret, w_drop, w_ifS, w_par2, w_par3, w_parN, w_runB, w_finV, w_finM, List.map, List.replicate, List.length, List.cons_append, List.nil_append, List.append_nil, List.getElem?_cons_zero, List.getElem?_cons_succ, List.set_cons_zero, List.set_cons_succ, setAll, pureTs, Option.map, cx4, ob2, fIsi, tyD, tyT, subTy, truD, fLen, asSeq, iss_len, oq_int, hl']) ?_
        simp [w_ok, w_bad, w_bind, w_bindN, w_toS, w_itb, w_var, w_c, w_bin, w_un, w_cmpT, w_mB, w_chain, w_tru, w_andT, w_orT, w_notT, w_andV, w_orV, w_notV, w_if, w_nil, w_cons, w_tup, w_lst, w_lstM, w_call, w_fn, w_fnK, w_meth, w_noP, w_part, w_slice, w_rg1, w_lstRgM, w_lstRg, w_tupRg, w_gNm, w_gTu, w_gNil, w_gCons, w_gSb, w_skip, w_seq, w_asg, w_ret, w_drop, w_ifS, w_par2, w_par3, w_parN, w_runB, w_finV, w_finM, List.map, List.replicate, List.length, List.cons_append, List.nil_append, List.append_nil, List.getElem?_cons_zero, List.getElem?_cons_succ, List.set_cons_zero, List.set_cons_succ, setAll, pureTs, Option.map, take_all, flawC, h1, h2, h3, hl, noteT]
        decide
    | _ =>
      refine guardT (by simp [w_ok, w_bad, w_bind, w_bindN, w_toS, w_itb, w_var, w_c, w_bin, w_un, w_cmpT, w_mB, w_chain, w_tru, w_andT, w_orT, w_notT, w_andV, w_orV, w_notV, w_if, w_nil, w_cons, w_tup, w_lst, w_lstM, w_call, w_fn, w_fnK, w_meth, w_noP, w_part, w_slice, w_rg1, w_lstRgM, w_lstRg, w_tupRg, w_gNm, w_gTu, w_gNil, w_gCons, w_gSb, w_skip, w_seq, w_asg, w_ret, w_drop, w_ifS, w_par2, w_par3, w_parN, w_runB, w_finV, w_finM, List.map, List.replicate, List.length, List.cons_append, List.nil_append, List.append_nil, List.getElem?_cons_zero, List.getElem?_cons_succ, List.set_cons_zero, List.set_cons_succ, setAll, pureTs, Option.map, cx4, ob2, fIsi, tyD, tyT, subTy, truD, fLen, asSeq, iss_len, oq_int]) ?_
      simp [w_ok, w_bad, w_bind, w_bindN, w_toS, w_itb, w_var, w_c, w_bin, w_un, w_cmpT, w_mB, w_chain, w_tru, w_andT, w_orT, w_notT, w_andV, w_orV, w_notV, w_if, w_nil, w_cons, w_tup, w_lst, w_lstM, w_call, w_fn, w_fnK, w_meth, w_noP, w_part, w_slice, w_rg1, w_lstRgM, w_lstRg, w_tupRg, w_gNm, w_gTu, w_gNil, w_gCons, w_gSb, w_skip, w_seq, w_asg, w_ret, w_drop, w_ifS, w_par2, w_par3, w_parN, w_runB, w_finV, w_finM, List.map, List.replicate, List.length, List.cons_append, List.nil_append, List.append_nil, List.getElem?_cons_zero, List.getElem?_cons_succ, List.set_cons_zero, List.set_cons_succ, setAll, pureTs, Option.map, take_all, flawC, h1, h2, h3, noteT]
      decide
  · obtain ⟨h1, h2⟩ := badform fun ct f z r sk e => hform ⟨ct, f, z, r, sk, e⟩
    refine guardT h1 ?_
    rw [h2]
    simp [w_ok, w_bad, w_bind, w_bindN, w_toS, w_itb, w_var, w_c, w_bin, w_un, w_cmpT, w_mB, w_chain, w_tru, w_andT, w_orT, w_notT, w_andV, w_orV, w_notV, w_if, w_nil, w_cons, w_tup, w_lst, w_lstM, w_call, w_fn, w_fnK, w_meth, w_noP, w_part, w_slice, w_rg1, w_lstRgM, w_lstRg, w_tupRg, w_gNm, w_gTu, w_gNil, w_gCons, w_gSb, w_skip, w_seq, w_asg, w_ret, w_drop, w_ifS, w_par2, w_par3, w_parN, w_runB, w_finV, w_finM, List.map, List.replicate, List.length, List.cons_append, List.nil_append, List.append_nil, List.getElem?_cons_zero, List.getElem?_cons_succ, List.set_cons_zero, List.set_cons_succ, setAll, pureTs, Option.map, take_all, noteT]
    decide
end
end Law

namespace Law
open PySem PL
open L2 (atI ixN CDiv CMul CPow RgOk)
section
variable {b : Bk} {v : T} {st : Sto}
theorem e_flaw_of_case (hb : b.ok) {k : Nat} (hv : wd k v = true) (hk : k ≤ 60) : F_flaw_of_case [.v b.t, .v v] st = .ok (.v (flawC b v)) st := by
  have hcs := hb.csl
  have his := hb.isl
  have hms := hb.msl
  apply eqn_of
  unfold F_flaw_of_case m_flaw_of_case
  rw [w_runB]
  simp only [List.map, List.replicate, List.length, List.cons_append, List.nil_append]
  by_cases hform : ∃ ct f z r sk, v = .tuple [.str "case", ct, f, z, r, sk]
  · obtain ⟨ct, f, z, r, sk, rfl⟩ := hform
    refine guardF (by simp [w_ok, w_bad, w_bind, w_bindN, w_toS, w_itb, w_var, w_c, w_bin, w_un, w_cmpT, w_mB, w_chain, w_tru, w_andT, w_orT, w_notT, w_andV, w_orV, w_notV, w_if, w_nil, w_cons, w_tup, w_lst, w_lstM, w_call, w_fn, w_fnK, w_meth, w_noP, w_part, w_slice, w_rg1, w_lstRgM, w_lstRg, w_tupRg, w_gNm, w_gTu, w_gNil, w_gCons, w_gSb, w_skip, w_seq, w_asg, w_ret, w_drop, w_ifS, w_par2, w_par3, w_parN, w_runB, w_finV, w_finM, List.map, List.replicate, List.length, List.cons_append, List.nil_append, List.append_nil, List.getElem?_cons_zero, List.getElem?_cons_succ, List.set_cons_zero, List.set_cons_succ, setAll, pureTs, Option.map, e_is_tuple, fIsi, tyD, tyT, subTy, truD, oq_str, cx0]) ?_
    cases h1 : isW ct 0 (b.cs.length - 1) with
    | false =>
      refine guardT (by simp [w_ok, w_bad, w_bind, w_bindN, w_toS, w_itb, w_var, w_c, w_bin, w_un, w_cmpT, w_mB, w_chain, w_tru, w_andT, w_orT, w_notT, w_andV, w_orV, w_notV, w_if, w_nil, w_cons, w_tup, w_lst, w_lstM, w_call, w_fn, w_fnK, w_meth, w_noP, w_part, w_slice, w_rg1, w_lstRgM, w_lstRg, w_tupRg, w_gNm, w_gTu, w_gNil, w_gCons, w_gSb, w_skip, w_seq, w_asg, w_ret, w_drop, w_ifS, w_par2, w_par3, w_parN, w_runB, w_finV, w_finM, List.map, List.replicate, List.length, List.cons_append, List.nil_append, List.append_nil, List.getElem?_cons_zero, List.getElem?_cons_succ, List.set_cons_zero, List.set_cons_succ, setAll, pureTs, Option.map, cx1, ob3, fLen, asSeq, opI0, e_is_within, truD, h1]) ?_
      simp [w_ok, w_bad, w_bind, w_bindN, w_toS, w_itb, w_var, w_c, w_bin, w_un, w_cmpT, w_mB, w_chain, w_tru, w_andT, w_orT, w_notT, w_andV, w_orV, w_notV, w_if, w_nil, w_cons, w_tup, w_lst, w_lstM, w_call, w_fn, w_fnK, w_meth, w_noP, w_part, w_slice, w_rg1, w_lstRgM, w_lstRg, w_tupRg, w_gNm, w_gTu, w_gNil, w_gCons, w_gSb, w_skip, w_seq, w_asg, w_ret, w_drop, w_ifS, w_par2, w_par3, w_parN, w_runB, w_finV, w_finM, List.map, List.replicate, List.length, List.cons_append, List.nil_append, List.append_nil, List.getElem?_cons_zero, List.getElem?_cons_succ, List.set_cons_zero, List.set_cons_succ, setAll, pureTs, Option.map, take_all, flawC, h1, noteT]
      decide
    | true =>
    refine guardF (by simp [w_ok, w_bad, w_bind, w_bindN, w_toS, w_itb, w_var, w_c, w_bin, w_un, w_cmpT, w_mB, w_chain, w_tru, w_andT, w_orT, w_notT, w_andV, w_orV, w_notV, w_if, w_nil, w_cons, w_tup, w_lst, w_lstM, w_call, w_fn, w_fnK, w_meth, w_noP, w_part, w_slice, w_rg1, w_lstRgM, w_lstRg, w_tupRg, w_gNm, w_gTu, w_gNil, w_gCons, w_gSb, w_skip, w_seq, w_asg, w_ret, w_drop, w_ifS, w_par2, w_par3, w_parN, w_runB, w_finV, w_finM, List.map, List.replicate, List.length, List.cons_append, List.nil_append, List.append_nil, List.getElem?_cons_zero, List.getElem?_cons_succ, List.set_cons_zero, List.set_cons_succ, setAll, pureTs, Option.map, cx1, ob3, fLen, asSeq, opI0, e_is_within, truD, h1]) ?_
    cases h2 : areT f b.ms with
    | false =>
      refine guardT (by simp only [w_ok, w_bad, w_bind, w_bindN, w_toS, w_itb, w_var, w_c, w_bin, w_un, w_cmpT, w_mB, w_chain, w_tru, w_andT, w_orT, w_notT, w_andV, w_orV, w_notV, w_if, w_nil, w_cons, w_tup, w_lst, w_lstM, w_call, w_fn, w_fnK, w_meth, w_noP, w_part, w_slice, w_rg1, w_lstRgM, w_lstRg, w_tupRg, w_gNm, w_gTu, w_gNil, w_gCons, w_gSb, w_skip, w_seq, w_asg, w_ret, w_drop, w_ifS, w_par2, w_par3, w_parN, w_runB, w_finV, w_finM, List.map, List.replicate, List.length, List.cons_append, List.nil_append, List.append_nil, List.getElem?_cons_zero, List.getElem?_cons_succ, List.set_cons_zero, List.set_cons_succ, setAll, pureTs, Option.map, cx2, e_are_facts hb, truD, h2]; simp) ?_
      simp [w_ok, w_bad, w_bind, w_bindN, w_toS, w_itb, w_var, w_c, w_bin, w_un, w_cmpT, w_mB, w_chain, w_tru, w_andT, w_orT, w_notT, w_andV, w_orV, w_notV, w_if, w_nil, w_cons, w_tup, w_lst, w_lstM, w_call, w_fn, w_fnK, w_meth, w_noP, w_part, w_slice, w_rg1, w_lstRgM, w_lstRg, w_tupRg, w_gNm, w_gTu, w_gNil, w_gCons, w_gSb, w_skip, w_seq, w_asg, w_ret, w_drop, w_ifS, w_par2, w_par3, w_parN, w_runB, w_finV, w_finM, List.map, List.replicate, List.length, List.cons_append, List.nil_append, List.append_nil, List.getElem?_cons_zero, List.getElem?_cons_succ, List.set_cons_zero, List.set_cons_succ, setAll, pureTs, Option.map, take_all, flawC, h1, h2, noteT]
      decide
    | true =>
    refine guardF (by simp only [w_ok, w_bad, w_bind, w_bindN, w_toS, w_itb, w_var, w_c, w_bin, w_un, w_cmpT, w_mB, w_chain, w_tru, w_andT, w_orT, w_notT, w_andV, w_orV, w_notV, w_if, w_nil, w_cons, w_tup, w_lst, w_lstM, w_call, w_fn, w_fnK, w_meth, w_noP, w_part, w_slice, w_rg1, w_lstRgM, w_lstRg, w_tupRg, w_gNm, w_gTu, w_gNil, w_gCons, w_gSb, w_skip, w_seq, w_asg, w_ret, w_drop, w_ifS, w_par2, w_par3, w_parN, w_runB, w_finV, w_finM, List.map, List.replicate, List.length, List.cons_append, List.nil_append, List.append_nil, List.getElem?_cons_zero, List.getElem?_cons_succ, List.set_cons_zero, List.set_cons_succ, setAll, pureTs, Option.map, cx2, e_are_facts hb, truD, h2]; simp) ?_
    cases h3 : areT z (List.replicate b.is.length 1) with
    | false =>
      refine guardT (by simp only [w_ok, w_bad, w_bind, w_bindN, w_toS, w_itb, w_var, w_c, w_bin, w_un, w_cmpT, w_mB, w_chain, w_tru, w_andT, w_orT, w_notT, w_andV, w_orV, w_notV, w_if, w_nil, w_cons, w_tup, w_lst, w_lstM, w_call, w_fn, w_fnK, w_meth, w_noP, w_part, w_slice, w_rg1, w_lstRgM, w_lstRg, w_tupRg, w_gNm, w_gTu, w_gNil, w_gCons, w_gSb, w_skip, w_seq, w_asg, w_ret, w_drop, w_ifS, w_par2, w_par3, w_parN, w_runB, w_finV, w_finM, List.map, List.replicate, List.length, List.cons_append, List.nil_append, List.append_nil, List.getElem?_cons_zero, List.getElem?_cons_succ, List.set_cons_zero, List.set_cons_succ, setAll, pureTs, Option.map, cx3, e_are_findings hb, truD, h3]; simp) ?_
      simp [w_ok, w_bad, w_bind, w_bindN, w_toS, w_itb, w_var, w_c, w_bin, w_un, w_cmpT, w_mB, w_chain, w_tru, w_andT, w_orT, w_notT, w_andV, w_orV, w_notV, w_if, w_nil, w_cons, w_tup, w_lst, w_lstM, w_call, w_fn, w_fnK, w_meth, w_noP, w_part, w_slice, w_rg1, w_lstRgM, w_lstRg, w_tupRg, w_gNm, w_gTu, w_gNil, w_gCons, w_gSb, w_skip, w_seq, w_asg, w_ret, w_drop, w_ifS, w_par2, w_par3, w_parN, w_runB, w_finV, w_finM, List.map, List.replicate, List.length, List.cons_append, List.nil_append, List.append_nil, List.getElem?_cons_zero, List.getElem?_cons_succ, List.set_cons_zero, List.set_cons_succ, setAll, pureTs, Option.map, take_all, flawC, h1, h2, h3, noteT]
      decide
    | true =>
    refine guardF (by simp only [w_ok, w_bad, w_bind, w_bindN, w_toS, w_itb, w_var, w_c, w_bin, w_un, w_cmpT, w_mB, w_chain, w_tru, w_andT, w_orT, w_notT, w_andV, w_orV, w_notV, w_if, w_nil, w_cons, w_tup, w_lst, w_lstM, w_call, w_fn, w_fnK, w_meth, w_noP, w_part, w_slice, w_rg1, w_lstRgM, w_lstRg, w_tupRg, w_gNm, w_gTu, w_gNil, w_gCons, w_gSb, w_skip, w_seq, w_asg, w_ret, w_drop, w_ifS, w_par2, w_par3, w_parN, w_runB, w_finV, w_finM, List.map, List.replicate, List.length, List.cons_append, List.nil_append, List.append_nil, List.getElem?_cons_zero, List.getElem?_cons_succ, List.set_cons_zero, List.set_cons_succ, setAll, pureTs, Option.map, cx3, e_are_findings hb, truD, h3]; simp) ?_
    have hwd : wd k sk = true ∧ True := ⟨by
      simp only [wd, wds, Bool.and_eq_true] at hv
      exact hv.2.2.2.2.2.2.1, trivial⟩
    cases r with
    | tuple rl =>
      by_cases hl : rl.length = b.is.length
      · refine guardF (by simp [w_ok, w_bad, w_bind, w_bindN, w_toS, w_itb, w_var, w_c, w_bin, w_un, w_cmpT, w_mB, w_chain, w_tru, w_andT, w_orT, w_notT, w_andV, w_orV, w_notV, w_if, w_nil, w_cons, w_tup, w_lst, w_lstM, w_call, w_fn, w_fnK, w_meth, w_noP, w_part, w_slice, w_rg1, w_lstRgM, w_lstRg, w_tupRg, w_gNm, w_gTu, w_gNil, w_gCons, w_gSb, w_skip, w_seq, w_asg, w_ret, w_drop, w_ifS, w_par2, w_par3, w_parN, w_runB, w_finV, w_finM, List.map, List.replicate, List.length, List.cons_append, List.nil_append, List.append_nil, List.getElem?_cons_zero, List.getElem?_cons_succ, List.set_cons_zero, List.set_cons_succ, setAll, pureTs, Option.map, cx4, ob2, e_is_tuple, truD, fLen, asSeq, iss_len, hl]) ?_
        obtain ⟨F, rfl, hFl, _⟩ : ∃ F : List Int, f = .tuple (F.map .int) ∧ F.length = b.ms.length ∧ True := by
          cases f with
          | tuple ts =>
            simp only [areT, Bool.and_eq_true, decide_eq_true_eq] at h2
            obtain ⟨l, e, hl, _⟩ := are_typed h2.1 h2.2
            exact ⟨l, by rw [e], hl, trivial⟩
          | _ => simp [areT] at h2
        obtain ⟨Z, rfl, hZl, hZ⟩ : ∃ Z : List Int, z = .tuple (Z.map .int) ∧ Z.length = b.is.length ∧ ∀ x ∈ Z, x = 0 ∨ x = 1 := by
          cases z with
          | tuple ts =>
            simp only [areT, Bool.and_eq_true, decide_eq_true_eq] at h3
            obtain ⟨l, e, hl, hb'⟩ := are_typed h3.1 h3.2
            rw [List.length_replicate] at hl
            refine ⟨l, by rw [e], hl, fun x hx => ?_⟩
            obtain ⟨j, hj, rfl⟩ := List.mem_iff_getElem.mp hx
            have := hb' j l[j] 1 (List.getElem?_eq_getElem hj) (by rw [List.getElem?_replicate, if_pos (by omega)])
            omega
          | _ => simp [areT] at h3
        have hfl : flawC b (.tuple [.str "case", ct, .tuple (F.map .int), .tuple (Z.map .int), .tuple rl, sk]) = (match firstBad (rAt b F Z) 0 rl with
            | some i => noteT "reason" (.int i)
            | none => if strk sk = true then .none else noteT "struck" .none) := by
          simp only [flawC, h1, h2, h3, hl, if_true, intsOf_map] <;> (generalize firstBad (rAt b F Z) 0 rl = q; cases q <;> rfl)
        rw [hfl]
        generalize hQ : (fun (d : D) (s : Sto) => d = D.v (match firstBad (rAt b F Z) 0 rl with
            | some i => noteT "reason" (.int i)
            | none => if strk sk = true then .none else noteT "struck" .none) ∧ s = st) = Q
        rw [w_seq, w_for]
        simp only [w_itE, w_cons, w_nil, w_bin, w_var, w_c, w_ok, cx4, asSeq, chkOf, List.getElem?_cons_zero, List.getElem?_cons_succ]
        refine for_inv (fun j env s => (∃ x3 x4, env = [some (.v b.t), some (.v (.tuple [.str "case", ct, .tuple (F.map .int), .tuple (Z.map .int), .tuple rl, sk])), x3, x4]) ∧ s = st ∧ firstBad (rAt b F Z) 0 rl = firstBad (rAt b F Z) j (rl.drop j)) _ 0 _ _ ⟨⟨_, _, rfl⟩, rfl, rfl⟩ (fun j t env s ht hI => ?_) fun env s hI => ?_
        · obtain ⟨⟨x3, x4, rfl⟩, rfl, hp⟩ := hI
          rw [Nat.zero_add] at hp ⊢
          obtain ⟨u, hu, rfl⟩ := en_get ht
          have hj := (List.getElem?_eq_some_iff.mp hu).1
          obtain ⟨gs, hgs⟩ : ∃ gs, b.is[j]? = some gs := ⟨_, List.getElem?_eq_getElem (by omega)⟩
          have hd : rl.drop j = u :: rl.drop (j + 1) := by
            rw [List.drop_eq_getElem_cons hj]
            have := (List.getElem?_eq_some_iff.mp hu).2
            rw [this]
          have hra : rAt b F Z j u = rOk b gs F Z (Z.getD j 0) u := by
            unfold rAt
            rw [List.getD_eq_getElem?_getD, hgs]; rfl
          simp only [w_gTu, w_gCons, w_gNil, w_gNm, w_ok, List.length, List.set_cons_succ, List.set_cons_zero]
          refine ⟨trivial, ?_⟩
          simp only [w_ifS, w_cmpT, w_fn, w_cons, w_nil, w_bin, w_var, w_c, w_ok, cx2, cx3, List.getElem?_cons_zero, List.getElem?_cons_succ, List.append_nil, List.length]
          refine ⟨trivial, EvO.imp (e_flaw_of_reason hb hgs hFl hZl) fun dd s1 ⟨q1, q2⟩ => ?_⟩
          subst q1
          rw [← hra] at q2
          simp only [opIsN, q2, w_ok, if_true]
          cases hrb : rAt b F Z j u with
          | false =>
            simp only [Bool.not_false, ↓reduceIte, SS, take_all]
            have : firstBad (rAt b F Z) 0 rl = some j := by rw [hp, hd, firstBad, hrb]; rfl
            subst hQ
            rw [this]
            first | exact ⟨by decide, rfl, rfl⟩ | exact ⟨rfl, take_all⟩ | exact ⟨by decide, rfl, take_all⟩
          | true =>
            simp only [Bool.not_true, Bool.false_eq_true, ↓reduceIte, SS]
            refine ⟨⟨_, _, rfl⟩, rfl, ?_⟩
            rw [hp, hd, firstBad, hrb, if_pos rfl]
        · obtain ⟨⟨x3, x4, rfl⟩, rfl, hp⟩ := hI
          rw [enT_len, Nat.zero_add, List.drop_length] at hp
          have hp : firstBad (rAt b F Z) 0 rl = none := by rw [hp]; rfl
          rw [hp] at hQ
          dsimp only at hQ
          have bad : strk sk = false → EvO (fin (List.length s) s (.v (noteT "struck" .none))) Q := fun h => by
            subst hQ
            rw [w_finV, take_all, h]
            exact ⟨rfl, rfl⟩
          have good : strk sk = true → EvO (fin (List.length s) s (.v .none)) Q := fun h => by
            subst hQ
            rw [w_finV, take_all, h]
            exact ⟨rfl, rfl⟩
          clear hQ
          have hwk := hwd.1
          simp only [w_ret, w_if, w_tru, w_fn, w_cons, w_nil, w_bin, w_var, w_c, w_tup, w_ok, cx5, pow40, e_is_lot hwk hk, truD, List.getElem?_cons_zero, List.getElem?_cons_succ, List.append_nil, List.length]
          refine ⟨trivial, ?_⟩
          cases hs : strk sk with
          | true => simp only [↓reduceIte]; exact good hs
          | false => simp only [Bool.false_eq_true, ↓reduceIte, pureTs, Option.map]; exact ⟨by decide, bad hs⟩
      · have hl' : ((rl.length : Int) == (b.is.length : Int)) = false := by simpa using (show (rl.length : Int) ≠ b.is.length by omega)
        refine guardT (by simp [w_ok, w_bad, w_bind, w_bindN, w_toS, w_itb, w_var, w_c, w_bin, w_un, w_cmpT, w_mB, w_chain, w_tru, w_andT, w_orT, w_notT, w_andV, w_orV, w_notV, w_if, w_nil, w_cons, w_tup, w_lst, w_lstM, w_call, w_fn, w_fnK, w_meth, w_noP, w_part, w_slice, w_rg1, w_lstRgM, w_lstRg, w_tupRg, w_gNm, w_gTu, w_gNil, w_gCons, w_gSb, w_skip, w_seq, w_asg, w_ret, w_drop, w_ifS, w_par2, w_par3, w_parN, w_runB, w_finV, w_finM, List.map, List.replicate, List.length, List.cons_append, List.nil_append, List.append_nil, List.getElem?_cons_zero, List.getElem?_cons_succ, List.set_cons_zero, List.set_cons_succ, setAll, pureTs, Option.map, cx4, ob2, e_is_tuple, truD, fLen, asSeq, iss_len, hl']) ?_
        simp [w_ok, w_bad, w_bind, w_bindN, w_toS, w_itb, w_var, w_c, w_bin, w_un, w_cmpT, w_mB, w_chain, w_tru, w_andT, w_orT, w_notT, w_andV, w_orV, w_notV, w_if, w_nil, w_cons, w_tup, w_lst, w_lstM, w_call, w_fn, w_fnK, w_meth, w_noP, w_part, w_slice, w_rg1, w_lstRgM, w_lstRg, w_tupRg, w_gNm, w_gTu, w_gNil, w_gCons, w_gSb, w_skip, w_seq, w_asg, w_ret, w_drop, w_ifS, w_par2, w_par3, w_parN, w_runB, w_finV, w_finM, List.map, List.replicate, List.length, List.cons_append, List.nil_append, List.append_nil, List.getElem?_cons_zero, List.getElem?_cons_succ, List.set_cons_zero, List.set_cons_succ, setAll, pureTs, Option.map, take_all, flawC, h1, h2, h3, hl, noteT]
        decide
    | _ =>
      refine guardT (by simp [w_ok, w_bad, w_bind, w_bindN, w_toS, w_itb, w_var, w_c, w_bin, w_un, w_cmpT, w_mB, w_chain, w_tru, w_andT, w_orT, w_notT, w_andV, w_orV, w_notV, w_if, w_nil, w_cons, w_tup, w_lst, w_lstM, w_call, w_fn, w_fnK, w_meth, w_noP, w_part, w_slice, w_rg1, w_lstRgM, w_lstRg, w_tupRg, w_gNm, w_gTu, w_gNil, w_gCons, w_gSb, w_skip, w_seq, w_asg, w_ret, w_drop, w_ifS, w_par2, w_par3, w_parN, w_runB, w_finV, w_finM, List.map, List.replicate, List.length, List.cons_append, List.nil_append, List.append_nil, List.getElem?_cons_zero, List.getElem?_cons_succ, List.set_cons_zero, List.set_cons_succ, setAll, pureTs, Option.map, cx4, ob2, e_is_tuple, truD, fLen, asSeq, iss_len]) ?_
      simp [w_ok, w_bad, w_bind, w_bindN, w_toS, w_itb, w_var, w_c, w_bin, w_un, w_cmpT, w_mB, w_chain, w_tru, w_andT, w_orT, w_notT, w_andV, w_orV, w_notV, w_if, w_nil, w_cons, w_tup, w_lst, w_lstM, w_call, w_fn, w_fnK, w_meth, w_noP, w_part, w_slice, w_rg1, w_lstRgM, w_lstRg, w_tupRg, w_gNm, w_gTu, w_gNil, w_gCons, w_gSb, w_skip, w_seq, w_asg, w_ret, w_drop, w_ifS, w_par2, w_par3, w_parN, w_runB, w_finV, w_finM, List.map, List.replicate, List.length, List.cons_append, List.nil_append, List.append_nil, List.getElem?_cons_zero, List.getElem?_cons_succ, List.set_cons_zero, List.set_cons_succ, setAll, pureTs, Option.map, take_all, flawC, h1, h2, h3, noteT]
      decide
  · have bf : EvO ((mOrT (mNotT (mTru (mFn 2 F_is_tuple (mCons (mVar 1) (mCons (mC (.v (.int 6))) mNil)) []))) (mOrT (mNotT (mTru (mCall fIsi (mCons (mBin opIx (mVar 1) (mC (.v (.int 0)))) (mCons (mC (.ty "str")) mNil))))) (mCmpT opNe (mBin opIx (mVar 1) (mC (.v (.int 0)))) (mC (.v (.str ("case" : Str))))))) [some (.v b.t), some (.v v), none, none] st) (fun k s => k = true ∧ s = st) ∧ flawC b v = noteT "form" .none := by
      cases v with
      | tuple ts =>
        by_cases h6 : ∃ a ct f z r sk, ts = [a, ct, f, z, r, sk]
        · obtain ⟨a, ct, f, z, r, sk, rfl⟩ := h6
          cases a with
          | str w =>
            have hw : ¬ w = "case" := fun e => hform ⟨ct, f, z, r, sk, by rw [e]⟩
            have hw2 : (w == "case") = false := by rw [beq_str, decide_eq_false hw]
            refine ⟨by simp [w_ok, w_bad, w_bind, w_bindN, w_toS, w_itb, w_var, w_c, w_bin, w_un, w_cmpT, w_mB, w_chain, w_tru, w_andT, w_orT, w_notT, w_andV, w_orV, w_notV, w_if, w_nil, w_cons, w_tup, w_lst, w_lstM, w_call, w_fn, w_fnK, w_meth, w_noP, w_part, w_slice, w_rg1, w_lstRgM, w_lstRg, w_tupRg, w_gNm, w_gTu, w_gNil, w_gCons, w_gSb, w_skip, w_seq, w_asg, w_ret, w_drop, w_ifS, w_par2, w_par3, w_parN, w_runB, w_finV, w_finM, List.map, List.replicate, List.length, List.cons_append, List.nil_append, List.append_nil, List.getElem?_cons_zero, List.getElem?_cons_succ, List.set_cons_zero, List.set_cons_succ, setAll, pureTs, Option.map, e_is_tuple, fIsi, tyD, tyT, subTy, truD, oq_str, cx0, hw2], by simp [flawC, hw]⟩
          | _ => exact ⟨by simp [w_ok, w_bad, w_bind, w_bindN, w_toS, w_itb, w_var, w_c, w_bin, w_un, w_cmpT, w_mB, w_chain, w_tru, w_andT, w_orT, w_notT, w_andV, w_orV, w_notV, w_if, w_nil, w_cons, w_tup, w_lst, w_lstM, w_call, w_fn, w_fnK, w_meth, w_noP, w_part, w_slice, w_rg1, w_lstRgM, w_lstRg, w_tupRg, w_gNm, w_gTu, w_gNil, w_gCons, w_gSb, w_skip, w_seq, w_asg, w_ret, w_drop, w_ifS, w_par2, w_par3, w_parN, w_runB, w_finV, w_finM, List.map, List.replicate, List.length, List.cons_append, List.nil_append, List.append_nil, List.getElem?_cons_zero, List.getElem?_cons_succ, List.set_cons_zero, List.set_cons_succ, setAll, pureTs, Option.map, e_is_tuple, fIsi, tyD, tyT, subTy, truD, oq_str, cx0], rfl⟩
        · have h6' : ts.length ≠ 6 := ne_six fun a b c d e f e' => h6 ⟨a, b, c, d, e, f, e'⟩
          have h7 : ((ts.length : Int) == 6) = false := by simpa using (show (ts.length : Int) ≠ 6 by omega)
          refine ⟨by simp [w_ok, w_bad, w_bind, w_bindN, w_toS, w_itb, w_var, w_c, w_bin, w_un, w_cmpT, w_mB, w_chain, w_tru, w_andT, w_orT, w_notT, w_andV, w_orV, w_notV, w_if, w_nil, w_cons, w_tup, w_lst, w_lstM, w_call, w_fn, w_fnK, w_meth, w_noP, w_part, w_slice, w_rg1, w_lstRgM, w_lstRg, w_tupRg, w_gNm, w_gTu, w_gNil, w_gCons, w_gSb, w_skip, w_seq, w_asg, w_ret, w_drop, w_ifS, w_par2, w_par3, w_parN, w_runB, w_finV, w_finM, List.map, List.replicate, List.length, List.cons_append, List.nil_append, List.append_nil, List.getElem?_cons_zero, List.getElem?_cons_succ, List.set_cons_zero, List.set_cons_succ, setAll, pureTs, Option.map, e_is_tuple, truD, h7], ?_⟩
          unfold flawC
          split
          · rename_i w ct f z r sk e
            cases e
            exact absurd rfl h6'
          · rfl
      | _ => exact ⟨by simp [w_ok, w_bad, w_bind, w_bindN, w_toS, w_itb, w_var, w_c, w_bin, w_un, w_cmpT, w_mB, w_chain, w_tru, w_andT, w_orT, w_notT, w_andV, w_orV, w_notV, w_if, w_nil, w_cons, w_tup, w_lst, w_lstM, w_call, w_fn, w_fnK, w_meth, w_noP, w_part, w_slice, w_rg1, w_lstRgM, w_lstRg, w_tupRg, w_gNm, w_gTu, w_gNil, w_gCons, w_gSb, w_skip, w_seq, w_asg, w_ret, w_drop, w_ifS, w_par2, w_par3, w_parN, w_runB, w_finV, w_finM, List.map, List.replicate, List.length, List.cons_append, List.nil_append, List.append_nil, List.getElem?_cons_zero, List.getElem?_cons_succ, List.set_cons_zero, List.set_cons_succ, setAll, pureTs, Option.map, e_is_tuple, truD], rfl⟩
    obtain ⟨h1, h2⟩ := bf
    refine guardT h1 ?_
    rw [h2]
    simp [w_ok, w_bad, w_bind, w_bindN, w_toS, w_itb, w_var, w_c, w_bin, w_un, w_cmpT, w_mB, w_chain, w_tru, w_andT, w_orT, w_notT, w_andV, w_orV, w_notV, w_if, w_nil, w_cons, w_tup, w_lst, w_lstM, w_call, w_fn, w_fnK, w_meth, w_noP, w_part, w_slice, w_rg1, w_lstRgM, w_lstRg, w_tupRg, w_gNm, w_gTu, w_gNil, w_gCons, w_gSb, w_skip, w_seq, w_asg, w_ret, w_drop, w_ifS, w_par2, w_par3, w_parN, w_runB, w_finV, w_finM, List.map, List.replicate, List.length, List.cons_append, List.nil_append, List.append_nil, List.getElem?_cons_zero, List.getElem?_cons_succ, List.set_cons_zero, List.set_cons_succ, setAll, pureTs, Option.map, take_all, noteT]
    decide
/-! from outside -/
theorem book_any (hb : b.ok) : F_is_book_any [.v b.t] st = .ok (.v (.bool true)) st := by
  rw [e_is_book_any (lv_fineB hb.okt.l)]
  simp only [isB, hb.fl]
theorem e_want_book (hb : b.ok) : F_want_book [.v b.t] st = .ok (.v .none) st := by
  apply eqn_of
  unfold F_want_book m_want_book
  simp [w_ok, w_bad, w_bind, w_bindN, w_toS, w_itb, w_var, w_c, w_bin, w_un, w_cmpT, w_mB, w_chain, w_tru, w_andT, w_orT, w_notT, w_andV, w_orV, w_notV, w_if, w_nil, w_cons, w_tup, w_lst, w_lstM, w_call, w_fn, w_fnK, w_meth, w_noP, w_part, w_slice, w_rg1, w_lstRgM, w_lstRg, w_tupRg, w_gNm, w_gTu, w_gNil, w_gCons, w_gSb, w_skip, w_seq, w_asg, w_ret, w_drop, w_ifS, w_par2, w_par3, w_parN, w_runB, w_finV, w_finM, List.map, List.replicate, List.length, List.cons_append, List.nil_append, List.append_nil, List.getElem?_cons_zero, List.getElem?_cons_succ, List.set_cons_zero, List.set_cons_succ, setAll, pureTs, Option.map, book_any hb, truD, take_all]
theorem e_case_flaw (hb : b.ok) {k : Nat} (hv : wd k v = true) (hk : k ≤ 60) : F_case_flaw [.v b.t, .v v] st = .ok (.v (flawC b v)) st := by
  apply eqn_of
  unfold F_case_flaw m_case_flaw
  simp [w_ok, w_bad, w_bind, w_bindN, w_toS, w_itb, w_var, w_c, w_bin, w_un, w_cmpT, w_mB, w_chain, w_tru, w_andT, w_orT, w_notT, w_andV, w_orV, w_notV, w_if, w_nil, w_cons, w_tup, w_lst, w_lstM, w_call, w_fn, w_fnK, w_meth, w_noP, w_part, w_slice, w_rg1, w_lstRgM, w_lstRg, w_tupRg, w_gNm, w_gTu, w_gNil, w_gCons, w_gSb, w_skip, w_seq, w_asg, w_ret, w_drop, w_ifS, w_par2, w_par3, w_parN, w_runB, w_finV, w_finM, List.map, List.replicate, List.length, List.cons_append, List.nil_append, List.append_nil, List.getElem?_cons_zero, List.getElem?_cons_succ, List.set_cons_zero, List.set_cons_succ, setAll, pureTs, Option.map, e_want_book hb, e_flaw_of_case hb hv hk, take_all]
def isNo (t : T) : Bool := match t with
  | .none => true
  | _ => false
theorem isN_v {t : T} : isNoneD (.v t) = isNo t := by cases t <;> rfl
theorem e_is_case (hb : b.ok) {k : Nat} (hv : wd k v = true) (hk : k ≤ 60) : F_is_case [.v b.t, .v v] st = .ok (.v (.bool (isNo (flawC b v)))) st := by
  apply eqn_of
  unfold F_is_case m_is_case
  simp [w_ok, w_bad, w_bind, w_bindN, w_toS, w_itb, w_var, w_c, w_bin, w_un, w_cmpT, w_mB, w_chain, w_tru, w_andT, w_orT, w_notT, w_andV, w_orV, w_notV, w_if, w_nil, w_cons, w_tup, w_lst, w_lstM, w_call, w_fn, w_fnK, w_meth, w_noP, w_part, w_slice, w_rg1, w_lstRgM, w_lstRg, w_tupRg, w_gNm, w_gTu, w_gNil, w_gCons, w_gSb, w_skip, w_seq, w_asg, w_ret, w_drop, w_ifS, w_par2, w_par3, w_parN, w_runB, w_finV, w_finM, List.map, List.replicate, List.length, List.cons_append, List.nil_append, List.append_nil, List.getElem?_cons_zero, List.getElem?_cons_succ, List.set_cons_zero, List.set_cons_succ, setAll, pureTs, Option.map, e_want_book hb, e_flaw_of_case hb hv hk, take_all, opIsN, isN_v]
end
end Law

namespace Law
open PySem PL
open L2 (atI ixN CDiv CMul CPow RgOk)
/-! ### making cases -/
theorem lc_inv2 {env : EnvD} {g : MG} {e : ME D} (I : Sto → Prop) (R : T → T → Prop) {QT : List T → Sto → Prop} : ∀ (ts : List T) (st : Sto), I st → (∀ t ∈ ts, ∀ st, I st → EvO (g (.v t) env st) fun e1 s1 => EvO (e e1 s1) fun d s3 => I s3 ∧ ∃ y, d = .v y ∧ R t y) →
    (∀ ys st, ys.length = ts.length → (∀ (i : Nat) t y, ts[i]? = some t → ys[i]? = some y → R t y) → I st → QT ys st) → EvO (lcGo none g mYes e env ts st) QT
  | [], st, hi, _, h => h [] st rfl (fun i t y e => by simp at e) hi
  | t :: ts, st, hi, ht, h => by
    rw [w_lcC]
    refine EvO.imp (ht t List.mem_cons_self st hi) fun e1 s1 q => ?_
    show EvO (.ok true s1) _
    rw [w_ok, if_pos rfl]
    refine EvO.imp q fun d s3 ⟨h3, y, ey, py⟩ => ?_
    subst ey
    refine lc_inv2 I R ts s3 h3 (fun t' ht' => ht t' (List.mem_cons_of_mem _ ht')) fun ys st hl hp hi' => h (y :: ys) st (by simp [hl]) (fun i t' y' e1 e2 => ?_) hi'
    cases i with
    | zero => simp at e1 e2; subst e1 e2; exact py
    | succ i => exact hp i t' y' (by simpa using e1) (by simpa using e2)
theorem ints_of {R : Nat → Int → Prop} : ∀ (ys : List T), (∀ (i : Nat) y, ys[i]? = some y → ∃ x : Int, y = .int x ∧ R i x) → ∃ l : List Int, ys = l.map .int ∧ ∀ (i : Nat) x, l[i]? = some x → R i x
  | [], _ => ⟨[], rfl, fun i x h => by simp at h⟩
  | y :: ys, h => by
    obtain ⟨x, rfl, hx⟩ := h 0 y rfl
    obtain ⟨l, rfl, hl⟩ := ints_of (R := fun i x => R (i + 1) x) ys fun i y e => h (i + 1) y (by simpa using e)
    refine ⟨x :: l, rfl, fun i z hz => ?_⟩
    cases i with
    | zero => simp at hz; subst hz; exact hx
    | succ i => exact hl i z (by simpa using hz)
section
variable {n : Nat} {st s0 : Sto} {b : Bk}
theorem facts_ok (hn : n < List.length st) (h0 : Pt n st s0) (hb : b.ok) : EvO (F_lw_facts [.ref n, .v b.t] s0) fun d s => Pt n st s ∧ ∃ fs : List Int, d = .v (.tuple (fs.map .int)) ∧ fs.length = b.ms.length ∧ ∀ (j : Nat) x m, fs[j]? = some x → b.ms[j]? = some m → 0 ≤ x ∧ x ≤ m := by
  have hm := hb.msl
  unfold F_lw_facts m_lw_facts
  simp only [w_runB, w_ret, w_call, w_cons, w_nil, w_bind, w_lc, w_itS, w_bin, w_var, w_c, w_ok, ob1, asSeq, chkOf, List.map, List.replicate, List.length, List.cons_append, List.nil_append, List.getElem?_cons_zero, List.getElem?_cons_succ]
  refine ⟨small_len (m := 100) (by rw [bk_ms]; omega), ?_⟩
  refine lc_inv2 (Pt n st) (fun t y => ∃ m x : Int, t = .int m ∧ y = .int x ∧ 0 ≤ x ∧ x ≤ m) _ _ h0 (fun t ht s hp => ?_) fun ys s hl hR hp => ?_
  · obtain ⟨m, hm', rfl⟩ := List.mem_map.mp ht
    have := hb.ms m hm'
    simp only [wipeD, w_gNm, w_bin, w_c, w_fn, w_var, w_cons, w_nil, w_ok, opAdd, List.append_nil, List.length, List.getElem?_cons_zero, List.getElem?_cons_succ, List.set_cons_zero, List.set_cons_succ, List.foldl]
    refine ⟨trivial, EvO.imp (draw_pt hn hp (by omega) (by omega)) fun a s ⟨hp, t1, e, t0, t2⟩ => ⟨hp, _, e, m, t1, rfl, rfl, t0, by omega⟩⟩
  · obtain ⟨fs, rfl, hfs⟩ := ints_of (R := fun i x => ∀ m, b.ms[i]? = some m → 0 ≤ x ∧ x ≤ m) ys fun i y hy => by
      have hi : i < b.ms.length := by
        have := (List.getElem?_eq_some_iff.mp hy).1
        rw [hl, bk_ms] at this
        exact this
      obtain ⟨m, x, e1, e2, h1, h2⟩ := hR i (.int b.ms[i]) y (by simp [hi]) hy
      cases e1
      refine ⟨x, e2, fun m hm => ?_⟩
      rw [List.getElem?_eq_getElem hi] at hm
      cases hm
      exact ⟨h1, h2⟩
    simp only [finF, fTup, asL, asLt, w_ok, w_finV]
    refine ⟨?_, fs, rfl, by simpa using hl, fun j x m h1 h2 => hfs j x h1 m h2⟩
    rw [List.take_of_length_le (by rw [hp.len, h0.len]; exact Nat.le_refl _)]
    exact hp
theorem findings_ok (hn : n < List.length st) (h0 : Pt n st s0) (hb : b.ok) : EvO (F_lw_findings [.ref n, .v b.t] s0) fun d s => Pt n st s ∧ ∃ zs : List Int, d = .v (.tuple (zs.map .int)) ∧ zs.length = b.is.length ∧ ∀ x ∈ zs, x = 0 ∨ x = 1 := by
  have hm := hb.isl
  unfold F_lw_findings m_lw_findings
  simp only [w_runB, w_ret, w_call, w_cons, w_nil, w_bind, w_lc, w_itS, w_bin, w_var, w_c, w_ok, ob2, asSeq, chkOf, List.map, List.replicate, List.length, List.cons_append, List.nil_append, List.getElem?_cons_zero, List.getElem?_cons_succ]
  refine ⟨small_len (m := 100) (by rw [iss_len]; omega), ?_⟩
  refine lc_inv2 (Pt n st) (fun t y => ∃ x : Int, y = .int x ∧ (x = 0 ∨ x = 1)) _ _ h0 (fun t ht s hp => ?_) fun ys s hl hR hp => ?_
  · simp only [wipeD, w_gNm, w_bin, w_c, w_fn, w_var, w_cons, w_nil, w_ok, opAdd, List.append_nil, List.length, List.getElem?_cons_zero, List.getElem?_cons_succ, List.set_cons_zero, List.set_cons_succ, List.foldl]
    refine ⟨trivial, EvO.imp (draw_pt hn hp (by omega) (by omega)) fun a s ⟨hp, t1, e, t0, t2⟩ => ⟨hp, _, e, t1, rfl, by omega⟩⟩
  · obtain ⟨zs, rfl, hzs⟩ := ints_of (R := fun i x => x = 0 ∨ x = 1) ys fun i y hy => by
      have hi := (List.getElem?_eq_some_iff.mp hy).1
      rw [hl] at hi
      exact hR i _ y (List.getElem?_eq_getElem hi) hy
    simp only [finF, fTup, asL, asLt, w_ok, w_finV]
    refine ⟨?_, zs, rfl, by rw [iss_len] at hl; simpa using hl, fun x hx => ?_⟩
    · rw [List.take_of_length_le (by rw [hp.len, h0.len]; exact Nat.le_refl _)]
      exact hp
    · obtain ⟨j, hj⟩ := List.getElem?_of_mem hx
      exact hzs j x hj
end
end Law

namespace Law
open PySem PL
open L2 (atI ixN CDiv CMul CPow RgOk)
section
variable {n : Nat} {st s0 : Sto} {b : Bk} {fs zs : List Int} {i : Nat} {gs : List Gr}
/-- facts and findings that fit a book -/
structure Fit (b : Bk) (fs zs : List Int) : Prop where
  fl : fs.length = b.ms.length
  fb : ∀ (j : Nat) x m, fs[j]? = some x → b.ms[j]? = some m → 0 ≤ x ∧ x ≤ m
  zl : zs.length = b.is.length
  zb : ∀ x ∈ zs, x = 0 ∨ x = 1
theorem most_bd (hb : b.ok) {g : Gr} (hg : Gr.ok b.ms.length b.is.length g) : 1 ≤ mostG b.ms g ∧ mostG b.ms g ≤ 9 := by
  unfold mostG
  cases hf : g.fact with
  | true =>
    have := hg.1 hf
    have hl : g.num < b.ms.length := by omega
    have h2 := hb.ms (b.ms.getD g.num 0) (by simp [hl])
    simp only [↓reduceIte]
    exact h2
  | false => simp
theorem amt_bd (hb : b.ok) (F : Fit b fs zs) {g : Gr} (hg : Gr.ok b.ms.length b.is.length g) : 0 ≤ amtG b.ms fs zs g ∧ amtG b.ms fs zs g ≤ mostG b.ms g := by
  obtain ⟨h1, h2, h3⟩ := hg
  have key : 0 ≤ (if g.fact = true then fs.getD g.num 0 else zs.getD g.num 0) ∧ (if g.fact = true then fs.getD g.num 0 else zs.getD g.num 0) ≤ mostG b.ms g := by
    unfold mostG
    cases hf : g.fact with
    | true =>
      have := h1 hf
      have hl : g.num < b.ms.length := by omega
      have := F.fb g.num _ _ (get_d (l := fs) (i := g.num) (by rw [F.fl]; exact hl)) (get_d hl)
      simpa using this
    | false =>
      have := h2 hf
      have hl : g.num < zs.length := by rw [F.zl]; omega
      have := F.zb (zs.getD g.num 0) (by simp [hl])
      simp only [Bool.false_eq_true, ↓reduceIte]
      omega
  unfold amtG
  split <;> omega
theorem reason_ok (hn : n < List.length st) (h0 : Pt n st s0) (hb : b.ok) (F : Fit b fs zs) (hg : b.is[i]? = some gs) : EvO (F_lw_reason [.ref n, .v b.t, .v (.tuple (fs.map .int)), .v (.tuple (zs.map .int)), .v (.int i)] s0) fun d s =>
    Pt n st s ∧ ∃ rs : List Int, d = .v (.tuple (rs.map .int)) ∧ rs.length = gs.length ∧ (∀ x ∈ rs, 0 ≤ x ∧ x ≤ 9) ∧ rOk b gs fs zs (zs.getD i 0) (.tuple (rs.map .int)) = true := by
  obtain ⟨⟨_, hl8⟩, hgr⟩ := hb.at hg
  have hi : i < zs.length := by rw [F.zl]; exact (List.getElem?_eq_some_iff.mp hg).1
  have hfi : zs.getD i 0 = 0 ∨ zs.getD i 0 = 1 := F.zb _ (by simp [hi])
  unfold F_lw_reason m_lw_reason
  rw [w_runB]
  simp only [List.map, List.replicate, List.length, List.cons_append, List.nil_append]
  obtain ⟨P, hP⟩ : ∃ P, P = gs.map (amtG b.ms fs zs) := ⟨_, rfl⟩
  have hPl : P.length = gs.length := by rw [hP]; simp
  have ep := fun st => e_lw_point hb hg F.fl F.zl (st := st)
  rw [← hP] at ep
  obtain ⟨M, hM⟩ : ∃ M, M = gs.map (mostG b.ms) := ⟨_, rfl⟩
  have hMl : M.length = gs.length := by rw [hM]; simp
  have em := fun st => e_lw_mosts hb hg (st := st)
  rw [← hM] at em
  have a1 := at_map (l := zs) hi
  obtain ⟨fi, hfe⟩ : ∃ fi, fi = zs.getD i 0 := ⟨_, rfl⟩
  rw [← hfe] at a1 hfi ⊢
  rw [w_seq, w_par2]
  simp only [w_cons, w_nil, w_fn, w_lstM, w_var, w_ok, ep, pureTs, List.append_nil, List.length, List.getElem?_cons_zero, List.getElem?_cons_succ, List.set_cons_succ, List.set_cons_zero]
  refine ⟨trivial, by decide, ?_⟩
  rw [w_seq, w_for]
  simp only [w_itZ3, w_cons, w_nil, w_fn, w_bin, w_var, w_c, w_ok, em, ob2, ox (at_iss hg), asSeq, noRef, List.append_nil, List.length, List.getElem?_cons_zero, List.getElem?_cons_succ]
  refine ⟨trivial, ⟨trivial, trivial, trivial⟩, ?_⟩
  have e0 : ∀ {s1 : Sto} (l : List T), Pt n st s1 → (s1 ++ [MO.lst l])[List.length s0]? = some (.lst l) := fun l hp => by rw [h0.len, ← hp.len, List.getElem?_append_right (Nat.le_refl _), Nat.sub_self]; rfl
  have e9 : ∀ {s1 : Sto} (l : List T) (x : MO), Pt n st s1 → List.set (s1 ++ [MO.lst l]) (List.length s0) x = s1 ++ [x] := fun l x hp => by rw [h0.len, ← hp.len, List.set_append_right _ _ (Nat.le_refl _), Nat.sub_self]; rfl
  refine for_inv (fun j env s => (∃ x7 x8 x9 x10 x11, env = [some (.ref n), some (.v b.t), some (.v (.tuple (fs.map .int))), some (.v (.tuple (zs.map .int))), some (.v (.int i)), some (.v (.tuple (P.map .int))), some (.ref (List.length s0)), x7, x8, x9, x10, x11]) ∧
    ∃ (s1 : Sto) (rs : List Int), s = s1 ++ [.lst (rs.map .int)] ∧ Pt n st s1 ∧ rs.length = j ∧ ∀ (m : Nat) g x, gs[m]? = some g → rs[m]? = some x → 0 ≤ x ∧ x ≤ mostG b.ms g ∧ brn fi g.side (amtG b.ms fs zs g) x = true) _ 0 _ _ ⟨⟨_, _, _, _, _, rfl⟩, s0, [], rfl, h0, rfl, fun m g x _ e => by simp at e⟩ (fun j t env s ht hI => ?_) fun env s hI => ?_
  · obtain ⟨⟨x7, x8, x9, x10, x11, rfl⟩, s1, rs, rfl, hp, hrl, hrs⟩ := hI
    rw [Nat.zero_add] at hrl ⊢
    obtain ⟨u1, u2, u3, e1, e2, e3, rfl⟩ := zipT3_get _ _ _ _ _ ht
    rw [List.getElem?_map] at e1 e2 e3
    obtain ⟨g, hgj, rfl⟩ := Option.map_eq_some_iff.mp e1
    obtain ⟨o, ho, rfl⟩ := Option.map_eq_some_iff.mp e2
    obtain ⟨m, hm, rfl⟩ := Option.map_eq_some_iff.mp e3
    have ho' : o = amtG b.ms fs zs g := by
      rw [hP, List.getElem?_map, hgj] at ho
      exact (Option.some.inj ho).symm
    have hm' : m = mostG b.ms g := by
      rw [hM, List.getElem?_map, hgj] at hm
      exact (Option.some.inj hm).symm
    have hgo := hgr g (List.mem_of_getElem? hgj)
    obtain ⟨b1, b2⟩ := amt_bd hb F hgo
    obtain ⟨b3, b4⟩ := most_bd hb hgo
    rw [← ho'] at b1 b2
    rw [← hm'] at b2 b3 b4
    have hjl : j < gs.length := (List.getElem?_eq_some_iff.mp hgj).1
    have lb : (rs.map PyData.int).length < sizeLine := Nat.lt_of_le_of_lt (show (rs.map PyData.int).length ≤ 100 by rw [List.length_map]; omega) (by decide)
    have done : ∀ (s2 : Sto) (x : Int), Pt n st s2 → 0 ≤ x → x ≤ m → brn fi g.side o x = true → ∃ (s1 : Sto) (rs' : List Int), s2 ++ [MO.lst (rs.map PyData.int ++ [.int x])] = s1 ++ [.lst (rs'.map .int)] ∧ Pt n st s1 ∧ rs'.length = j + 1 ∧ ∀ (m : Nat) g x, gs[m]? = some g → rs'[m]? = some x → 0 ≤ x ∧ x ≤ mostG b.ms g ∧ brn fi g.side (amtG b.ms fs zs g) x = true := fun s2 x hp2 x0 x1 xb => by
      refine ⟨s2, rs ++ [x], by simp, hp2, by simp [hrl], fun k g' y q1 q2 => ?_⟩
      rw [List.getElem?_append] at q2
      by_cases hk : k < rs.length
      · rw [if_pos hk] at q2; exact hrs k g' y q1 q2
      · rw [if_neg hk] at q2
        have hk2 : k - rs.length < 1 := by simpa using (List.getElem?_eq_some_iff.mp q2).1
        have : k = j := by omega
        subst this
        rw [hgj] at q1
        cases q1
        have : k - rs.length = 0 := by omega
        rw [this] at q2
        cases q2
        rw [← ho', ← hm']
        exact ⟨x0, x1, xb⟩
    simp only [Gr.t, w_gTu, w_gCons, w_gNil, w_gNm, w_ok, List.length, List.set_cons_succ, List.set_cons_zero]
    refine ⟨trivial, trivial, ?_⟩
    rw [w_ifS]
    simp only [w_orT, w_cmpT, w_bin, w_var, w_c, w_ok, ox a1, oq_int, List.getElem?_cons_zero, List.getElem?_cons_succ, if_true]
    have keepOwn : ∀ s2, Pt n st s2 → EvS (mDrop (mMeth fAppend (mVar 6) (mCons (mVar 7) mNil)) [some (.ref n), some (.v b.t), some (.v (.tuple (fs.map .int))), some (.v (.tuple (zs.map .int))), some (.v (.int i)), some (.v (.tuple (P.map .int))), some (.ref (List.length s0)), some (.v (.int o)), some (.v (.int m)), some (.v (.str (if g.fact = true then "fact" else "issue"))), some (.v (.int g.num)), some (.v (.int g.side))] (s2 ++ [.lst (rs.map .int)]))
        ⟨fun env s => (∃ x7 x8 x9 x10 x11, env = [some (.ref n), some (.v b.t), some (.v (.tuple (fs.map .int))), some (.v (.tuple (zs.map .int))), some (.v (.int i)), some (.v (.tuple (P.map .int))), some (.ref (List.length s0)), x7, x8, x9, x10, x11]) ∧
    ∃ (s1 : Sto) (rs : List Int), s = s1 ++ [.lst (rs.map .int)] ∧ Pt n st s1 ∧ rs.length = j + 1 ∧ ∀ (m : Nat) g x, gs[m]? = some g → rs[m]? = some x → 0 ≤ x ∧ x ≤ mostG b.ms g ∧ brn fi g.side (amtG b.ms fs zs g) x = true, fun _ _ => False, fun _ _ => False, fun _ _ => False⟩ := fun s2 hp2 => by
      simp only [w_drop, w_meth, w_cons, w_nil, w_var, w_ok, asL, asLt, e0 _ hp2, e9 _ _ hp2, fAppend, onRef, w_itb, List.getElem?_cons_zero, List.getElem?_cons_succ]
      exact ⟨lb, ⟨_, _, _, _, _, rfl⟩, done s2 o hp2 b1 b2 (by unfold brn; split <;> (try split) <;> simp)⟩
    cases hs : (g.side == fi) with
    | false =>
      simp only [Bool.not_false, ↓reduceIte]
      exact EvS.imp (keepOwn s1 hp) (fun e s q => q) (fun d s q => q.elim) (fun e s q => q.elim) (fun e s q => q.elim)
    | true =>
      have hs' : g.side = fi := by simpa using hs
      simp only [Bool.not_true, Bool.false_eq_true, ↓reduceIte, w_fn, w_cons, w_nil, w_var, w_c, w_ok, List.append_nil, List.length, List.getElem?_cons_zero, List.getElem?_cons_succ]
      refine ⟨trivial, EvO.imp (draw_app hn hp (by omega) (by omega)) fun a s ⟨s2, e1, hp2, w, e, w0, w1⟩ => ?_⟩
      subst e e1
      simp only [oq_int, w_ok, Bool.false_eq_true, if_false]
      cases hw : (w == 0) with
      | true =>
        simp only [↓reduceIte]
        exact EvS.imp (keepOwn s2 hp2) (fun e s q => q) (fun d s q => q.elim) (fun e s q => q.elim) (fun e s q => q.elim)
      | false =>
        simp only [Bool.false_eq_true, ↓reduceIte, w_drop, w_meth, w_cons, w_nil, w_if, w_cmpT, w_var, w_c, w_ok, asL, asLt, e0 _ hp2, oq_int, List.getElem?_cons_zero, List.getElem?_cons_succ]
        rcases hfi with hf0 | hf1
        · have h1 : (g.side == 1) = false := by rw [hs', hf0]; rfl
          simp only [h1, Bool.false_eq_true, ↓reduceIte, w_bin, w_fn, w_cons, w_nil, w_var, w_c, w_ok, opSub, opI0, opAdd, List.append_nil, List.length, List.getElem?_cons_zero, List.getElem?_cons_succ]
          refine ⟨trivial, EvO.imp (draw_app hn hp2 (by omega) (by omega)) fun a s ⟨s3, e1, hp3, r, e, r0, r1⟩ => ?_⟩
          subst e e1
          simp only [w_ok, fAppend, onRef, e0 _ hp3, e9 _ _ hp3, w_itb]
          exact ⟨lb, ⟨_, _, _, _, _, rfl⟩, done s3 (o + r) hp3 (by omega) (by omega) (by unfold brn; rw [if_pos hs', if_neg (by omega)]; simp; omega)⟩
        · have h1 : (g.side == 1) = true := by rw [hs', hf1]; rfl
          simp only [h1, ↓reduceIte, w_bin, w_fn, w_cons, w_nil, w_var, w_c, w_ok, opSub, opI0, opAdd, List.append_nil, List.length, List.getElem?_cons_zero, List.getElem?_cons_succ]
          refine ⟨trivial, EvO.imp (draw_app hn hp2 (by omega) (by omega)) fun a s ⟨s3, e1, hp3, r, e, r0, r1⟩ => ?_⟩
          subst e e1
          simp only [w_ok, fAppend, onRef, e0 _ hp3, e9 _ _ hp3, w_itb]
          exact ⟨lb, ⟨_, _, _, _, _, rfl⟩, done s3 r hp3 (by omega) (by omega) (by unfold brn; rw [if_pos hs', if_pos hf1]; simp; omega)⟩
  · obtain ⟨⟨x7, x8, x9, x10, x11, rfl⟩, s1, rs, rfl, hp, hrl, hrs⟩ := hI
    rw [zipT3_len, List.length_map, List.length_map, List.length_map, Nat.zero_add] at hrl
    have hrl2 : rs.length = gs.length := by omega
    simp only [w_ret, w_call, w_cons, w_nil, w_var, w_ok, List.getElem?_cons_zero, List.getElem?_cons_succ, fTup, asL, asLt, e0 _ hp, w_finV]
    refine ⟨?_, rs, rfl, hrl2, fun x hx => ?_, ?_⟩
    · rw [h0.len, ← hp.len, List.take_left]; exact hp
    · obtain ⟨k, hk, rfl⟩ := List.mem_iff_getElem.mp hx
      have hkg : k < gs.length := by omega
      have q1 := hrs k gs[k] rs[k] (List.getElem?_eq_getElem hkg) (List.getElem?_eq_getElem hk)
      have q2 := most_bd hb (hgr gs[k] (List.getElem_mem hkg))
      omega
    · unfold rOk
      rw [Bool.and_eq_true]
      constructor
      · simp only [areT, Bool.and_eq_true, decide_eq_true_eq]
        refine ⟨by simp; omega, are_of (by simp; omega) fun k x m q1 q2 => ?_⟩
        rw [List.getElem?_map] at q2
        obtain ⟨g, hg', rfl⟩ := Option.map_eq_some_iff.mp q2
        have := hrs k g x hg' q1
        exact ⟨this.1, this.2.1⟩
      · rw [intsOf_map]
        refine brn_iff.mpr fun k g o x q1 q2 q3 => ?_
        rw [List.getElem?_map, q1] at q2
        cases q2
        exact (hrs k g x q1 q3).2.2
end
end Law

namespace Law
open PySem PL
open L2 (atI ixN CDiv CMul CPow RgOk)
theorem firstBad_none {p : Nat → T → Bool} : ∀ (ts : List T) (k : Nat), (∀ (i : Nat) t, ts[i]? = some t → p (k + i) t = true) → firstBad p k ts = none
  | [], _, _ => rfl
  | t :: ts, k, h => by
    rw [firstBad, if_pos (by simpa using h 0 t rfl)]
    exact firstBad_none ts (k + 1) fun i t e => by
      have := h (i + 1) t (by simpa using e)
      rwa [show k + (i + 1) = k + 1 + i by omega] at this
theorem okI {N c d k : Nat} {i : Int} (h : -20 < i ∧ i < 20) (hN : 20 ≤ N) : OkT N c d k (.int i) :=
  ⟨rfl, by simp [lv]; omega, by simp [PyData.bulk], by simp [PyData.depth]⟩
theorem ok_ints {N k m : Nat} {l : List Int} (h : ∀ x ∈ l, -20 < x ∧ x < 20) (hN : 20 ≤ N) (hm : l.length ≤ m) (hk : m ≤ k) : OkT N m 1 k (.tuple (l.map .int)) := by
  have := OkL.all (n := N) (c := 0) (d := 0) (k0 := k) (k := m) (us := l.map .int) (fun t ht => by
    obtain ⟨x, hx, rfl⟩ := List.mem_map.mp ht
    exact okI (h x hx) hN) (by simpa using hm)
  exact (OkT.tup this (by simp; omega)).mono
theorem rg_at {a b : Int} {i : Nat} (h : a + i < b) : (rgT a b)[i]? = some (.int (a + i)) := by
  have hi : i < (rgT a b).length := by rw [rg_len]; omega
  have := List.getElem?_eq_getElem hi
  rw [this, (rg_get this).1]
structure CaseOk (b : Bk) (v : T) : Prop where
  fl : flawC b v = .none
  ok : OkT (10 ^ 30) 100 3 8 v
  sh : ∃ ts : List T, v = .tuple ts ∧ ts.length = 6
section
variable {n : Nat} {st s0 : Sto} {b : Bk} {sk : T}
theorem case_ok (hn : n < List.length st) (h0 : Pt n st s0) (hb : b.ok) (hs : strk sk = true) (hso : OkT (10 ^ 30) 20 1 8 sk) : EvO (F_lw_case [.ref n, .v b.t, .v sk] s0) fun d s => Pt n st s ∧ ∃ v, d = .v v ∧ CaseOk b v := by
  have hms := hb.msl
  have his := hb.isl
  have hcs := hb.csl
  unfold F_lw_case m_lw_case
  rw [w_runB]
  simp only [List.map, List.replicate, List.length, List.cons_append, List.nil_append]
  rw [w_seq, w_parN]
  simp only [w_cons, w_nil, w_fn, w_var, w_ok, List.append_nil, List.length, List.getElem?_cons_zero, List.getElem?_cons_succ]
  refine ⟨trivial, EvO.imp (facts_ok hn h0 hb) fun a s1 ⟨h1, fs, e, hfl, hfb⟩ => ?_⟩
  subst e
  refine ⟨trivial, EvO.imp (findings_ok hn h1 hb) fun a s2 ⟨h2, zs, e, hzl, hzb⟩ => ?_⟩
  subst e
  have F : Fit b fs zs := ⟨hfl, hfb, hzl, hzb⟩
  refine ⟨⟨trivial, by decide⟩, ?_⟩
  simp only [setAll, List.set_cons_succ, List.set_cons_zero]
  rw [w_seq, w_asg]
  simp only [w_call, w_cons, w_nil, w_bind, w_lc, w_itR1, w_bin, w_var, w_c, w_ok, ob2, fLen, asSeq, iss_len, List.getElem?_cons_zero, List.getElem?_cons_succ]
  refine ⟨by omega, by rw [rg_len]; exact small_len (m := 100) (by omega), ?_⟩
  refine lc_inv2 (Pt n st) (fun t y => ∃ (i : Nat) (gs : List Gr) (rs : List Int), t = .int i ∧ b.is[i]? = some gs ∧ y = .tuple (rs.map .int) ∧ rs.length ≤ 8 ∧ (∀ x ∈ rs, 0 ≤ x ∧ x ≤ 9) ∧ rOk b gs fs zs (zs.getD i 0) y = true) _ _ h2 (fun t ht s hp => ?_) fun ys s hl hR hp => ?_
  · obtain ⟨j, hj⟩ := List.getElem?_of_mem ht
    obtain ⟨rfl, hlt⟩ := rg_get hj
    have hjl : j < b.is.length := by omega
    obtain ⟨gs, hgs⟩ : ∃ gs, b.is[j]? = some gs := ⟨_, List.getElem?_eq_getElem hjl⟩
    have hz : (0 : Int) + (j : Int) = (j : Int) := by omega
    rw [hz]
    simp only [wipeD, w_gNm, w_c, w_fn, w_var, w_cons, w_nil, w_ok, List.append_nil, List.length, List.getElem?_cons_zero, List.getElem?_cons_succ, List.set_cons_zero, List.set_cons_succ, List.foldl]
    refine ⟨trivial, EvO.imp (reason_ok hn hp hb F hgs) fun d s3 ⟨q1, rs, e, q2, q3, q4⟩ => ⟨q1, _, e, j, gs, rs, rfl, hgs, rfl, ?_, q3, q4⟩⟩
    have := (hb.at hgs).1
    omega
  · rw [rg_len] at hl
    have hyl : ys.length = b.is.length := by omega
    simp only [finF, fTup, asL, asLt, w_ok, w_gNm, w_ret, w_tup, w_cons, w_nil, w_c, w_fn, w_call, w_bin, w_var, ob3, fLen, asSeq, List.append_nil, List.length, List.set_cons_succ, List.set_cons_zero, List.getElem?_cons_zero, List.getElem?_cons_succ]
    refine ⟨trivial, EvO.imp (draw_pt hn hp (by omega) (by omega)) fun a s3 ⟨h3, ct, e, c0, c1⟩ => ?_⟩
    subst e
    simp only [pureTs, Option.map, List.length]
    refine ⟨by decide, fin_pt h0 h3 ⟨h3, _, rfl, ?_, ?_, _, rfl, rfl⟩⟩
    · have a1 : isW (.int ct) 0 (b.cs.length - 1) = true := by simp [isW]; omega
      have a2 : areT (.tuple (fs.map .int)) b.ms = true := by
        simp only [areT, Bool.and_eq_true, decide_eq_true_eq]
        exact ⟨by simpa using hfl, are_of hfl hfb⟩
      have a3 : areT (.tuple (zs.map .int)) (List.replicate b.is.length 1) = true := by
        simp only [areT, Bool.and_eq_true, decide_eq_true_eq]
        refine ⟨by simpa using hzl, are_of (by simpa using hzl) fun j x m q1 q2 => ?_⟩
        rw [List.getElem?_replicate] at q2
        split at q2
        · cases q2
          have := hzb x (List.mem_of_getElem? q1)
          omega
        · cases q2
      have a4 : firstBad (rAt b fs zs) 0 ys = none := firstBad_none ys 0 fun i t e => by
        have hi : i < ys.length := (List.getElem?_eq_some_iff.mp e).1
        obtain ⟨i', gs, rs, e1, e2, e3, _, _, e6⟩ := hR i (.int (0 + (i : Int))) t (rg_at (by omega)) e
        have : i' = i := by
          have : (0 : Int) + (i : Int) = (i' : Int) := by injection e1
          omega
        subst this
        rw [Nat.zero_add]
        unfold rAt
        rw [List.getD_eq_getElem?_getD, e2]
        exact e6
      simp only [flawC, a1, a2, a3, hyl, intsOf_map, a4, hs, if_true]
    · have okc : OkT (10 ^ 30) 8 0 8 (.str "case") := ⟨by decide +kernel, by decide +kernel, by decide +kernel, by decide +kernel⟩
      have p0 : OkT (10 ^ 30) 8 2 8 (.str "case") := okc.mono
      have p1 : OkT (10 ^ 30) 0 2 8 (.int ct) := okI (by omega) (by decide)
      have p2 : OkT (10 ^ 30) 4 2 8 (.tuple (fs.map .int)) := (ok_ints (N := 10 ^ 30) (m := 4) (k := 8) (fun x hx => by
        obtain ⟨j, hj⟩ := List.getElem?_of_mem hx
        have hjl := (List.getElem?_eq_some_iff.mp hj).1
        have hjm : j < b.ms.length := by omega
        have q := hfb j x _ hj (List.getElem?_eq_getElem hjm)
        have := hb.ms _ (List.getElem_mem hjm)
        omega) (by decide) (by omega) (by decide)).mono
      have p3 : OkT (10 ^ 30) 3 2 8 (.tuple (zs.map .int)) := (ok_ints (N := 10 ^ 30) (m := 3) (k := 8) (fun x hx => by have := hzb x hx; omega) (by decide) (by omega) (by decide)).mono
      have p4 : OkT (10 ^ 30) 27 2 8 (.tuple ys) := by
        have := OkL.all (n := 10 ^ 30) (c := 8) (d := 1) (k0 := 8) (k := 3) (us := ys) (fun t ht => by
          obtain ⟨j, hj⟩ := List.getElem?_of_mem ht
          have hjl := (List.getElem?_eq_some_iff.mp hj).1
          obtain ⟨_, _, rs, _, _, rfl, r1, r2, _⟩ := hR j (.int (0 + (j : Int))) t (rg_at (by omega)) hj
          exact ok_ints (m := 8) (k := 8) (fun x hx => by have := r2 x hx; omega) (by decide) r1 (by decide)) (by omega)
        exact (OkT.tup this (by omega)).mono
      have p5 : OkT (10 ^ 30) 20 2 8 sk := hso.mono
      have pn : OkL (10 ^ 30) 0 2 8 [] := (OkL.nil (n := 10 ^ 30) (k := 8)).mono
      exact (OkT.tup (OkL.cons p0 (OkL.cons p1 (OkL.cons p2 (OkL.cons p3 (OkL.cons p4 (OkL.cons p5 pn)))))) (by simp)).mono
end
end Law

namespace Law
open PySem PL
open L2 (atI ixN CDiv CMul CPow RgOk)
/-! ### bending -/
section
variable {n : Nat} {st s : Sto} {N c d k : Nat} {t : T}
def Bent (n : Nat) (st : Sto) (N c d k : Nat) : D → Sto → Prop := fun dd s' => Pt n st s' ∧ ∃ t', dd = .v t' ∧ OkT N c d k t'
theorem pick_fin {xs : List T} (hn : n < List.length st) (h : Pt n st s) (hs : 0 < xs.length) (hs2 : xs.length < 1073741824) (hx : ∀ x ∈ xs, OkT N c d k x) : EvO (F_lw_pick [.ref n, .v (.list xs)] s) fun a b => EvO (fin (List.length s) b a) (Bent n st N c d k) :=
  EvO.imp (pick_pt hn h hs hs2) fun a b ⟨h1, x, hm, e⟩ => by
    subst e
    exact fin_pt h h1 ⟨h1, x, rfl, hx x hm⟩
theorem okS (hN : 10 ^ 21 ≤ N) (hk : 2 ≤ k) {x : T} (h : okB (10 ^ 21) 10 1 2 x = true) : OkT (N + 1) (c + 10) (d + 1) k x := (okB_ok h).mono
theorem pow20 {st : Sto} : opPow (.v (.int 10)) (.v (.int 20)) st = .ok (.v (.int (10 ^ 20))) st := by
  have h : CPow 10 20 := by decide
  simp only [opPow, opI, h, if_true]
  rfl
theorem leaf_ok (hn : n < List.length st) (h : Pt n st s) (ht : OkT N c d k t) (hN : 10 ^ 21 ≤ N) (hk : 2 ≤ k) : EvO (F_lw_leaf [.ref n, .v t] s) (Bent n st (N + 1) (c + 10) (d + 1) k) := by
  unfold F_lw_leaf m_lw_leaf
  rw [w_runB]
  simp only [List.map, List.replicate, List.length, List.cons_append, List.nil_append]
  cases t with
  | str w =>
    refine guardT (by simp [w_ok, w_bad, w_bind, w_bindN, w_toS, w_itb, w_var, w_c, w_bin, w_un, w_cmpT, w_mB, w_chain, w_tru, w_andT, w_orT, w_notT, w_andV, w_orV, w_notV, w_if, w_nil, w_cons, w_tup, w_lst, w_lstM, w_call, w_fn, w_fnK, w_meth, w_noP, w_part, w_slice, w_rg1, w_lstRgM, w_lstRg, w_tupRg, w_gNm, w_gTu, w_gNil, w_gCons, w_gSb, w_skip, w_seq, w_asg, w_ret, w_drop, w_ifS, w_par2, w_par3, w_parN, w_runB, w_finV, w_finM, List.map, List.replicate, List.length, List.cons_append, List.nil_append, List.append_nil, List.getElem?_cons_zero, List.getElem?_cons_succ, List.set_cons_zero, List.set_cons_succ, setAll, pureTs, Option.map, fIsi, tyD, tyT, subTy, truD]) ?_
    simp only [w_fn, w_cons, w_nil, w_var, w_c, w_lst, w_tup, w_ok, truD, List.getElem?_cons_zero, List.getElem?_cons_succ, pureTs, Option.map, List.append_nil, List.length]
    refine ⟨by decide, trivial, pick_fin hn h (by simp) (by simp) ?_⟩
    intro x hx
    simp only [List.mem_cons, List.not_mem_nil, or_false] at hx
    rcases hx with rfl | rfl | rfl | rfl | rfl | rfl <;> exact okS hN hk (by decide +kernel)
  | bool b =>
    refine guardF (by simp [w_ok, w_bad, w_bind, w_bindN, w_toS, w_itb, w_var, w_c, w_bin, w_un, w_cmpT, w_mB, w_chain, w_tru, w_andT, w_orT, w_notT, w_andV, w_orV, w_notV, w_if, w_nil, w_cons, w_tup, w_lst, w_lstM, w_call, w_fn, w_fnK, w_meth, w_noP, w_part, w_slice, w_rg1, w_lstRgM, w_lstRg, w_tupRg, w_gNm, w_gTu, w_gNil, w_gCons, w_gSb, w_skip, w_seq, w_asg, w_ret, w_drop, w_ifS, w_par2, w_par3, w_parN, w_runB, w_finV, w_finM, List.map, List.replicate, List.length, List.cons_append, List.nil_append, List.append_nil, List.getElem?_cons_zero, List.getElem?_cons_succ, List.set_cons_zero, List.set_cons_succ, setAll, pureTs, Option.map, fIsi, tyD, tyT, subTy, truD]) ?_
    refine guardT (by simp [w_ok, w_bad, w_bind, w_bindN, w_toS, w_itb, w_var, w_c, w_bin, w_un, w_cmpT, w_mB, w_chain, w_tru, w_andT, w_orT, w_notT, w_andV, w_orV, w_notV, w_if, w_nil, w_cons, w_tup, w_lst, w_lstM, w_call, w_fn, w_fnK, w_meth, w_noP, w_part, w_slice, w_rg1, w_lstRgM, w_lstRg, w_tupRg, w_gNm, w_gTu, w_gNil, w_gCons, w_gSb, w_skip, w_seq, w_asg, w_ret, w_drop, w_ifS, w_par2, w_par3, w_parN, w_runB, w_finV, w_finM, List.map, List.replicate, List.length, List.cons_append, List.nil_append, List.append_nil, List.getElem?_cons_zero, List.getElem?_cons_succ, List.set_cons_zero, List.set_cons_succ, setAll, pureTs, Option.map, fIsi, tyD, tyT, subTy, truD]) ?_
    simp only [w_fn, w_cons, w_nil, w_var, w_c, w_lst, w_tup, w_un, w_bin, w_ok, w_itb, opAddX, opSubX, opNeg, pow20, truD, List.getElem?_cons_zero, List.getElem?_cons_succ, pureTs, Option.map, List.append_nil, List.length]
    refine ⟨by decide, by decide, trivial, pick_fin hn h (by simp) (by simp) ?_⟩
    intro x hx
    simp only [List.mem_cons, List.not_mem_nil, or_false] at hx
    rcases hx with rfl | rfl | rfl | rfl | rfl | rfl | rfl | rfl | rfl | rfl | rfl <;> first | exact okS hN hk (by decide +kernel) | (cases b <;> exact okS hN hk (by decide +kernel))
  | int i =>
    refine guardF (by simp [w_ok, w_bad, w_bind, w_bindN, w_toS, w_itb, w_var, w_c, w_bin, w_un, w_cmpT, w_mB, w_chain, w_tru, w_andT, w_orT, w_notT, w_andV, w_orV, w_notV, w_if, w_nil, w_cons, w_tup, w_lst, w_lstM, w_call, w_fn, w_fnK, w_meth, w_noP, w_part, w_slice, w_rg1, w_lstRgM, w_lstRg, w_tupRg, w_gNm, w_gTu, w_gNil, w_gCons, w_gSb, w_skip, w_seq, w_asg, w_ret, w_drop, w_ifS, w_par2, w_par3, w_parN, w_runB, w_finV, w_finM, List.map, List.replicate, List.length, List.cons_append, List.nil_append, List.append_nil, List.getElem?_cons_zero, List.getElem?_cons_succ, List.set_cons_zero, List.set_cons_succ, setAll, pureTs, Option.map, fIsi, tyD, tyT, subTy, truD]) ?_
    refine guardT (by simp [w_ok, w_bad, w_bind, w_bindN, w_toS, w_itb, w_var, w_c, w_bin, w_un, w_cmpT, w_mB, w_chain, w_tru, w_andT, w_orT, w_notT, w_andV, w_orV, w_notV, w_if, w_nil, w_cons, w_tup, w_lst, w_lstM, w_call, w_fn, w_fnK, w_meth, w_noP, w_part, w_slice, w_rg1, w_lstRgM, w_lstRg, w_tupRg, w_gNm, w_gTu, w_gNil, w_gCons, w_gSb, w_skip, w_seq, w_asg, w_ret, w_drop, w_ifS, w_par2, w_par3, w_parN, w_runB, w_finV, w_finM, List.map, List.replicate, List.length, List.cons_append, List.nil_append, List.append_nil, List.getElem?_cons_zero, List.getElem?_cons_succ, List.set_cons_zero, List.set_cons_succ, setAll, pureTs, Option.map, fIsi, tyD, tyT, subTy, truD]) ?_
    simp only [w_fn, w_cons, w_nil, w_var, w_c, w_lst, w_tup, w_un, w_bin, w_ok, w_itb, opAddX, opSubX, opAdd, opSub, opI0, opNeg, pow20, truD, List.getElem?_cons_zero, List.getElem?_cons_succ, pureTs, Option.map, List.append_nil, List.length]
    have hi : i.natAbs < N := by have := ht.l; simpa [lv] using this
    refine ⟨by decide, by decide, trivial, pick_fin hn h (by simp) (by simp) ?_⟩
    intro x hx
    simp only [List.mem_cons, List.not_mem_nil, or_false] at hx
    have h1 : OkT (N + 1) (c + 10) (d + 1) k (.int (i + 1)) := ⟨rfl, by simp only [lv, decide_eq_true_eq]; omega, by simp [PyData.bulk], by simp [PyData.depth]⟩
    have h2 : OkT (N + 1) (c + 10) (d + 1) k (.int (i - 1)) := ⟨rfl, by simp only [lv, decide_eq_true_eq]; omega, by simp [PyData.bulk], by simp [PyData.depth]⟩
    have h3 : OkT (N + 1) (c + 10) (d + 1) k (.tuple [.int i]) := ⟨by simp [wd, wds]; omega, by simp only [lv, lvs, Bool.and_true, decide_eq_true_eq]; omega, by simp [PyData.bulk, PyData.bulkAll], by simp [PyData.depth, PyData.depthAll]⟩
    rcases hx with rfl | rfl | rfl | rfl | rfl | rfl | rfl | rfl | rfl | rfl | rfl <;> first | exact h1 | exact h2 | exact h3 | exact okS hN hk (by decide +kernel)
  | tuple ts =>
    refine guardF (by simp [w_ok, w_bad, w_bind, w_bindN, w_toS, w_itb, w_var, w_c, w_bin, w_un, w_cmpT, w_mB, w_chain, w_tru, w_andT, w_orT, w_notT, w_andV, w_orV, w_notV, w_if, w_nil, w_cons, w_tup, w_lst, w_lstM, w_call, w_fn, w_fnK, w_meth, w_noP, w_part, w_slice, w_rg1, w_lstRgM, w_lstRg, w_tupRg, w_gNm, w_gTu, w_gNil, w_gCons, w_gSb, w_skip, w_seq, w_asg, w_ret, w_drop, w_ifS, w_par2, w_par3, w_parN, w_runB, w_finV, w_finM, List.map, List.replicate, List.length, List.cons_append, List.nil_append, List.append_nil, List.getElem?_cons_zero, List.getElem?_cons_succ, List.set_cons_zero, List.set_cons_succ, setAll, pureTs, Option.map, fIsi, tyD, tyT, subTy, truD]) ?_
    refine guardF (by simp [w_ok, w_bad, w_bind, w_bindN, w_toS, w_itb, w_var, w_c, w_bin, w_un, w_cmpT, w_mB, w_chain, w_tru, w_andT, w_orT, w_notT, w_andV, w_orV, w_notV, w_if, w_nil, w_cons, w_tup, w_lst, w_lstM, w_call, w_fn, w_fnK, w_meth, w_noP, w_part, w_slice, w_rg1, w_lstRgM, w_lstRg, w_tupRg, w_gNm, w_gTu, w_gNil, w_gCons, w_gSb, w_skip, w_seq, w_asg, w_ret, w_drop, w_ifS, w_par2, w_par3, w_parN, w_runB, w_finV, w_finM, List.map, List.replicate, List.length, List.cons_append, List.nil_append, List.append_nil, List.getElem?_cons_zero, List.getElem?_cons_succ, List.set_cons_zero, List.set_cons_succ, setAll, pureTs, Option.map, fIsi, tyD, tyT, subTy, truD]) ?_
    have hi := ht.unT
    have h1 : OkT (N + 1) (c + 10) (d + 1) k (.list ts) := (OkT.lst hi.1 hi.2.2).mono (by omega) (by omega) (by omega)
    simp [w_ok, w_bad, w_bind, w_bindN, w_toS, w_itb, w_var, w_c, w_bin, w_un, w_cmpT, w_mB, w_chain, w_tru, w_andT, w_orT, w_notT, w_andV, w_orV, w_notV, w_if, w_nil, w_cons, w_tup, w_lst, w_lstM, w_call, w_fn, w_fnK, w_meth, w_noP, w_part, w_slice, w_rg1, w_lstRgM, w_lstRg, w_tupRg, w_gNm, w_gTu, w_gNil, w_gCons, w_gSb, w_skip, w_seq, w_asg, w_ret, w_drop, w_ifS, w_par2, w_par3, w_parN, w_runB, w_finV, w_finM, List.map, List.replicate, List.length, List.cons_append, List.nil_append, List.append_nil, List.getElem?_cons_zero, List.getElem?_cons_succ, List.set_cons_zero, List.set_cons_succ, setAll, pureTs, Option.map, fIsi, tyD, tyT, subTy, truD, fList, asSeq]
    repeat' refine And.intro (by decide) ?_
    refine pick_fin hn h (by simp) (by simp) ?_
    intro x hx
    simp only [List.mem_cons, List.not_mem_nil, or_false] at hx
    rcases hx with rfl | rfl | rfl | rfl | rfl | rfl | rfl | rfl | rfl | rfl <;> first | exact h1 | exact okS hN hk (by decide +kernel)
  | _ =>
    refine guardF (by simp [w_ok, w_bad, w_bind, w_bindN, w_toS, w_itb, w_var, w_c, w_bin, w_un, w_cmpT, w_mB, w_chain, w_tru, w_andT, w_orT, w_notT, w_andV, w_orV, w_notV, w_if, w_nil, w_cons, w_tup, w_lst, w_lstM, w_call, w_fn, w_fnK, w_meth, w_noP, w_part, w_slice, w_rg1, w_lstRgM, w_lstRg, w_tupRg, w_gNm, w_gTu, w_gNil, w_gCons, w_gSb, w_skip, w_seq, w_asg, w_ret, w_drop, w_ifS, w_par2, w_par3, w_parN, w_runB, w_finV, w_finM, List.map, List.replicate, List.length, List.cons_append, List.nil_append, List.append_nil, List.getElem?_cons_zero, List.getElem?_cons_succ, List.set_cons_zero, List.set_cons_succ, setAll, pureTs, Option.map, fIsi, tyD, tyT, subTy, truD]) ?_
    refine guardF (by simp [w_ok, w_bad, w_bind, w_bindN, w_toS, w_itb, w_var, w_c, w_bin, w_un, w_cmpT, w_mB, w_chain, w_tru, w_andT, w_orT, w_notT, w_andV, w_orV, w_notV, w_if, w_nil, w_cons, w_tup, w_lst, w_lstM, w_call, w_fn, w_fnK, w_meth, w_noP, w_part, w_slice, w_rg1, w_lstRgM, w_lstRg, w_tupRg, w_gNm, w_gTu, w_gNil, w_gCons, w_gSb, w_skip, w_seq, w_asg, w_ret, w_drop, w_ifS, w_par2, w_par3, w_parN, w_runB, w_finV, w_finM, List.map, List.replicate, List.length, List.cons_append, List.nil_append, List.append_nil, List.getElem?_cons_zero, List.getElem?_cons_succ, List.set_cons_zero, List.set_cons_succ, setAll, pureTs, Option.map, fIsi, tyD, tyT, subTy, truD]) ?_
    simp [w_ok, w_bad, w_bind, w_bindN, w_toS, w_itb, w_var, w_c, w_bin, w_un, w_cmpT, w_mB, w_chain, w_tru, w_andT, w_orT, w_notT, w_andV, w_orV, w_notV, w_if, w_nil, w_cons, w_tup, w_lst, w_lstM, w_call, w_fn, w_fnK, w_meth, w_noP, w_part, w_slice, w_rg1, w_lstRgM, w_lstRg, w_tupRg, w_gNm, w_gTu, w_gNil, w_gCons, w_gSb, w_skip, w_seq, w_asg, w_ret, w_drop, w_ifS, w_par2, w_par3, w_parN, w_runB, w_finV, w_finM, List.map, List.replicate, List.length, List.cons_append, List.nil_append, List.append_nil, List.getElem?_cons_zero, List.getElem?_cons_succ, List.set_cons_zero, List.set_cons_succ, setAll, pureTs, Option.map, fIsi, tyD, tyT, subTy, truD]
    repeat' refine And.intro (by decide) ?_
    refine pick_fin hn h (by simp) (by simp) ?_
    intro x hx
    simp only [List.mem_cons, List.not_mem_nil, or_false] at hx
    rcases hx with rfl | rfl | rfl | rfl | rfl | rfl | rfl | rfl | rfl | rfl <;> exact okS hN hk (by decide +kernel)
end
end Law

namespace Law
open PySem PL
open L2 (atI ixN CDiv CMul CPow RgOk)
section
variable {α : Type} {env : EnvD} {st : Sto} {Z : Zz} {c : ME Bool} {a b rest : MS}
theorem ifT (h : EvO (c env st) fun k s => k = true ∧ s = st) (h2 : EvS (a env st) { Z with nx := fun e s => EvS (rest e s) Z }) : EvS (mSeq (mIfS c a b) rest env st) Z := by
  rw [w_seq, w_ifS, eqn_a h, w_ok, if_pos rfl]; exact h2
theorem ifF (h : EvO (c env st) fun k s => k = false ∧ s = st) (h2 : EvS (b env st) { Z with nx := fun e s => EvS (rest e s) Z }) : EvS (mSeq (mIfS c a b) rest env st) Z := by
  rw [w_seq, w_ifS, eqn_a h, w_ok, if_neg Bool.false_ne_true]; exact h2
end
section
variable {n : Nat} {st s : Sto} {N c d k : Nat} {t : T}
theorem ret_bent (h0 : Pt n st s) {s1 : Sto} {t' : T} (h1 : Pt n st s1) (ok : OkT N c d k t') : EvO (fin (List.length s) s1 (.v t')) (Bent n st N c d k) := fin_pt h0 h1 ⟨h1, t', rfl, ok⟩
theorem bent_ok (hn : n < List.length st) (h : Pt n st s) (ht : OkT N c d k t) (hN : 10 ^ 21 ≤ N) (hc : c ≤ 100000) (hk2 : 2 ≤ k) : EvO (F_lw_bent [.ref n, .v t] s) (Bent n st (N + 1) (2 * c + 11) (d + 1) (k + 1)) := by
  unfold F_lw_bent m_lw_bent
  rw [w_runB]
  simp only [List.map, List.replicate, List.length, List.cons_append, List.nil_append]
  have leafend : ∀ {u : T}, OkT N c d k u → EvO (F_lw_leaf [.ref n, .v u] s) fun a b => EvO (fin (List.length s) b a) (Bent n st (N + 1) (2 * c + 11) (d + 1) (k + 1)) := fun hu =>
    EvO.imp (leaf_ok hn h hu hN hk2) fun a b ⟨h1, t', e, ok⟩ => by subst e; exact ret_bent h h1 (ok.mono (by omega) (by omega) (by omega))
  by_cases hq : ∀ ts, t = .tuple ts → ts = []
  · refine guardT ?_ ?_
    · cases t with
      | tuple ts =>
        obtain rfl := hq ts rfl
        simp [w_ok, w_bad, w_bind, w_bindN, w_toS, w_itb, w_var, w_c, w_bin, w_un, w_cmpT, w_mB, w_chain, w_tru, w_andT, w_orT, w_notT, w_andV, w_orV, w_notV, w_if, w_nil, w_cons, w_tup, w_lst, w_lstM, w_call, w_fn, w_fnK, w_meth, w_noP, w_part, w_slice, w_rg1, w_lstRgM, w_lstRg, w_tupRg, w_gNm, w_gTu, w_gNil, w_gCons, w_gSb, w_skip, w_seq, w_asg, w_ret, w_drop, w_ifS, w_par2, w_par3, w_parN, w_runB, w_finV, w_finM, List.map, List.replicate, List.length, List.cons_append, List.nil_append, List.append_nil, List.getElem?_cons_zero, List.getElem?_cons_succ, List.set_cons_zero, List.set_cons_succ, setAll, pureTs, Option.map, fIsi, tyD, tyT, subTy, truD, fLen, asSeq, oq_int]
      | _ => simp [w_ok, w_bad, w_bind, w_bindN, w_toS, w_itb, w_var, w_c, w_bin, w_un, w_cmpT, w_mB, w_chain, w_tru, w_andT, w_orT, w_notT, w_andV, w_orV, w_notV, w_if, w_nil, w_cons, w_tup, w_lst, w_lstM, w_call, w_fn, w_fnK, w_meth, w_noP, w_part, w_slice, w_rg1, w_lstRgM, w_lstRg, w_tupRg, w_gNm, w_gTu, w_gNil, w_gCons, w_gSb, w_skip, w_seq, w_asg, w_ret, w_drop, w_ifS, w_par2, w_par3, w_parN, w_runB, w_finV, w_finM, List.map, List.replicate, List.length, List.cons_append, List.nil_append, List.append_nil, List.getElem?_cons_zero, List.getElem?_cons_succ, List.set_cons_zero, List.set_cons_succ, setAll, pureTs, Option.map, fIsi, tyD, tyT, subTy, truD]
    · simp only [w_fn, w_cons, w_nil, w_var, List.getElem?_cons_zero, List.getElem?_cons_succ, List.append_nil, List.length]
      exact ⟨trivial, leafend ht⟩
  · have ⟨ts, ets, hne⟩ : ∃ ts, t = .tuple ts ∧ ts ≠ [] := by
      simp only [Classical.not_forall] at hq
      obtain ⟨ts, e, h2⟩ := hq
      exact ⟨ts, e, h2⟩
    subst ets
    have hlen : 0 < ts.length := List.length_pos_iff.mpr hne
    obtain ⟨hL, hd1, hwk⟩ := ht.unT
    have hcl := hL.len
    have h0l : ((ts.length : Int) == 0) = false := by simpa using (show (ts.length : Int) ≠ 0 by omega)
    refine guardF (by simp only [w_ok, w_bad, w_bind, w_bindN, w_toS, w_itb, w_var, w_c, w_bin, w_un, w_cmpT, w_mB, w_chain, w_tru, w_andT, w_orT, w_notT, w_andV, w_orV, w_notV, w_if, w_nil, w_cons, w_tup, w_lst, w_lstM, w_call, w_fn, w_fnK, w_meth, w_noP, w_part, w_slice, w_rg1, w_lstRgM, w_lstRg, w_tupRg, w_gNm, w_gTu, w_gNil, w_gCons, w_gSb, w_skip, w_seq, w_asg, w_ret, w_drop, w_ifS, w_par2, w_par3, w_parN, w_runB, w_finV, w_finM, List.map, List.replicate, List.length, List.cons_append, List.nil_append, List.append_nil, List.getElem?_cons_zero, List.getElem?_cons_succ, List.set_cons_zero, List.set_cons_succ, setAll, pureTs, Option.map, fIsi, tyD, tyT, subTy, truD, fLen, asSeq, oq_int, h0l]; simp) ?_
    rw [w_seq, w_par2]
    simp only [w_cons, w_nil, w_fn, w_call, w_var, w_c, w_ok, fLen, asSeq, List.getElem?_cons_zero, List.getElem?_cons_succ, List.append_nil, List.length]
    refine ⟨trivial, EvO.imp (draw_pt hn h (by omega) (by omega)) fun a s1 ⟨h1, i, e, i0, i1⟩ => ?_⟩
    subst e
    refine ⟨trivial, EvO.imp (draw_pt hn h1 (by omega) (by omega)) fun a s2 ⟨h2, w, e, w0, w1⟩ => ?_⟩
    subst e
    simp only [List.set_cons_succ, List.set_cons_zero]
    have ct := cut_take (ts := ts) i0 (by omega)
    have cd := cut_drop (ts := ts) (i := i + 1) (by omega) (by omega)
    have ct1 := cut_take (ts := ts) (i := i + 1) (by omega) (by omega)
    have cd1 := cut_drop (ts := ts) i0 (by omega)
    have nat1 : (i + 1).toNat = i.toNat + 1 := by omega
    rw [nat1] at cd ct1
    have hk : i.toNat < ts.length := by omega
    have szl : ∀ {x : Nat}, x ≤ 1000000 → x ≤ sizeLine := fun hx => small_len hx
    have l1 : (ts.take i.toNat).length ≤ ts.length := by simp; omega
    have l2 : (ts.drop (i.toNat + 1)).length ≤ ts.length := by simp
    have l3 : (ts.take (i.toNat + 1)).length ≤ ts.length := by simp; omega
    have l4 : (ts.drop i.toNat).length ≤ ts.length := by simp
    by_cases w00 : w = 0
    · refine guardT (by simp [w_ok, w_bad, w_bind, w_bindN, w_toS, w_itb, w_var, w_c, w_bin, w_un, w_cmpT, w_mB, w_chain, w_tru, w_andT, w_orT, w_notT, w_andV, w_orV, w_notV, w_if, w_nil, w_cons, w_tup, w_lst, w_lstM, w_call, w_fn, w_fnK, w_meth, w_noP, w_part, w_slice, w_rg1, w_lstRgM, w_lstRg, w_tupRg, w_gNm, w_gTu, w_gNil, w_gCons, w_gSb, w_skip, w_seq, w_asg, w_ret, w_drop, w_ifS, w_par2, w_par3, w_parN, w_runB, w_finV, w_finM, List.map, List.replicate, List.length, List.cons_append, List.nil_append, List.append_nil, List.getElem?_cons_zero, List.getElem?_cons_succ, List.set_cons_zero, List.set_cons_succ, setAll, pureTs, Option.map, opEqB, toT, sh_int, PyData.eqv, w00]) ?_
      simp only [w_bin, w_slice, w_noP, w_part, w_var, w_c, w_ok, opSl, opAdd, w_itb, List.getElem?_cons_zero, List.getElem?_cons_succ, ct, cd]
      refine ⟨szl (by omega), ret_bent h h2 ?_⟩
      have := OkT.tup ((hL.take i.toNat).app (hL.drop (i.toNat + 1))) (by simp; omega)
      exact this.mono (by omega) (by omega) (by omega)
    refine guardF (by simp [w_ok, w_bad, w_bind, w_bindN, w_toS, w_itb, w_var, w_c, w_bin, w_un, w_cmpT, w_mB, w_chain, w_tru, w_andT, w_orT, w_notT, w_andV, w_orV, w_notV, w_if, w_nil, w_cons, w_tup, w_lst, w_lstM, w_call, w_fn, w_fnK, w_meth, w_noP, w_part, w_slice, w_rg1, w_lstRgM, w_lstRg, w_tupRg, w_gNm, w_gTu, w_gNil, w_gCons, w_gSb, w_skip, w_seq, w_asg, w_ret, w_drop, w_ifS, w_par2, w_par3, w_parN, w_runB, w_finV, w_finM, List.map, List.replicate, List.length, List.cons_append, List.nil_append, List.append_nil, List.getElem?_cons_zero, List.getElem?_cons_succ, List.set_cons_zero, List.set_cons_succ, setAll, pureTs, Option.map, opEqB, toT, sh_int, PyData.eqv, w00]) ?_
    by_cases w01 : w = 1
    · refine guardT (by simp [w_ok, w_bad, w_bind, w_bindN, w_toS, w_itb, w_var, w_c, w_bin, w_un, w_cmpT, w_mB, w_chain, w_tru, w_andT, w_orT, w_notT, w_andV, w_orV, w_notV, w_if, w_nil, w_cons, w_tup, w_lst, w_lstM, w_call, w_fn, w_fnK, w_meth, w_noP, w_part, w_slice, w_rg1, w_lstRgM, w_lstRg, w_tupRg, w_gNm, w_gTu, w_gNil, w_gCons, w_gSb, w_skip, w_seq, w_asg, w_ret, w_drop, w_ifS, w_par2, w_par3, w_parN, w_runB, w_finV, w_finM, List.map, List.replicate, List.length, List.cons_append, List.nil_append, List.append_nil, List.getElem?_cons_zero, List.getElem?_cons_succ, List.set_cons_zero, List.set_cons_succ, setAll, pureTs, Option.map, opEqB, toT, sh_int, PyData.eqv, w01]) ?_
      simp only [w_bin, w_slice, w_noP, w_part, w_var, w_c, w_ok, opSl, opAdd, w_itb, List.getElem?_cons_zero, List.getElem?_cons_succ, ct1, cd1]
      refine ⟨szl (by omega), ret_bent h h2 ?_⟩
      have := OkT.tup (((hL.take (i.toNat + 1)).app (hL.drop i.toNat)).mono (k' := k + 1) (Nat.le_refl _) (Nat.le_refl _) (Nat.le_refl _)) (by simp; omega)
      exact this.mono (by omega) (by omega) (by omega)
    refine guardF (by simp [w_ok, w_bad, w_bind, w_bindN, w_toS, w_itb, w_var, w_c, w_bin, w_un, w_cmpT, w_mB, w_chain, w_tru, w_andT, w_orT, w_notT, w_andV, w_orV, w_notV, w_if, w_nil, w_cons, w_tup, w_lst, w_lstM, w_call, w_fn, w_fnK, w_meth, w_noP, w_part, w_slice, w_rg1, w_lstRgM, w_lstRg, w_tupRg, w_gNm, w_gTu, w_gNil, w_gCons, w_gSb, w_skip, w_seq, w_asg, w_ret, w_drop, w_ifS, w_par2, w_par3, w_parN, w_runB, w_finV, w_finM, List.map, List.replicate, List.length, List.cons_append, List.nil_append, List.append_nil, List.getElem?_cons_zero, List.getElem?_cons_succ, List.set_cons_zero, List.set_cons_succ, setAll, pureTs, Option.map, opEqB, toT, sh_int, PyData.eqv, w01]) ?_
    by_cases w02 : w = 2
    · refine guardT (by simp [w_ok, w_bad, w_bind, w_bindN, w_toS, w_itb, w_var, w_c, w_bin, w_un, w_cmpT, w_mB, w_chain, w_tru, w_andT, w_orT, w_notT, w_andV, w_orV, w_notV, w_if, w_nil, w_cons, w_tup, w_lst, w_lstM, w_call, w_fn, w_fnK, w_meth, w_noP, w_part, w_slice, w_rg1, w_lstRgM, w_lstRg, w_tupRg, w_gNm, w_gTu, w_gNil, w_gCons, w_gSb, w_skip, w_seq, w_asg, w_ret, w_drop, w_ifS, w_par2, w_par3, w_parN, w_runB, w_finV, w_finM, List.map, List.replicate, List.length, List.cons_append, List.nil_append, List.append_nil, List.getElem?_cons_zero, List.getElem?_cons_succ, List.set_cons_zero, List.set_cons_succ, setAll, pureTs, Option.map, opEqB, toT, sh_int, PyData.eqv, w02]) ?_
      simp only [w_if, w_cmpT, w_fn, w_cons, w_nil, w_call, w_un, w_var, w_c, w_ok, List.getElem?_cons_zero, List.getElem?_cons_succ, List.append_nil, List.length, fList, asSeq, opRev]
      refine ⟨trivial, EvO.imp (draw_pt hn h2 (by omega) (by omega)) fun a s3 ⟨h3, j, e, j0, j1⟩ => ?_⟩
      subst e
      simp only [opEqB, toT, sh_int, and_self, if_true, w_ok, PyData.eqv, Bool.false_eq_true, if_false]
      split
      · exact ret_bent h h3 ((OkT.lst hL hwk).mono (by omega) (by omega) (by omega))
      · exact ret_bent h h3 ((OkT.tup hL.rev (by simpa using hwk)).mono (by omega) (by omega) (by omega))
    refine guardF (by simp [w_ok, w_bad, w_bind, w_bindN, w_toS, w_itb, w_var, w_c, w_bin, w_un, w_cmpT, w_mB, w_chain, w_tru, w_andT, w_orT, w_notT, w_andV, w_orV, w_notV, w_if, w_nil, w_cons, w_tup, w_lst, w_lstM, w_call, w_fn, w_fnK, w_meth, w_noP, w_part, w_slice, w_rg1, w_lstRgM, w_lstRg, w_tupRg, w_gNm, w_gTu, w_gNil, w_gCons, w_gSb, w_skip, w_seq, w_asg, w_ret, w_drop, w_ifS, w_par2, w_par3, w_parN, w_runB, w_finV, w_finM, List.map, List.replicate, List.length, List.cons_append, List.nil_append, List.append_nil, List.getElem?_cons_zero, List.getElem?_cons_succ, List.set_cons_zero, List.set_cons_succ, setAll, pureTs, Option.map, opEqB, toT, sh_int, PyData.eqv, w02]) ?_
    obtain ⟨_, hat⟩ := at_int (ts := ts) i0 (by omega)
    simp only [w_ret, w_bin, w_slice, w_noP, w_part, w_tup, w_cons, w_nil, w_fn, w_var, w_c, w_ok, opSl, opIx, asSeq, hat, opAdd, w_itb, List.getElem?_cons_zero, List.getElem?_cons_succ, List.append_nil, List.length, ct, cd]
    have hel := (hL.get (List.getElem_mem hk))
    refine ⟨trivial, EvO.imp (leaf_ok hn h2 hel hN hk2) fun a s3 ⟨h3, t', e, ok⟩ => ?_⟩
    subst e
    simp only [pureTs, Option.map, List.length, w_ok, w_itb]
    refine ⟨by decide, szl (by simp; omega), szl (by simp; omega), ret_bent h h3 ?_⟩
    have := OkT.tup (hL.put hk ok (by omega) (by omega)) (by simp; omega)
    exact this.mono (by omega) (by omega) (by omega)
end
end Law

namespace Law
open PySem PL
open L2 (atI ixN CDiv CMul CPow RgOk)
section
variable {n : Nat} {st s : Sto} {N c d k : Nat} {t : T}
theorem put_ev {a b : Nat} {Y : ME D} {env : EnvD} {ts : List T} {i : Int} {Q : D → Sto → Prop} (ha : env[a]? = some (some (.v (.tuple ts)))) (hb : env[b]? = some (some (.v (.int i)))) (i0 : 0 ≤ i) (i1 : i < ts.length) (hsz : ts.length ≤ 500000)
    (hY : EvO (Y env s) fun dd s' => ∃ t', dd = .v t' ∧ Q (.v (.tuple (ts.take i.toNat ++ [t'] ++ ts.drop (i.toNat + 1)))) s') :
    EvO ((mBin opAdd (mBin opAdd (mSlice (mVar a) mNoP (mPart (mVar b))) (mTup (mCons Y mNil))) (mSlice (mVar a) (mPart (mBin opAdd (mVar b) (mC (.v (.int 1))))) mNoP)) env s) Q := by
  have ct := cut_take (ts := ts) i0 (by omega)
  have cd := cut_drop (ts := ts) (i := i + 1) (by omega) (by omega)
  have nat1 : (i + 1).toNat = i.toNat + 1 := by omega
  rw [nat1] at cd
  simp only [w_bin, w_slice, w_noP, w_part, w_tup, w_cons, w_nil, w_var, w_c, w_ok, ha, hb, opSl, opAdd, w_itb, ct, cd]
  refine EvO.imp hY fun dd s' ⟨t', e, q⟩ => ?_
  subst e
  simp only [pureTs, Option.map, List.length, w_ok, w_itb]
  have l1 : (ts.take i.toNat).length ≤ ts.length := by simp; omega
  have l2 : (ts.drop (i.toNat + 1)).length ≤ ts.length := by simp
  exact ⟨by decide, small_len (m := 1000001) (by simp; omega), small_len (m := 1000002) (by simp; omega), q⟩
theorem put_len {ts : List T} {i : Nat} {t' : T} (h : i < ts.length) : (ts.take i ++ [t'] ++ ts.drop (i + 1)).length = ts.length := by simp; omega
theorem bent_end {s0 : Sto} (hn : n < List.length st) (h : Pt n st s0) (ht : OkT N c d k t) (hN : 10 ^ 21 ≤ N) (hc : c ≤ 100000) (hk : 2 ≤ k) {Q : D → Sto → Prop} (q : ∀ t' s', Pt n st s' → OkT (N + 1) (2 * c + 11) (d + 1) (k + 1) t' → Q (.v t') s') : EvO (F_lw_bent [.ref n, .v t] s0) Q :=
  EvO.imp (bent_ok hn h ht hN hc hk) fun a b ⟨h1, t', e, ok⟩ => by subst e; exact q t' b h1 ok
/-- a deep change keeps the length -/
def Deep (n : Nat) (st : Sto) (N c d k l : Nat) : D → Sto → Prop := fun dd s' => Pt n st s' ∧ ∃ ts : List T, dd = .v (.tuple ts) ∧ ts.length = l ∧ OkT N c d k (.tuple ts)
theorem ret_deep {l : Nat} {us : List T} (h0 : Pt n st s) {s1 : Sto} (h1 : Pt n st s1) (hl : us.length = l) (ok : OkT N c d k (.tuple us)) : EvO (fin (List.length s) s1 (.v (.tuple us))) (Deep n st N c d k l) := fin_pt h0 h1 ⟨h1, us, rfl, hl, ok⟩
theorem deep_ok {ts : List T} (hn : n < List.length st) (h : Pt n st s) (ht : OkT N c d k (.tuple ts)) (hne : 0 < ts.length) (hN : 10 ^ 21 ≤ N) (hc : c ≤ 100000) (hk2 : 2 ≤ k) : EvO (F_lw_deep [.ref n, .v (.tuple ts)] s) (Deep n st (N + 1) (4 * c + 13) (d + 1) (k + 1) ts.length) := by
  unfold F_lw_deep m_lw_deep
  rw [w_runB]
  simp only [List.map, List.replicate, List.length, List.cons_append, List.nil_append]
  obtain ⟨hL, hd1, hwk⟩ := ht.unT
  have hcl := hL.len
  rw [w_seq, w_asg]
  simp only [w_cons, w_nil, w_fn, w_call, w_var, w_c, w_ok, fLen, asSeq, List.getElem?_cons_zero, List.getElem?_cons_succ, List.append_nil, List.length]
  refine ⟨trivial, EvO.imp (draw_pt hn h (by omega) (by omega)) fun a s2 ⟨h2, i, e, i0, i1⟩ => ?_⟩
  subst e
  obtain ⟨hk, hat⟩ := at_int (ts := ts) i0 i1
  rw [w_gNm, w_seq, w_asg]
  simp only [w_bin, w_var, w_ok, ox hat, List.set_cons_succ, List.set_cons_zero, List.getElem?_cons_zero, List.getElem?_cons_succ]
  rw [w_gNm]
  simp only [List.set_cons_succ, List.set_cons_zero]
  have hp : OkT N c (d - 1) k ts[i.toNat] := hL.get (List.getElem_mem hk)
  generalize ts[i.toNat] = p at hp
  -- the end, whatever the part has become
  have theEnd : ∀ (x4 : Option D) (p' : T) (s' : Sto), Pt n st s' → OkT (N + 1) (3 * c + 12) d (k + 1) p' →
      EvS (mRet (mBin opAdd (mBin opAdd (mSlice (mVar 1) mNoP (mPart (mVar 2))) (mTup (mCons (mVar 3) mNil))) (mSlice (mVar 1) (mPart (mBin opAdd (mVar 2) (mC (.v (.int 1))))) mNoP)) [some (.ref n), some (.v (.tuple ts)), some (.v (.int i)), some (.v p'), x4] s')
        { nx := fun _ s_1 => EvO (fin (List.length s) s_1 (.v .none)) (Deep n st (N + 1) (4 * c + 13) (d + 1) (k + 1) ts.length), rt := fun d_1 s_1 => EvO (fin (List.length s) s_1 d_1) (Deep n st (N + 1) (4 * c + 13) (d + 1) (k + 1) ts.length), bk := fun _ _ => False, ct := fun _ _ => False } := fun x4 p' s' h' ok => by
    rw [w_ret]
    refine put_ev rfl rfl i0 i1 (by omega) ?_
    rw [w_var]
    refine ⟨p', rfl, ret_deep h h' (put_len hk) ?_⟩
    have := OkT.tup (hL.put hk ok (by omega) (by omega)) (by rw [put_len hk]; omega)
    exact this.mono (by omega) (by omega) (by omega)
  by_cases hq : ∀ us, p = .tuple us → us = []
  · refine ifF ?_ ?_
    · cases p with
      | tuple us =>
        obtain rfl := hq us rfl
        simp [w_ok, w_bad, w_bind, w_bindN, w_toS, w_itb, w_var, w_c, w_bin, w_un, w_cmpT, w_mB, w_chain, w_tru, w_andT, w_orT, w_notT, w_andV, w_orV, w_notV, w_if, w_nil, w_cons, w_tup, w_lst, w_lstM, w_call, w_fn, w_fnK, w_meth, w_noP, w_part, w_slice, w_rg1, w_lstRgM, w_lstRg, w_tupRg, w_gNm, w_gTu, w_gNil, w_gCons, w_gSb, w_skip, w_seq, w_asg, w_ret, w_drop, w_ifS, w_par2, w_par3, w_parN, w_runB, w_finV, w_finM, List.map, List.replicate, List.length, List.cons_append, List.nil_append, List.append_nil, List.getElem?_cons_zero, List.getElem?_cons_succ, List.set_cons_zero, List.set_cons_succ, setAll, pureTs, Option.map, fIsi, tyD, tyT, subTy, truD, fLen, asSeq, opI0]
      | _ => simp [w_ok, w_bad, w_bind, w_bindN, w_toS, w_itb, w_var, w_c, w_bin, w_un, w_cmpT, w_mB, w_chain, w_tru, w_andT, w_orT, w_notT, w_andV, w_orV, w_notV, w_if, w_nil, w_cons, w_tup, w_lst, w_lstM, w_call, w_fn, w_fnK, w_meth, w_noP, w_part, w_slice, w_rg1, w_lstRgM, w_lstRg, w_tupRg, w_gNm, w_gTu, w_gNil, w_gCons, w_gSb, w_skip, w_seq, w_asg, w_ret, w_drop, w_ifS, w_par2, w_par3, w_parN, w_runB, w_finV, w_finM, List.map, List.replicate, List.length, List.cons_append, List.nil_append, List.append_nil, List.getElem?_cons_zero, List.getElem?_cons_succ, List.set_cons_zero, List.set_cons_succ, setAll, pureTs, Option.map, fIsi, tyD, tyT, subTy, truD]
    · rw [w_asg]
      simp only [w_cons, w_nil, w_fn, w_var, w_ok, List.getElem?_cons_zero, List.getElem?_cons_succ, List.append_nil, List.length]
      refine ⟨trivial, bent_end hn h2 hp hN hc hk2 fun t' s' h' ok => ?_⟩
      rw [w_gNm]
      exact theEnd _ t' s' h' (ok.mono (by omega) (by omega) (by omega))
  · have ⟨us, eus, hne'⟩ : ∃ us, p = .tuple us ∧ us ≠ [] := by
      simp only [Classical.not_forall] at hq
      obtain ⟨us, e, h2⟩ := hq
      exact ⟨us, e, h2⟩
    subst eus
    obtain ⟨hU, hd2, hwu⟩ := hp.unT
    have hcu := hU.len
    have hlu : 0 < us.length := List.length_pos_iff.mpr hne'
    have hlI : (0 : Int) < (us.length : Int) := by omega
    rw [w_seq, w_ifS]
    simp only [w_andT, w_tru, w_cmpT, w_call, w_fn, w_cons, w_nil, w_var, w_c, w_ok, fIsi, tyD, tyT, subTy, truD, fLen, asSeq, opI0, List.getElem?_cons_zero, List.getElem?_cons_succ, List.append_nil, List.length]
    simp only [hlI, decide_true, List.mem_cons, List.not_mem_nil, or_false, reduceCtorEq, true_or, or_true, if_true, w_ok]
    simp [w_ok, hlI]
    refine EvO.imp (draw_pt hn h2 (by omega) (by omega)) fun a s3 ⟨h3, w, e, w0, w1⟩ => ?_
    subst e
    simp only [opI0, w_ok]
    by_cases hw : 0 < w
    · rw [decide_eq_true hw, if_pos rfl, w_seq, w_asg]
      simp only [w_cons, w_nil, w_fn, w_call, w_var, w_c, w_ok, fLen, asSeq, List.getElem?_cons_zero, List.getElem?_cons_succ, List.append_nil, List.length]
      refine ⟨trivial, EvO.imp (draw_pt hn h3 (by omega) (by omega)) fun a s4 ⟨h4, j, e, j0, j1⟩ => ?_⟩
      subst e
      obtain ⟨hju, hjat⟩ := at_int (ts := us) j0 j1
      rw [w_gNm, w_asg]
      simp only [List.set_cons_succ, List.set_cons_zero]
      refine put_ev rfl rfl j0 j1 (by omega) ?_
      simp only [w_cons, w_nil, w_fn, w_bin, w_var, w_ok, ox hjat, List.getElem?_cons_zero, List.getElem?_cons_succ, List.append_nil, List.length]
      have hel : OkT N c (d - 1 - 1) k us[j.toNat] := hU.get (List.getElem_mem hju)
      refine ⟨trivial, bent_end hn h4 hel hN hc hk2 fun t' s' h' ok => ⟨t', rfl, ?_⟩⟩
      rw [w_gNm]
      simp only [List.set_cons_succ, List.set_cons_zero]
      have okl := OkT.tup (hU.put hju ok (by omega) (by omega)) (by rw [put_len hju]; omega)
      exact theEnd _ _ s' h' (okl.mono (by omega) (by omega) (by omega))
    · rw [decide_eq_false hw, if_neg Bool.false_ne_true, w_asg]
      simp only [w_cons, w_nil, w_fn, w_var, w_ok, List.getElem?_cons_zero, List.getElem?_cons_succ, List.append_nil, List.length]
      refine ⟨trivial, bent_end hn h3 hp hN hc hk2 fun t' s' h' ok => ?_⟩
      rw [w_gNm]
      exact theEnd _ t' s' h' (ok.mono (by omega) (by omega) (by omega))
end
end Law

namespace Law
open PySem PL
open L2 (atI ixN CDiv CMul CPow RgOk)
/-! ### rulings -/
theorem w_listZip {mu : Bool} {as : ME (List D)} {env : EnvD} {st : Sto} {QD : D → Sto → Prop} : EvO (mListZip mu as env st) QD = EvO (as env st) fun ds s => match ds with
    | [d1, d2] => match asSeq s d1, asSeq s d2 with
      | some ts, some us => if mu = true then QD (.ref s.length) (s ++ [.lst (zipT2 ts us)]) else QD (.v (.list (zipT2 ts us))) s
      | _, _ => False
    | _ => False := by
  unfold mListZip; rw [w_bind]; congr; funext ds s
  match ds with
  | [] => rfl
  | [_] => rfl
  | [d1, d2] =>
    dsimp only
    generalize asSeq s d1 = a
    generalize asSeq s d2 = b
    cases a <;> cases b <;> (try rfl)
    cases mu <;> rfl
  | _ :: _ :: _ :: _ => rfl
theorem w_reprL {m : ME (List D)} {env : EnvD} {st : Sto} {QD : D → Sto → Prop} : EvO (mReprL m env st) QD = EvO (m env st) fun ds s => match toTs s ds with
    | some ts => (ts.length ≤ sizeLine ∧ (PyData.list ts).showable = true ∧ (PyData.list ts).depth ≤ 64 ∧ (PyData.list ts).shown.length ≤ sizeLine) ∧ QD (.v (.str (PyData.list ts).shown)) s
    | none => False := by
  unfold mReprL; rw [w_bind]; congr; funext ds s
  cases toTs s ds with
  | none => rfl
  | some ts => exact w_itb
theorem isNoneD_c {v : T} {st : Sto} : opIsN true (.v v) (.v .none) st = .ok (.v (.bool (!isNo v))) st := by simp [opIsN, isN_v]
theorem isNoneD_d {v : T} {st : Sto} : opIsN false (.v v) (.v .none) st = .ok (.v (.bool (isNo v))) st := by simp [opIsN, isN_v]
theorem OkT.reprB {n c d k : Nat} {t : T} (h : OkT n c d k t) (hn : n ≤ 10 ^ 40 := by decide) (hc : c ≤ 300000 := by decide) (hd : d ≤ 64 := by decide) : t.showable = true ∧ t.depth ≤ 64 ∧ t.shown.length ≤ sizeLine := by
  have := h.repr (st := []) hn hc hd
  simp only [fRepr, toT] at this
  by_cases q : t.showable = true ∧ t.depth ≤ 64 ∧ t.shown.length ≤ sizeLine
  · exact q
  · rw [if_neg q] at this; cases this
theorem fRepr_ref {s : Sto} {A : Nat} {ts : List T} (h : s[A]? = some (.lst ts)) (ok : (PyData.list ts).showable = true ∧ (PyData.list ts).depth ≤ 64 ∧ (PyData.list ts).shown.length ≤ sizeLine) : fRepr [.ref A] s = .ok (.v (.str (PyData.list ts).shown)) s := by
  simp only [fRepr, toT, asL, asLt, h]
  rw [if_pos ok]
section
variable {b : Bk} {v : T} {st : Sto}
/-- the parts of a case -/
theorem case_parts (h : flawC b v = .none) : ∃ a ct f sk : T, ∃ zl rl : List T, v = .tuple [a, ct, f, .tuple zl, .tuple rl, sk] := by
  unfold flawC at h
  split at h
  · rename_i w ct f z r sk
    split at h
    · split at h
      · split at h
        · split at h
          · rename_i h3
            cases z with
            | tuple zl =>
              split at h
              · rename_i rl
                exact ⟨_, _, _, _, _, _, rfl⟩
              · cases h
            | _ => simp [areT] at h3
          · cases h
        · cases h
      · cases h
    · cases h
  · cases h
theorem e_want_own_case (hb : b.ok) {k : Nat} (hv : wd k v = true) (hk : k ≤ 60) (h : flawC b v = .none) : F_want_own_case [.v b.t, .v v] st = .ok (.v .none) st := by
  apply eqn_of
  unfold F_want_own_case m_want_own_case
  simp [w_ok, w_bad, w_bind, w_bindN, w_toS, w_itb, w_var, w_c, w_bin, w_un, w_cmpT, w_mB, w_chain, w_tru, w_andT, w_orT, w_notT, w_andV, w_orV, w_notV, w_if, w_nil, w_cons, w_tup, w_lst, w_lstM, w_call, w_fn, w_fnK, w_meth, w_noP, w_part, w_slice, w_rg1, w_lstRgM, w_lstRg, w_tupRg, w_gNm, w_gTu, w_gNil, w_gCons, w_gSb, w_skip, w_seq, w_asg, w_ret, w_drop, w_ifS, w_par2, w_par3, w_parN, w_runB, w_finV, w_finM, List.map, List.replicate, List.length, List.cons_append, List.nil_append, List.append_nil, List.getElem?_cons_zero, List.getElem?_cons_succ, List.set_cons_zero, List.set_cons_succ, setAll, pureTs, Option.map, e_flaw_of_case hb hv hk, h, opIsN, isN_v, isNo, take_all]
theorem e_rulings_in {a ct f sk : T} {zl rl : List T} : F_rulings_in [.v (.tuple [a, ct, f, .tuple zl, .tuple rl, sk])] st = .ok (.ref st.length) (st ++ [.lst (zipT2 rl zl)]) := by
  have : EvO (F_rulings_in [.v (.tuple [a, ct, f, .tuple zl, .tuple rl, sk])] st) fun d s => d = .ref st.length ∧ s = st ++ [.lst (zipT2 rl zl)] := by
    unfold F_rulings_in m_rulings_in
    simp [w_ok, w_bad, w_bind, w_bindN, w_toS, w_itb, w_var, w_c, w_bin, w_un, w_cmpT, w_mB, w_chain, w_tru, w_andT, w_orT, w_notT, w_andV, w_orV, w_notV, w_if, w_nil, w_cons, w_tup, w_lst, w_lstM, w_call, w_fn, w_fnK, w_meth, w_noP, w_part, w_slice, w_rg1, w_lstRgM, w_lstRg, w_tupRg, w_gNm, w_gTu, w_gNil, w_gCons, w_gSb, w_skip, w_seq, w_asg, w_ret, w_drop, w_ifS, w_par2, w_par3, w_parN, w_runB, w_finV, w_finM, List.map, List.replicate, List.length, List.cons_append, List.nil_append, List.append_nil, List.getElem?_cons_zero, List.getElem?_cons_succ, List.set_cons_zero, List.set_cons_succ, setAll, pureTs, Option.map, w_listZip, cx3, cx4, asSeq]
  obtain ⟨d, s, e, rfl, rfl⟩ := this.ex
  exact e
theorem e_rulings_of (hb : b.ok) {k : Nat} {a ct f sk : T} {zl rl : List T} (hv : wd k (.tuple [a, ct, f, .tuple zl, .tuple rl, sk]) = true) (hk : k ≤ 60) (h : flawC b (.tuple [a, ct, f, .tuple zl, .tuple rl, sk]) = .none) :
    F_rulings_of [.v b.t, .v (.tuple [a, ct, f, .tuple zl, .tuple rl, sk])] st = .ok (.ref st.length) (st ++ [.lst (zipT2 rl zl)]) := by
  have : EvO (F_rulings_of [.v b.t, .v (.tuple [a, ct, f, .tuple zl, .tuple rl, sk])] st) fun d s => d = .ref st.length ∧ s = st ++ [.lst (zipT2 rl zl)] := by
    unfold F_rulings_of m_rulings_of
    simp [w_ok, w_bad, w_bind, w_bindN, w_toS, w_itb, w_var, w_c, w_bin, w_un, w_cmpT, w_mB, w_chain, w_tru, w_andT, w_orT, w_notT, w_andV, w_orV, w_notV, w_if, w_nil, w_cons, w_tup, w_lst, w_lstM, w_call, w_fn, w_fnK, w_meth, w_noP, w_part, w_slice, w_rg1, w_lstRgM, w_lstRg, w_tupRg, w_gNm, w_gTu, w_gNil, w_gCons, w_gSb, w_skip, w_seq, w_asg, w_ret, w_drop, w_ifS, w_par2, w_par3, w_parN, w_runB, w_finV, w_finM, List.map, List.replicate, List.length, List.cons_append, List.nil_append, List.append_nil, List.getElem?_cons_zero, List.getElem?_cons_succ, List.set_cons_zero, List.set_cons_succ, setAll, pureTs, Option.map, e_want_book hb, e_want_own_case hb hv hk h, e_rulings_in]
  obtain ⟨d, s, e, rfl, rfl⟩ := this.ex
  exact e
theorem firstBad_lt {p : Nat → T → Bool} : ∀ {ts : List T} {k i : Nat}, firstBad p k ts = some i → i < k + ts.length
  | [], k, i, h => by simp [firstBad] at h
  | t :: ts, k, i, h => by
    rw [firstBad] at h
    split at h
    · have := firstBad_lt h
      simp only [List.length_cons]; omega
    · cases h; simp
theorem note_ok {w : Str} {t : T} (hw : okB 100 8 0 2 (.str w) = true) (ht : okB 100 0 0 2 t = true) : OkT 100 20 1 2 (noteT w t) := by
  have h1 := okB_ok hw
  have h2 := okB_ok ht
  have on : OkL 100 0 0 2 [] := (OkL.nil (n := 100) (k := 2)).mono
  exact (OkT.tup (OkL.cons h1 (OkL.cons h2 on)) (by simp)).mono
theorem flaw_okt {k : Nat} (hv : wd k v = true) (hk : k ≤ 60) : OkT 100 20 1 2 (flawC b v) := by
  have hn : okB 100 0 0 2 PyData.none = true := by decide
  unfold flawC
  split
  · rename_i w ct f z r sk
    split
    · split
      · split
        · split
          · split
            · rename_i rl
              split
              · split
                · rename_i i hi
                  have h1 := firstBad_lt hi
                  simp only [wd, wds, Bool.and_eq_true, decide_eq_true_eq] at hv
                  have h2 := hv.2.2.2.2.2.1.1
                  refine note_ok (by decide +kernel) ?_
                  simp only [okB, Bool.and_eq_true, decide_eq_true_eq]
                  refine ⟨⟨⟨?_, ?_⟩, ?_⟩, rfl⟩
                  · simp [lv]; omega
                  · simp [PyData.bulk]
                  · simp [PyData.depth]
                · split
                  · exact (okB_ok hn).mono
                  · exact note_ok (by decide +kernel) hn
              · exact note_ok (by decide +kernel) hn
            · exact note_ok (by decide +kernel) hn
          · exact note_ok (by decide +kernel) hn
        · exact note_ok (by decide +kernel) hn
      · exact note_ok (by decide +kernel) hn
    · exact note_ok (by decide +kernel) hn
  · exact note_ok (by decide +kernel) hn
end
end Law

namespace Law
open PySem PL
open L2 (atI ixN CDiv CMul CPow RgOk)
/-! ### one value -/
theorem pick10 {x y : D} : pickL [1, 0] [x, y] = [y, x] := rfl
theorem mul2 {x y : T} {s : Sto} : opMul (.v (.list [x, y])) (.v (.int 2)) s = .ok (.v (.list [x, y, x, y])) s := by
  have h : -(2 ^ 63) ≤ (2 : Int) ∧ (2 : Int) < 2 ^ 63 ∧ ([x, y] : List T).length * (2 : Int).toNat ≤ sizeLine := ⟨by decide, by decide, show 2 * 2 ≤ sizeLine by decide⟩
  simp only [opMul, asLt, h, and_self, if_true]
  rfl
theorem ok4 {x : T} {k : Bool} (h : OkT 100 20 1 2 x) : OkT 100 100 3 4 (.list [x, .bool k, x, .bool k]) := by
  have h1 : OkT 100 20 1 4 x := h.mono
  have h2 : OkT 100 0 1 4 (.bool k) := ⟨rfl, rfl, by simp [PyData.bulk], by simp [PyData.depth]⟩
  have on : OkL 100 0 1 4 [] := (OkL.nil (n := 100) (k := 4)).mono
  exact (OkT.lst (OkL.cons h1 (OkL.cons h2 (OkL.cons h1 (OkL.cons h2 on)))) (by simp)).mono
theorem last_get {s : Sto} {x : MO} : (s ++ [x])[List.length s]? = some x := by rw [List.getElem?_append_right (Nat.le_refl _), Nat.sub_self]; rfl
theorem last_set {s : Sto} {x y : MO} : List.set (s ++ [x]) (List.length s) y = s ++ [y] := by rw [List.set_append_right _ _ (Nat.le_refl _), Nat.sub_self]; rfl
theorem zip_okl {N d k : Nat} : ∀ {xs ys : List T} {c c' : Nat}, OkL N c d k xs → OkL N c' d k ys → 2 ≤ k → OkL N (2 * c + c') (d + 1) k (zipT2 xs ys)
  | [], _, c, c', _, _, _ => by simp only [zipT2]; exact (OkL.nil (n := N) (k := k)).mono
  | _ :: _, [], c, c', _, _, _ => by simp only [zipT2]; exact (OkL.nil (n := N) (k := k)).mono
  | x :: xs, y :: ys, c, c', h1, h2, hk => by
    have split : ∀ {z : T} {zs : List T} {c : Nat}, OkL N c d k (z :: zs) → OkT N z.bulk d k z ∧ OkL N (PyData.bulkAll zs) d k zs ∧ z.bulk + 1 + PyData.bulkAll zs ≤ c := fun h => by
      obtain ⟨q0, q1, q2, q3⟩ := h
      simp only [wds, lvs, Bool.and_eq_true] at q0 q1
      simp only [PyData.bulkAll] at q2
      simp only [PyData.depthAll] at q3
      exact ⟨⟨q0.1, q1.1, Nat.le_refl _, by omega⟩, ⟨q0.2, q1.2, Nat.le_refl _, by omega⟩, by omega⟩
    obtain ⟨a1, a2, a3⟩ := split h1
    obtain ⟨b1, b2, b3⟩ := split h2
    have ih := zip_okl a2 b2 hk
    simp only [zipT2]
    have on : OkL N 0 d k [] := (OkL.nil (n := N) (k := k)).mono
    have ht := OkT.tup (OkL.cons a1 (OkL.cons b1 on)) (by simp; omega)
    exact (OkL.cons ht ih).mono
theorem mid_get {s l : Sto} {x : MO} : (s ++ x :: l)[List.length s]? = some x := by rw [List.getElem?_append_right (Nat.le_refl _), Nat.sub_self]; rfl
theorem mid_set {s l : Sto} {x y : MO} : List.set (s ++ x :: l) (List.length s) y = s ++ y :: l := by rw [List.set_append_right _ _ (Nat.le_refl _), Nat.sub_self]; rfl
theorem toTs_two {s : Sto} {A B : Nat} {xs ys : List T} (h1 : s[A]? = some (.lst xs)) (h2 : s[B]? = some (.lst ys)) : toTs s [.ref A, .ref B] = some [.list xs, .list ys] := by
  simp only [toTs, toT, asL, asLt, h1, h2]
section
variable {n : Nat} {s : Sto} {b : Bk} {v : T} {vs : List T} {Z : Zz} {x2 x4 x6 x7 x8 x9 x10 x11 x12 x13 x14 : Option D}
theorem val_step (hb : b.ok) (hv : OkT (10 ^ 31) 3000 8 12 v) (q : ∀ x8 x9 x10 x11 J, Z.nx [some (.ref n), some (.v b.t), x2, some (.v (.list vs)), x4, some (.v v), x6, x7, x8, x9, x10, x11, x12, x13, x14] (s ++ J)) :
    EvS ((mSeq (mPar2 9 10 (mCons (mFn 2 F_lw_flaw (mCons (mVar 1) (mCons (mVar 5) mNil)) []) (mCons (mCall fRepr (mCons (mVar 5) mNil)) mNil)))
  (mSeq (mAsg (mLstM (mCons (mFn 2 F_case_flaw (mCons (mVar 1) (mCons (mVar 5) mNil)) []) (mCons (mFn 2 F_is_case (mCons (mVar 1) (mCons (mVar 5) mNil)) []) (mCons (mFnK 2 [1, 0] F_case_flaw mNil (mCons (mVar 5) (mCons (mVar 1) mNil)) 0 2) (mCons (mFnK 2 [1, 0] F_is_case mNil (mCons (mVar 5) (mCons (mVar 1) mNil)) 0 2) mNil))))) (gNm 8))
  (mSeq (mIfS (mOrT (mCmpT opNe (mCall fRepr (mCons (mVar 8) mNil)) (mCall fRepr (mCons (mBin opMul (mLst (mCons (mVar 9) (mCons (mBin (opIsN false) (mVar 9) (mC (.v .none))) mNil))) (mC (.v (.int 2)))) mNil))) (mCmpT opNe (mCall fRepr (mCons (mVar 5) mNil)) (mVar 10))) (mRet (mC (.v (.bool false)))) mSkip)
  (mIfS (mCmpT (opIsN false) (mVar 9) (mC (.v .none))) (mSeq (mAsg (fun env st => (mLc (mItZ2 (mCons (mBin opIx (mVar 5) (mC (.v (.int 4)))) (mCons (mBin opIx (mVar 5) (mC (.v (.int 3)))) mNil))) (gTu 2 (gCons (gNm 13) (gCons (gNm 14) gNil))) mYes (mTup (mCons (mVar 13) (mCons (mVar 14) mNil))) [13, 14] env st).bind finF) (gNm 11))
  (mSeq (mAsg (mFn 2 F_rulings_of (mCons (mVar 1) (mCons (mVar 5) mNil)) []) (gNm 8))
  (mSeq (mIfS (mCmpT opNe (mReprL (mCons (mVar 8) (mCons (mFnK 2 [1, 0] F_rulings_of mNil (mCons (mVar 5) (mCons (mVar 1) mNil)) 0 2) mNil))) (mCall fRepr (mCons (mLst (mCons (mVar 11) (mCons (mVar 11) mNil))) mNil))) (mRet (mC (.v (.bool false)))) mSkip)
  (mSeq (mDrop (mMeth fAppend (mVar 8) (mCons (mC (.v .none)) mNil)))
  (mIfS (mCmpT opNe (mCall fRepr (mCons (mFn 2 F_rulings_of (mCons (mVar 1) (mCons (mVar 5) mNil)) []) mNil)) (mCall fRepr (mCons (mVar 11) mNil))) (mRet (mC (.v (.bool false)))) mSkip))))) mSkip))))
      [some (.ref n), some (.v b.t), x2, some (.v (.list vs)), x4, some (.v v), x6, x7, x8, x9, x10, x11, x12, x13, x14] s) Z := by
  have hk : (12 : Nat) ≤ 60 := by decide
  have hf := flaw_okt (b := b) hv.w hk
  have h4 := (ok4 (k := isNo (flawC b v)) hf)
  rw [w_seq, w_par2]
  simp only [w_cons, w_nil, w_fn, w_call, w_var, w_ok, e_lw_flaw hb hv.w hk, OkT.repr hv, List.append_nil, List.length, List.getElem?_cons_zero, List.getElem?_cons_succ, List.set_cons_zero, List.set_cons_succ]
  refine ⟨trivial, ?_⟩
  rw [w_seq, w_asg]
  simp only [w_lstM, w_cons, w_nil, w_fn, w_fnK, w_var, w_ok, e_case_flaw hb hv.w hk, e_is_case hb hv.w hk, pick10, pureTs, Option.map, List.append_nil, List.nil_append, List.length, List.getElem?_cons_zero, List.getElem?_cons_succ, List.set_cons_zero, List.set_cons_succ]
  refine ⟨trivial, trivial, ⟨trivial, trivial, trivial⟩, ⟨trivial, trivial, trivial⟩, by decide, ?_⟩
  rw [w_gNm]
  simp only [List.set_cons_zero, List.set_cons_succ]
  have hr1 := fRepr_ref (last_get (s := s) (x := .lst [flawC b v, .bool (isNo (flawC b v)), flawC b v, .bool (isNo (flawC b v))])) h4.reprB
  have hcond : EvO ((mOrT (mCmpT opNe (mCall fRepr (mCons (mVar 8) mNil)) (mCall fRepr (mCons (mBin opMul (mLst (mCons (mVar 9) (mCons (mBin (opIsN false) (mVar 9) (mC (.v .none))) mNil))) (mC (.v (.int 2)))) mNil))) (mCmpT opNe (mCall fRepr (mCons (mVar 5) mNil)) (mVar 10)))
      [some (.ref n), some (.v b.t), x2, some (.v (.list vs)), x4, some (.v v), x6, x7, some (.ref (List.length s)), some (.v (flawC b v)), some (.v (.str v.shown)), x11, x12, x13, x14] (s ++ [.lst [flawC b v, .bool (isNo (flawC b v)), flawC b v, .bool (isNo (flawC b v))]])) fun k s1 => k = false ∧ s1 = s ++ [.lst [flawC b v, .bool (isNo (flawC b v)), flawC b v, .bool (isNo (flawC b v))]] := by
    simp only [w_orT, w_cmpT, w_call, w_cons, w_nil, w_lst, w_bin, w_var, w_c, w_ok, hr1, isNoneD_d, pureTs, Option.map, mul2, OkT.repr h4, OkT.repr hv, oq_str, beq_self_eq_true, List.length, List.getElem?_cons_zero, List.getElem?_cons_succ, Bool.not_true, if_true, Bool.false_eq_true, if_false, and_true]
    decide
  refine guardF hcond ?_
  generalize hs1 : s ++ [MO.lst [flawC b v, .bool (isNo (flawC b v)), flawC b v, .bool (isNo (flawC b v))]] = s1
  have q1 : ∀ x8 x9 x10 x11 J, Z.nx [some (.ref n), some (.v b.t), x2, some (.v (.list vs)), x4, some (.v v), x6, x7, x8, x9, x10, x11, x12, x13, x14] (s1 ++ J) := fun x8 x9 x10 x11 J => by
    rw [← hs1, List.append_assoc]; exact q _ _ _ _ _
  clear hs1 q hcond hr1
  rw [w_ifS]
  simp only [w_cmpT, w_var, w_c, w_ok, isNoneD_d, List.getElem?_cons_zero, List.getElem?_cons_succ]
  cases hno : isNo (flawC b v) with
  | false =>
    rw [if_neg Bool.false_ne_true, w_skip]
    have := q1 (some (.ref (List.length s))) (some (.v (flawC b v))) (some (.v (.str v.shown))) x11 []
    rwa [List.append_nil] at this
  | true =>
    rw [if_pos rfl]
    have hfl : flawC b v = .none := by
      cases h : flawC b v with
      | none => rfl
      | _ => rw [h] at hno; cases hno
    obtain ⟨a, ct, f, sk, zl, rl, rfl⟩ := case_parts hfl
    rw [hfl]
    obtain ⟨hL, _, _⟩ := hv.unT
    have hz : OkL (10 ^ 31) 3000 6 12 zl := (OkT.unT (hL.get (t := .tuple zl) (by simp))).1
    have hrr : OkL (10 ^ 31) 3000 6 12 rl := (OkT.unT (hL.get (t := .tuple rl) (by simp))).1
    have hZ0 := zip_okl hrr hz (by decide)
    obtain ⟨W, hW⟩ : ∃ W, W = zipT2 rl zl := ⟨_, rfl⟩
    rw [← hW] at hZ0
    have hwr : rl.length ≤ 12 := (OkT.unT (hL.get (t := .tuple rl) (by simp))).2.2
    have hWl : W.length ≤ 12 := by rw [hW, zipT2_len]; omega
    have oW : OkT (10 ^ 31) 9000 8 12 (.list W) := (OkT.lst hZ0 hWl).mono
    have oWW : OkT (10 ^ 31) 30000 9 12 (.list [.list W, .list W]) := by
      have on : OkL (10 ^ 31) 0 8 12 [] := (OkL.nil (n := 10 ^ 31) (k := 12)).mono
      exact (OkT.lst (OkL.cons oW (OkL.cons oW on)) (by simp)).mono
    obtain ⟨y, hy⟩ : ∃ y : T, y = .tuple [a, ct, f, .tuple zl, .tuple rl, sk] := ⟨_, rfl⟩
    have y3 : ∀ {s : Sto}, opIx (.v y) (.v (.int 3)) s = .ok (.v (.tuple zl)) s := fun {s} => by rw [hy]; exact cx3
    have y4 : ∀ {s : Sto}, opIx (.v y) (.v (.int 4)) s = .ok (.v (.tuple rl)) s := fun {s} => by rw [hy]; exact cx4
    have yr : ∀ {s : Sto}, F_rulings_of [.v b.t, .v y] s = .ok (.ref s.length) (s ++ [.lst W]) := fun {s} => by rw [hy, hW]; exact e_rulings_of hb hv.w hk hfl
    rw [← hy] at q1 ⊢
    have hq : ∀ {env : EnvD} {s : Sto}, List.length env = 15 → lcGo none (gTu 2 (gCons (gNm 13) (gCons (gNm 14) gNil))) mYes (mTup (mCons (mVar 13) (mCons (mVar 14) mNil))) env W s = .ok (W.map id) s := fun {env s} hl =>
      lc_eq _ _ fun z hz => by
        rw [hW] at hz
        obtain ⟨u, v, rfl, _, _⟩ := zip_mem hz
        have g13 : ((env.set 13 (some (D.v u))).set 14 (some (D.v v)))[13]? = some (some (.v u)) := by
          rw [List.getElem?_set_ne (by decide), List.getElem?_set_self (by omega)]
        have g14 : ((env.set 13 (some (D.v u))).set 14 (some (D.v v)))[14]? = some (some (.v v)) := by
          rw [List.getElem?_set_self (by simp; omega)]
        simp only [w_gTu, w_gCons, w_gNil, w_gNm, w_tup, w_cons, w_nil, w_var, w_ok, g13, g14, pureTs, Option.map, List.length]
        exact ⟨trivial, by decide, rfl, trivial⟩
    rw [w_seq, w_asg]
    simp only [w_bind, w_lc, w_itZ2, w_cons, w_nil, w_bin, w_var, w_c, w_ok, y3, y4, asSeq, chk2, noRef, ↓reduceIte, chkOf, ← hW, List.getElem?_cons_zero, List.getElem?_cons_succ]
    refine ⟨small_len (m := 100) (by omega), ?_⟩
    rw [hq (by simp [wipeD])]
    simp only [w_ok, finF, List.map_id, w_gNm, List.set_cons_zero, List.set_cons_succ]
    rw [w_seq, w_asg]
    simp only [w_fn, w_cons, w_nil, w_var, w_ok, yr, List.append_nil, List.length, List.getElem?_cons_zero, List.getElem?_cons_succ]
    refine ⟨trivial, ?_⟩
    rw [w_gNm]
    simp only [List.set_cons_zero, List.set_cons_succ]
    have e2 : ∀ {x : MO}, (s1 ++ [MO.lst W]) ++ [x] = s1 ++ [MO.lst W, x] := fun {x} => by simp
    have l2 : (s1 ++ [MO.lst W]).length = s1.length + 1 := by simp
    have g2 : ∀ {x : MO}, (s1 ++ [MO.lst W, x])[s1.length + 1]? = some x := fun {x} => by
      rw [List.getElem?_append_right (by omega)]
      have : s1.length + 1 - s1.length = 1 := by omega
      rw [this]; rfl
    rw [w_seq, w_ifS]
    simp only [w_cmpT, w_reprL, w_call, w_cons, w_nil, w_fnK, w_var, w_ok, pick10, yr, e2, l2, toTs_two mid_get g2, w_lst, pureTs, Option.map, OkT.repr oWW, oq_str, beq_self_eq_true, List.append_nil, List.nil_append, List.length, List.getElem?_cons_zero, List.getElem?_cons_succ, Bool.not_true, ↓reduceIte, Bool.false_eq_true, w_skip]
    refine ⟨⟨trivial, trivial, trivial⟩, ⟨by decide, oWW.reprB⟩, by decide, ?_⟩
    rw [w_seq, w_drop]
    simp only [w_meth, w_cons, w_nil, w_var, w_c, w_ok, asL, asLt, mid_get, mid_set, fAppend, onRef, w_itb, List.getElem?_cons_zero, List.getElem?_cons_succ]
    refine ⟨Nat.lt_of_le_of_lt (show W.length ≤ 100 by omega) (by decide), ?_⟩
    rw [w_ifS]
    have r3 := fun (s : Sto) => fRepr_ref (last_get (s := s) (x := .lst W)) oW.reprB
    simp only [w_cmpT, w_call, w_cons, w_nil, w_fn, w_var, w_ok, yr, r3, OkT.repr oW, oq_str, beq_self_eq_true, List.append_nil, List.length, List.getElem?_cons_zero, List.getElem?_cons_succ, Bool.not_true, ↓reduceIte, Bool.false_eq_true, w_skip]
    refine ⟨trivial, ?_⟩
    rw [List.append_assoc]
    exact q1 _ _ _ _ _
end
end Law

namespace Law
open PySem PL
open L2 (atI ixN CDiv CMul CPow RgOk)
/-! ### the law -/
theorem sl {x : Nat} (h : x ≤ 1000000) : x ≤ sizeLine := small_len h
def VOk (t : T) : Prop := OkT (10 ^ 31) 3000 8 12 t
theorem v_lit {t : T} (h : okB 20 100 5 8 t = true) : VOk t := (okB_ok h).mono (by decide) (by omega) (by omega)
structure Vs (vs : List T) (k : Nat) : Prop where
  ok : ∀ t ∈ vs, VOk t
  len : vs.length ≤ k
theorem Vs.app {vs us : List T} {k k' : Nat} (h : Vs vs k) (h2 : Vs us k') : Vs (vs ++ us) (k + k') :=
  ⟨fun t ht => (List.mem_append.mp ht).elim (h.ok t) (h2.ok t), by rw [List.length_append]; have := h.len; have := h2.len; omega⟩
theorem Vs.cons {t : T} {us : List T} {k : Nat} (h : VOk t) (h2 : Vs us k) : Vs (t :: us) (k + 1) :=
  ⟨fun u hu => (List.mem_cons.mp hu).elim (fun e => e ▸ h) (h2.ok u), by rw [List.length_cons]; have := h2.len; omega⟩
theorem Vs.nil : Vs [] 0 := ⟨by simp, by simp⟩
theorem pow29 {st : Sto} : opPow (.v (.int 10)) (.v (.int 29)) st = .ok (.v (.int (10 ^ 29))) st := by
  have h : CPow 10 29 := by decide
  simp only [opPow, opI, h, if_true]
  rfl
theorem repr_at {n c d k : Nat} {t : T} (h : OkT n c d k t) (hn : n ≤ 10 ^ 40 := by decide) (hc : c ≤ 300000 := by decide) (hd : d ≤ 64 := by decide) {st : Sto} : fRepr [.v t] st = .ok (.v (.str t.shown)) st := h.repr hn hc hd
section
variable {n : Nat} {st s0 : Sto}
theorem right_ok (hn : n < List.length st) (h0 : Pt n st s0) : EvO (F_lw_right [.ref n] s0) fun d _ => d = .v (.bool true) := by
  unfold F_lw_right m_lw_right
  rw [w_runB]
  simp only [List.map, List.replicate, List.length, List.cons_append, List.nil_append]
  rw [w_seq, w_asg]
  simp only [w_fn, w_cons, w_nil, w_var, w_c, w_ok, w_gNm, List.append_nil, List.length, List.getElem?_cons_zero, List.getElem?_cons_succ, List.set_cons_succ, List.set_cons_zero]
  refine ⟨trivial, EvO.imp (book_ok hn h0 (by decide) (by decide) (by decide) (by decide) (by decide) (by decide)) fun a s1 ⟨h1, b, ea, hb⟩ => ?_⟩
  subst ea
  rw [w_seq, w_asg]
  simp only [w_fn, w_cons, w_nil, w_var, w_c, w_ok, w_gNm, w_lst, w_tup, w_bin, pow29, pureTs, Option.map, List.append_nil, List.length, List.getElem?_cons_zero, List.getElem?_cons_succ, List.set_cons_succ, List.set_cons_zero]
  repeat' refine And.intro (by decide) ?_
  refine EvO.imp (pick_pt hn h1 (by decide) (by decide)) fun a s2 ⟨h2, sk, hsk, ea⟩ => ?_
  subst ea
  have ⟨hs1, hs2⟩ : strk sk = true ∧ okB (10 ^ 30) 20 1 8 sk = true := by
    simp only [List.mem_cons, List.not_mem_nil, or_false] at hsk
    rcases hsk with rfl | rfl | rfl | rfl | rfl | rfl <;> exact ⟨by decide +kernel, by decide +kernel⟩
  have hso := okB_ok hs2
  clear hsk hs2
  rw [w_seq, w_parN]
  simp only [w_cons, w_nil, w_fn, w_var, w_c, w_ok, List.append_nil, List.length, List.getElem?_cons_zero, List.getElem?_cons_succ]
  refine ⟨trivial, EvO.imp (case_ok hn h2 hb hs1 hso) fun a s3 ⟨h3, v, ea, hc⟩ => ?_⟩
  subst ea
  refine ⟨trivial, EvO.imp (book_ok hn h3 (by decide) (by decide) (by decide) (by decide) (by decide) (by decide)) fun a s4 ⟨h4, o, ea, ho⟩ => ?_⟩
  subst ea
  refine ⟨⟨trivial, by decide⟩, ?_⟩
  simp only [setAll, List.set_cons_succ, List.set_cons_zero]
  have hcok := hc.ok
  obtain ⟨ts, ev, hl6⟩ := hc.sh
  have hco' := hcok
  rw [ev] at hco'
  obtain ⟨hL, _, _⟩ := hco'.unT
  have ct5 := cut_take (ts := ts) (i := 5) (by decide) (by omega)
  have cd1 := cut1 ts
  have e0 : strk (.tuple []) = true := rfl
  have e1 : OkT (10 ^ 30) 20 1 8 (.tuple []) := okB_ok (by decide +kernel)
  have e4 : strk (.tuple [.int 4]) = true := by decide +kernel
  have e5 : OkT (10 ^ 30) 20 1 8 (.tuple [.int 4]) := okB_ok (by decide +kernel)
  rw [w_seq, w_asg]
  simp only [w_fn, w_cons, w_nil, w_var, w_c, w_ok, w_gNm, w_lst, w_tup, w_bin, w_call, w_slice, w_part, w_noP, ev, fList, asSeq, opSl, opAdd, ct5, cd1, w_itb, pureTs, Option.map, List.append_nil, List.length, List.getElem?_cons_zero, List.getElem?_cons_succ, List.set_cons_succ, List.set_cons_zero]
  repeat (refine ⟨sl (by first | (simp; done) | (simp; omega)), ?_⟩)
  refine ⟨trivial, EvO.imp (case_ok hn h4 ho e0 e1) fun a s5 ⟨h5, v2, ea, hc2⟩ => ?_⟩
  subst ea
  simp only [pureTs, Option.map, List.length]
  refine ⟨by decide, ?_⟩
  have hvs : Vs [.tuple ts, .list ts, .tuple (List.take (Int.toNat 5) ts), .tuple (ts ++ [.int 0]), .tuple ([.str "house"] ++ List.drop 1 ts), .none, .int 0, .str "case", .tuple [], .dict [], .tuple [.tuple ts], v2] 12 := by
    have hL' : OkL (10 ^ 30) 100 2 8 ts := hL.mono
    have o1 : OkL (10 ^ 30) 10 2 8 [.int 0] := by
      have on : OkL (10 ^ 30) 0 2 8 [] := (OkL.nil (n := 10 ^ 30) (k := 8)).mono
      exact (OkL.cons (okI (N := 10 ^ 30) (c := 0) (d := 2) (k := 8) (i := 0) (by decide) (by decide)) on).mono
    have o2 : OkL (10 ^ 30) 20 2 8 [.str "house"] := by
      have on : OkL (10 ^ 30) 0 2 8 [] := (OkL.nil (n := 10 ^ 30) (k := 8)).mono
      have q : OkT (10 ^ 30) 10 2 8 (.str "house") := okB_ok (by decide +kernel)
      exact (OkL.cons q on).mono
    have o3 : OkT (10 ^ 30) 100 3 8 (.tuple ts) := hco'
    have on3 : OkL (10 ^ 30) 0 3 8 [] := (OkL.nil (n := 10 ^ 30) (k := 8)).mono
    refine .cons (o3.mono (by decide)) (.cons ?_ (.cons ?_ (.cons ?_ (.cons ?_ (.cons (v_lit (by decide +kernel)) (.cons (v_lit (by decide +kernel)) (.cons (v_lit (by decide +kernel)) (.cons (v_lit (by decide +kernel)) (.cons (v_lit (by decide +kernel)) (.cons ?_ (.cons ?_ .nil)))))))))))
    · exact (OkT.lst hL' (by omega)).mono (by decide)
    · exact (OkT.tup (hL'.take _) (by simp; omega)).mono (by decide)
    · exact (OkT.tup (hL'.app o1) (by simp; omega)).mono (by decide)
    · exact (OkT.tup (o2.app (hL'.drop 1)) (by simp; omega)).mono (by decide)
    · exact (OkT.tup (OkL.cons o3 on3) (by simp)).mono (by decide)
    · exact hc2.ok.mono (by decide)
  revert hvs
  generalize [PyData.tuple ts, .list ts, .tuple (List.take (Int.toNat 5) ts), .tuple (ts ++ [.int 0]), .tuple ([.str "house"] ++ List.drop 1 ts), .none, .int 0, .str "case", .tuple [], .dict [], .tuple [.tuple ts], v2] = vs
  intro hvs
  have hl1 := hvs.len
  have h6pos : 0 < ts.length := by omega
  rw [w_seq, w_asg]
  simp only [w_bin, w_var, w_ok, w_bind, w_lc, w_itR1, w_cons, w_nil, w_c, List.getElem?_cons_zero, List.getElem?_cons_succ]
  refine ⟨by omega, sl (by rw [rg_len]; decide), ?_⟩
  refine lc_inv (Pt n st) VOk _ _ h5 (fun t ht s h => ?_) fun ys s hy hys h => ?_
  · simp only [wipeD, List.foldl, w_gNm, w_fn, w_tup, w_cons, w_nil, w_var, w_c, w_ok, pureTs, Option.map, List.append_nil, List.length, List.getElem?_cons_zero, List.getElem?_cons_succ, List.set_cons_succ, List.set_cons_zero]
    exact ⟨by decide, trivial, EvO.imp (case_ok hn h hb e4 e5) fun d s ⟨h, t', e, ok⟩ => ⟨h, _, e, ok.ok.mono (by decide)⟩⟩
  rw [rg_len] at hy
  have hvy : Vs ys 3 := ⟨hys, by rw [hy]; decide⟩
  have hv2 := hvs.app hvy
  simp only [finF, opAdd, asLt, w_itb, w_ok, w_bind, w_lc, w_itR1, w_cons, w_nil, w_c]
  refine ⟨sl (by have := hv2.len; rw [List.length_append] at this; omega), by omega, sl (by rw [rg_len]; decide), ?_⟩
  refine lc_inv (Pt n st) VOk _ _ h (fun t ht s h => ?_) fun zs s hz hzs h => ?_
  · simp only [wipeD, List.foldl, w_gNm, w_fn, w_cons, w_nil, w_var, w_ok, List.append_nil, List.length, List.getElem?_cons_zero, List.getElem?_cons_succ, List.set_cons_succ, List.set_cons_zero]
    refine ⟨trivial, EvO.imp (deep_ok hn h hco' h6pos (by decide) (by decide) (by decide)) fun d s ⟨h, us, e, hl, ok⟩ => ⟨h, _, e, ok.mono (by decide)⟩⟩
  rw [rg_len] at hz
  have hvz : Vs zs 24 := ⟨hzs, by rw [hz]; decide⟩
  have hv3 := hv2.app hvz
  have hl3 := hv3.len
  simp only [finF, opAdd, asLt, w_itb, w_ok, w_gNm, List.set_cons_succ, List.set_cons_zero]
  refine ⟨sl (by have := hv3.len; rw [List.length_append] at this; omega), ?_⟩
  revert hv3 hl3
  generalize vs ++ ys ++ zs = vs2
  intro hv3 hl3
  rw [w_seq, w_asg]
  simp only [w_bin, w_var, w_ok, w_bind, w_lc, w_itR1, w_cons, w_nil, w_c, List.getElem?_cons_zero, List.getElem?_cons_succ]
  refine ⟨by omega, sl (by rw [rg_len]; decide), ?_⟩
  refine lc_inv (Pt n st) VOk _ _ h (fun t ht s h => ?_) fun us s hu hus h => ?_
  · simp only [wipeD, List.foldl, w_gNm, w_if, w_cmpT, w_fn, w_cons, w_nil, w_var, w_c, w_ok, List.append_nil, List.length, List.getElem?_cons_zero, List.getElem?_cons_succ, List.set_cons_succ, List.set_cons_zero]
    refine ⟨trivial, EvO.imp (draw_pt hn h (by decide) (by decide)) fun d s ⟨h, i, e, _⟩ => ?_⟩
    subst e
    simp only [oq_int, w_ok, Bool.false_eq_true, if_false]
    cases (i == 0) with
    | true =>
      simp only [↓reduceIte]
      refine ⟨trivial, EvO.imp (deep_ok hn h hco' h6pos (by decide) (by decide) (by decide)) fun d s ⟨h, us, e, hl, ok⟩ => ?_⟩
      subst e
      refine ⟨trivial, EvO.imp (deep_ok hn h ok (by omega) (by decide) (by decide) (by decide)) fun d s ⟨h, us, e, hl, ok⟩ => ⟨h, _, e, ok.mono (by decide)⟩⟩
    | false =>
      simp only [Bool.false_eq_true, ↓reduceIte]
      exact ⟨trivial, EvO.imp (bent_ok hn h hco' (by decide) (by decide) (by decide)) fun d s ⟨h, t', e, ok⟩ => ⟨h, _, e, ok.mono (by decide)⟩⟩
  rw [rg_len] at hu
  have hvu : Vs us 8 := ⟨hus, by rw [hu]; decide⟩
  have hv4 := hv3.app hvu
  simp only [finF, opAdd, asLt, w_itb, w_ok, w_gNm, List.set_cons_succ, List.set_cons_zero]
  refine ⟨sl (by have := hv4.len; rw [List.length_append] at this; omega), ?_⟩
  revert hv4
  generalize vs2 ++ us = vs3
  intro hv4
  rw [← ev]
  rw [w_seq, w_asg]
  simp only [w_call, w_cons, w_nil, w_var, w_ok, w_gNm, repr_at hb.okt, List.set_cons_succ, List.set_cons_zero, List.getElem?_cons_zero, List.getElem?_cons_succ]
  have hvw : wd 8 v = true := hcok.w
  refine guardF (by simp only [w_cmpT, w_fn, w_cons, w_nil, w_var, w_c, w_ok, List.append_nil, List.length, List.getElem?_cons_zero, List.getElem?_cons_succ, e_lw_flaw hb hvw (by decide), hc.fl, isNoneD_c]; simp [isNo]) ?_
  rw [w_seq, w_for, w_itS]
  simp only [w_var, w_ok, List.getElem?_cons_zero, List.getElem?_cons_succ, asSeq, asL, asLt, chkOf]
  refine for_inv (fun _ env _ => ∃ x5 x8 x9 x10 x11, env = [some (.ref n), some (.v b.t), some (.v sk), some (.v (.list vs3)), some (.v (.str b.t.shown)), x5, some (.v v), some (.v o.t), x8, x9, x10, x11, none, none, none]) _ 0 _ _ ⟨_, _, _, _, _, rfl⟩ (fun i t env s ht hI => ?_) fun env s hI => ?_
  · obtain ⟨x5, x8, x9, x10, x11, rfl⟩ := hI
    rw [w_gNm]
    simp only [List.set_cons_succ, List.set_cons_zero]
    exact val_step hb (hv4.ok t (List.mem_of_getElem? ht)) fun y8 y9 y10 y11 J => ⟨_, _, _, _, _, rfl⟩
  · obtain ⟨x5, x8, x9, x10, x11, rfl⟩ := hI
    simp only [w_ret, w_bin, w_call, w_cons, w_nil, w_var, w_ok, repr_at hb.okt, oq_str, beq_self_eq_true, w_finV, List.getElem?_cons_zero, List.getElem?_cons_succ, Bool.false_eq_true, if_false]
end
theorem law_main {ns : List Int} : EvO (F_law [.rol (ns.map .int)] []) fun d _ => d = .v (.bool true) := by
  unfold F_law m_law
  rw [w_runB, w_ret]
  simp only [List.map_cons, List.map_nil, List.replicate, List.length, List.cons_append, List.nil_append, w_call, w_bind, w_lc, w_itR1, w_cons, w_nil, w_c, w_ok]
  refine ⟨by decide, sl (by rw [rg_len]; decide), ?_⟩
  refine lc_inv (fun _ => True) (fun t => t = .bool true) _ _ trivial (fun t ht s _ => ?_) fun ys s hy hys _ => ?_
  · obtain ⟨j, hj⟩ := List.getElem?_of_mem ht
    obtain ⟨rfl, hlt⟩ := rg_get hj
    rw [Int.zero_add]
    simp only [wipeD, List.foldl, w_gNm, w_fn, w_cons, w_nil, w_var, w_ok, List.append_nil, List.length, List.getElem?_cons_zero, List.getElem?_cons_succ, List.set_cons_succ, List.set_cons_zero]
    refine ⟨trivial, EvO.imp (pot_ok (by omega)) fun d s' ⟨p, e1, e2, hp⟩ => ?_⟩
    subst e1
    have hP : Pt (List.length s) s' s' := by
      subst e2
      exact Pt.start (by rw [List.getElem?_append_right (Nat.le_refl _), Nat.sub_self]; rfl) hp
    have hn : List.length s < List.length s' := by subst e2; simp
    exact ⟨trivial, EvO.imp (right_ok hn hP) fun d s q => ⟨trivial, _, q, rfl⟩⟩
  · have hb : ∀ ys : List T, (∀ y ∈ ys, y = .bool true) → ∃ bs, boolsT ys = some bs ∧ bs.all id = true := fun ys => by
      induction ys with
      | nil => exact fun _ => ⟨[], rfl, rfl⟩
      | cons y ys ih =>
        intro h
        obtain ⟨bs, e, ha⟩ := ih fun z hz => h z (List.mem_cons_of_mem _ hz)
        have := h y List.mem_cons_self
        subst this
        exact ⟨true :: bs, by simp [boolsT, e], by simpa using ha⟩
    obtain ⟨bs, e, ha⟩ := hb ys hys
    simp only [finF, w_ok, fAll, onBools, asL, asLt, e, ha, w_finV]
end Law

namespace Law
open PySem PySem.Spec PL L2
theorem fund_uniq {K : PySem.W.Frag} {x q x' q' : Str} {p p' : Arguments} {b b' : List Stmt} {sc sc' : Scope} {d d' : List V} {k k' : List (Str × V)} {f : Addr} {fd fd' : FuncData} (F : FunD K x q p b sc d k f fd) (F' : FunD K x' q' p' b' sc' d' k' f fd') : fd' = fd := by
  obtain ⟨_, _, _, _, _, _, _, _, _, _, _, lk, _⟩ := F.ex
  obtain ⟨_, _, _, _, _, _, _, _, _, _, _, lk', _⟩ := F'.ex
  rw [lk] at lk'
  cases lk'
  rfl
theorem facts {K : PySem.W.Frag} {h : Heap} {mg : Str → Option Value} {f : Addr} (X : K.In h) (G : h.Ns mainGlobals mg) (hfa : mg ("law" : Str) = some (.ref f)) (c : He.SaysD HeadX.fa HeadX.fn K) :
    ∃ fd : FuncData, (∀ (s : Shared) (v : Value), BindsTo s fd ⟨[v], []⟩ [("script", v)]) ∧ ∀ (P : Program) (w : World) (base : Heap), K.In base → base.Ns mainGlobals mg → FnG P w K mg base 9 f fd ["script"] F_law := by
  have nm : Nm mg := ⟨He.free_ok X G (c.fact 52 (f := .free "abs") rfl), He.free_ok X G (c.fact 53 (f := .free "all") rfl), He.free_ok X G (c.fact 54 (f := .free "bool") rfl), He.free_ok X G (c.fact 55 (f := .free "divmod") rfl), He.free_ok X G (c.fact 56 (f := .free "enumerate") rfl), He.free_ok X G (c.fact 57 (f := .free "int") rfl), He.free_ok X G (c.fact 58 (f := .free "isinstance") rfl), He.free_ok X G (c.fact 59 (f := .free "len") rfl), He.free_ok X G (c.fact 60 (f := .free "list") rfl), He.free_ok X G (c.fact 61 (f := .free "max") rfl), He.free_ok X G (c.fact 62 (f := .free "min") rfl), He.free_ok X G (c.fact 63 (f := .free "range") rfl), He.free_ok X G (c.fact 64 (f := .free "repr") rfl), He.free_ok X G (c.fact 65 (f := .free "set") rfl), He.free_ok X G (c.fact 66 (f := .free "sorted") rfl), He.free_ok X G (c.fact 67 (f := .free "str") rfl), He.free_ok X G (c.fact 68 (f := .free "sum") rfl), He.free_ok X G (c.fact 69 (f := .free "tuple") rfl), He.free_ok X G (c.fact 70 (f := .free "zip") rfl), He.str_ok X G (c.fact 49 (f := .str "FACT" "fact") rfl), He.str_ok X G (c.fact 50 (f := .str "ISSUE" "issue") rfl), He.int_ok X G (c.fact 45 (f := .int "MOST_AMOUNT" 9) rfl), He.int_ok X G (c.fact 48 (f := .int "MOST_COURTS" 8) rfl), He.int_ok X G (c.fact 44 (f := .int "MOST_FACTS" 10) rfl), He.int_ok X G (c.fact 47 (f := .int "MOST_GROUNDS" 8) rfl), He.int_ok X G (c.fact 46 (f := .int "MOST_ISSUES" 6) rfl)⟩
  have x_lw_draw : FunX K mg ("_law_draw" : Str) (HeadX.top 40) := by
    obtain ⟨fd, F⟩ := c.def_ 25 (d := HeadX.dd "_law_draw" 40) rfl
    exact ⟨_, fd, F, He.glo_ok X G (c.fact 25 (f := .glo "_law_draw") rfl)⟩
  have x_lw_pick : FunX K mg ("_law_pick" : Str) (HeadX.top 41) := by
    obtain ⟨fd, F⟩ := c.def_ 26 (d := HeadX.dd "_law_pick" 41) rfl
    exact ⟨_, fd, F, He.glo_ok X G (c.fact 26 (f := .glo "_law_pick") rfl)⟩
  have x_lw_issues : FunX K mg ("_law_issues" : Str) (HeadX.top 42) := by
    obtain ⟨fd, F⟩ := c.def_ 27 (d := HeadX.dd "_law_issues" 42) rfl
    exact ⟨_, fd, F, He.glo_ok X G (c.fact 27 (f := .glo "_law_issues") rfl)⟩
  have x_lw_book : FunX K mg ("_law_book" : Str) (HeadX.top 43) := by
    obtain ⟨fd, F⟩ := c.def_ 28 (d := HeadX.dd "_law_book" 43) rfl
    exact ⟨_, fd, F, He.glo_ok X G (c.fact 28 (f := .glo "_law_book") rfl)⟩
  have x_lw_facts : FunX K mg ("_law_facts" : Str) (HeadX.top 44) := by
    obtain ⟨fd, F⟩ := c.def_ 29 (d := HeadX.dd "_law_facts" 44) rfl
    exact ⟨_, fd, F, He.glo_ok X G (c.fact 29 (f := .glo "_law_facts") rfl)⟩
  have x_lw_findings : FunX K mg ("_law_findings" : Str) (HeadX.top 45) := by
    obtain ⟨fd, F⟩ := c.def_ 30 (d := HeadX.dd "_law_findings" 45) rfl
    exact ⟨_, fd, F, He.glo_ok X G (c.fact 30 (f := .glo "_law_findings") rfl)⟩
  have x_lw_point : FunX K mg ("_law_point" : Str) (HeadX.top 46) := by
    obtain ⟨fd, F⟩ := c.def_ 31 (d := HeadX.dd "_law_point" 46) rfl
    exact ⟨_, fd, F, He.glo_ok X G (c.fact 31 (f := .glo "_law_point") rfl)⟩
  have x_lw_mosts : FunX K mg ("_law_mosts" : Str) (HeadX.top 47) := by
    obtain ⟨fd, F⟩ := c.def_ 32 (d := HeadX.dd "_law_mosts" 47) rfl
    exact ⟨_, fd, F, He.glo_ok X G (c.fact 32 (f := .glo "_law_mosts") rfl)⟩
  have x_lw_reason : FunX K mg ("_law_reason" : Str) (HeadX.top 48) := by
    obtain ⟨fd, F⟩ := c.def_ 33 (d := HeadX.dd "_law_reason" 48) rfl
    exact ⟨_, fd, F, He.glo_ok X G (c.fact 33 (f := .glo "_law_reason") rfl)⟩
  have x_lw_case : FunX K mg ("_law_case" : Str) (HeadX.top 49) := by
    obtain ⟨fd, F⟩ := c.def_ 34 (d := HeadX.dd "_law_case" 49) rfl
    exact ⟨_, fd, F, He.glo_ok X G (c.fact 34 (f := .glo "_law_case") rfl)⟩
  have x_lw_number : FunX K mg ("_law_number" : Str) (HeadX.top 50) := by
    obtain ⟨fd, F⟩ := c.def_ 35 (d := HeadX.dd "_law_number" 50) rfl
    exact ⟨_, fd, F, He.glo_ok X G (c.fact 35 (f := .glo "_law_number") rfl)⟩
  have x_lw_are : FunX K mg ("_law_are" : Str) (HeadX.top 51) := by
    obtain ⟨fd, F⟩ := c.def_ 36 (d := HeadX.dd "_law_are" 51) rfl
    exact ⟨_, fd, F, He.glo_ok X G (c.fact 36 (f := .glo "_law_are") rfl)⟩
  have x_lw_is_reason : FunX K mg ("_law_is_reason" : Str) (HeadX.top 52) := by
    obtain ⟨fd, F⟩ := c.def_ 37 (d := HeadX.dd "_law_is_reason" 52) rfl
    exact ⟨_, fd, F, He.glo_ok X G (c.fact 37 (f := .glo "_law_is_reason") rfl)⟩
  have x_lw_flaw : FunX K mg ("_law_flaw" : Str) (HeadX.top 53) := by
    obtain ⟨fd, F⟩ := c.def_ 38 (d := HeadX.dd "_law_flaw" 53) rfl
    exact ⟨_, fd, F, He.glo_ok X G (c.fact 38 (f := .glo "_law_flaw") rfl)⟩
  have x_lw_leaf : FunX K mg ("_law_leaf" : Str) (HeadX.top 54) := by
    obtain ⟨fd, F⟩ := c.def_ 39 (d := HeadX.dd "_law_leaf" 54) rfl
    exact ⟨_, fd, F, He.glo_ok X G (c.fact 39 (f := .glo "_law_leaf") rfl)⟩
  have x_lw_bent : FunX K mg ("_law_bent" : Str) (HeadX.top 55) := by
    obtain ⟨fd, F⟩ := c.def_ 40 (d := HeadX.dd "_law_bent" 55) rfl
    exact ⟨_, fd, F, He.glo_ok X G (c.fact 40 (f := .glo "_law_bent") rfl)⟩
  have x_lw_deep : FunX K mg ("_law_deep" : Str) (HeadX.top 56) := by
    obtain ⟨fd, F⟩ := c.def_ 41 (d := HeadX.dd "_law_deep" 56) rfl
    exact ⟨_, fd, F, He.glo_ok X G (c.fact 41 (f := .glo "_law_deep") rfl)⟩
  have x_is_tuple : FunX K mg ("is_tuple" : Str) (HeadX.top 3) := by
    obtain ⟨fd, F⟩ := c.def_ 2 (d := HeadX.dd "is_tuple" 3) rfl
    exact ⟨_, fd, F, He.glo_ok X G (c.fact 2 (f := .glo "is_tuple") rfl)⟩
  have x_is_integer : FunX K mg ("is_integer" : Str) (HeadX.top 1) := by
    obtain ⟨fd, F⟩ := c.def_ 0 (d := HeadX.dd "is_integer" 1) rfl
    exact ⟨_, fd, F, He.glo_ok X G (c.fact 0 (f := .glo "is_integer") rfl)⟩
  have x_is_within : FunX K mg ("is_within" : Str) (HeadX.top 2) := by
    obtain ⟨fd, F⟩ := c.def_ 1 (d := HeadX.dd "is_within" 2) rfl
    exact ⟨_, fd, F, He.glo_ok X G (c.fact 1 (f := .glo "is_within") rfl)⟩
  have x_are_mosts : FunX K mg ("are_mosts" : Str) (HeadX.top 18) := by
    obtain ⟨fd, F⟩ := c.def_ 5 (d := HeadX.dd "are_mosts" 18) rfl
    exact ⟨_, fd, F, He.glo_ok X G (c.fact 5 (f := .glo "are_mosts") rfl)⟩
  have x_is_court_of : FunX K mg ("is_court_of" : Str) (HeadX.top 21) := by
    obtain ⟨fd, F⟩ := c.def_ 8 (d := HeadX.dd "is_court_of" 21) rfl
    exact ⟨_, fd, F, He.glo_ok X G (c.fact 8 (f := .glo "is_court_of") rfl)⟩
  have x_is_ground : FunX K mg ("is_ground" : Str) (HeadX.top 19) := by
    obtain ⟨fd, F⟩ := c.def_ 6 (d := HeadX.dd "is_ground" 19) rfl
    exact ⟨_, fd, F, He.glo_ok X G (c.fact 6 (f := .glo "is_ground") rfl)⟩
  have x_is_issue_of : FunX K mg ("is_issue_of" : Str) (HeadX.top 20) := by
    obtain ⟨fd, F⟩ := c.def_ 7 (d := HeadX.dd "is_issue_of" 20) rfl
    exact ⟨_, fd, F, He.glo_ok X G (c.fact 7 (f := .glo "is_issue_of") rfl)⟩
  have x_is_book_any : FunX K mg ("is_book_any" : Str) (HeadX.top 22) := by
    obtain ⟨fd, F⟩ := c.def_ 9 (d := HeadX.dd "is_book_any" 22) rfl
    exact ⟨_, fd, F, He.glo_ok X G (c.fact 9 (f := .glo "is_book_any") rfl)⟩
  have x_want_book : FunX K mg ("want_book" : Str) (HeadX.top 23) := by
    obtain ⟨fd, F⟩ := c.def_ 10 (d := HeadX.dd "want_book" 23) rfl
    exact ⟨_, fd, F, He.glo_ok X G (c.fact 10 (f := .glo "want_book") rfl)⟩
  have x_are_facts : FunX K mg ("are_facts" : Str) (HeadX.top 24) := by
    obtain ⟨fd, F⟩ := c.def_ 11 (d := HeadX.dd "are_facts" 24) rfl
    exact ⟨_, fd, F, He.glo_ok X G (c.fact 11 (f := .glo "are_facts") rfl)⟩
  have x_are_findings : FunX K mg ("are_findings" : Str) (HeadX.top 25) := by
    obtain ⟨fd, F⟩ := c.def_ 12 (d := HeadX.dd "are_findings" 25) rfl
    exact ⟨_, fd, F, He.glo_ok X G (c.fact 12 (f := .glo "are_findings") rfl)⟩
  have x_are_rising : FunX K mg ("are_rising" : Str) (HeadX.top 4) := by
    obtain ⟨fd, F⟩ := c.def_ 3 (d := HeadX.dd "are_rising" 4) rfl
    exact ⟨_, fd, F, He.glo_ok X G (c.fact 3 (f := .glo "are_rising") rfl)⟩
  have x_is_lot : FunX K mg ("is_lot" : Str) (HeadX.top 5) := by
    obtain ⟨fd, F⟩ := c.def_ 4 (d := HeadX.dd "is_lot" 5) rfl
    exact ⟨_, fd, F, He.glo_ok X G (c.fact 4 (f := .glo "is_lot") rfl)⟩
  have x_point_in : FunX K mg ("point_in" : Str) (HeadX.top 28) := by
    obtain ⟨fd, F⟩ := c.def_ 15 (d := HeadX.dd "point_in" 28) rfl
    exact ⟨_, fd, F, He.glo_ok X G (c.fact 15 (f := .glo "point_in") rfl)⟩
  have x_mosts_in : FunX K mg ("mosts_in" : Str) (HeadX.top 27) := by
    obtain ⟨fd, F⟩ := c.def_ 14 (d := HeadX.dd "mosts_in" 27) rfl
    exact ⟨_, fd, F, He.glo_ok X G (c.fact 14 (f := .glo "mosts_in") rfl)⟩
  have x_is_point_of : FunX K mg ("is_point_of" : Str) (HeadX.top 26) := by
    obtain ⟨fd, F⟩ := c.def_ 13 (d := HeadX.dd "is_point_of" 26) rfl
    exact ⟨_, fd, F, He.glo_ok X G (c.fact 13 (f := .glo "is_point_of") rfl)⟩
  have x_is_borne : FunX K mg ("is_borne" : Str) (HeadX.top 31) := by
    obtain ⟨fd, F⟩ := c.def_ 17 (d := HeadX.dd "is_borne" 31) rfl
    exact ⟨_, fd, F, He.glo_ok X G (c.fact 17 (f := .glo "is_borne") rfl)⟩
  have x_flaw_of_reason : FunX K mg ("flaw_of_reason" : Str) (HeadX.top 32) := by
    obtain ⟨fd, F⟩ := c.def_ 18 (d := HeadX.dd "flaw_of_reason" 32) rfl
    exact ⟨_, fd, F, He.glo_ok X G (c.fact 18 (f := .glo "flaw_of_reason") rfl)⟩
  have x_flaw_of_case : FunX K mg ("flaw_of_case" : Str) (HeadX.top 33) := by
    obtain ⟨fd, F⟩ := c.def_ 19 (d := HeadX.dd "flaw_of_case" 33) rfl
    exact ⟨_, fd, F, He.glo_ok X G (c.fact 19 (f := .glo "flaw_of_case") rfl)⟩
  have x_case_flaw : FunX K mg ("case_flaw" : Str) (HeadX.top 36) := by
    obtain ⟨fd, F⟩ := c.def_ 22 (d := HeadX.dd "case_flaw" 36) rfl
    exact ⟨_, fd, F, He.glo_ok X G (c.fact 22 (f := .glo "case_flaw") rfl)⟩
  have x_is_case : FunX K mg ("is_case" : Str) (HeadX.top 35) := by
    obtain ⟨fd, F⟩ := c.def_ 21 (d := HeadX.dd "is_case" 35) rfl
    exact ⟨_, fd, F, He.glo_ok X G (c.fact 21 (f := .glo "is_case") rfl)⟩
  have x_want_own_case : FunX K mg ("want_own_case" : Str) (HeadX.top 34) := by
    obtain ⟨fd, F⟩ := c.def_ 20 (d := HeadX.dd "want_own_case" 34) rfl
    exact ⟨_, fd, F, He.glo_ok X G (c.fact 20 (f := .glo "want_own_case") rfl)⟩
  have x_rulings_in : FunX K mg ("rulings_in" : Str) (HeadX.top 29) := by
    obtain ⟨fd, F⟩ := c.def_ 16 (d := HeadX.dd "rulings_in" 29) rfl
    exact ⟨_, fd, F, He.glo_ok X G (c.fact 16 (f := .glo "rulings_in") rfl)⟩
  have x_rulings_of : FunX K mg ("rulings_of" : Str) (HeadX.top 37) := by
    obtain ⟨fd, F⟩ := c.def_ 23 (d := HeadX.dd "rulings_of" 37) rfl
    exact ⟨_, fd, F, He.glo_ok X G (c.fact 23 (f := .glo "rulings_of") rfl)⟩
  have x_lw_right : FunX K mg ("_law_right" : Str) (HeadX.top 57) := by
    obtain ⟨fd, F⟩ := c.def_ 42 (d := HeadX.dd "_law_right" 57) rfl
    exact ⟨_, fd, F, He.glo_ok X G (c.fact 42 (f := .glo "_law_right") rfl)⟩
  have x_lw_pot : FunX K mg ("_law_pot" : Str) (HeadX.top 39) := by
    obtain ⟨fd, F⟩ := c.def_ 24 (d := HeadX.dd "_law_pot" 39) rfl
    exact ⟨_, fd, F, He.glo_ok X G (c.fact 24 (f := .glo "_law_pot") rfl)⟩
  have x_law : FunX K mg ("law" : Str) (HeadX.top 58) := by
    obtain ⟨fd, F⟩ := c.def_ 43 (d := HeadX.dd "law" 58) rfl
    exact ⟨_, fd, F, He.glo_ok X G (c.fact 43 (f := .glo "law") rfl)⟩
  obtain ⟨fd, F⟩ := c.def_ 43 (d := HeadX.dd "law" 58) rfl
  have e := hfa.symm.trans (He.glo_ok X G (c.fact 43 (f := .glo "law") rfl))
  cases e
  have b := FunD.bindsA (ps := ["script"]) F fun _ _ _ _ _ _ us hl => match us, hl with | [_], _ => rfl
  refine ⟨fd, fun s v => b s [v] rfl, fun P w base _ _ => ?_⟩
  have c_lw_draw := g_lw_draw (P := P) (w := w) (base := base) nm x_lw_draw
  have c_lw_pick := g_lw_pick (P := P) (w := w) (base := base) nm c_lw_draw x_lw_pick
  have c_lw_issues := g_lw_issues (P := P) (w := w) (base := base) nm c_lw_draw c_lw_pick x_lw_issues
  have c_lw_book := g_lw_book (P := P) (w := w) (base := base) nm c_lw_draw c_lw_issues x_lw_book
  have c_lw_facts := g_lw_facts (P := P) (w := w) (base := base) nm c_lw_draw x_lw_facts
  have c_lw_findings := g_lw_findings (P := P) (w := w) (base := base) nm c_lw_draw x_lw_findings
  have c_lw_point := g_lw_point (P := P) (w := w) (base := base) nm x_lw_point
  have c_lw_mosts := g_lw_mosts (P := P) (w := w) (base := base) nm x_lw_mosts
  have c_lw_reason := g_lw_reason (P := P) (w := w) (base := base) nm c_lw_point c_lw_mosts c_lw_draw x_lw_reason
  have c_lw_case := g_lw_case (P := P) (w := w) (base := base) nm c_lw_findings c_lw_facts c_lw_reason c_lw_draw x_lw_case
  have c_lw_number := g_lw_number (P := P) (w := w) (base := base) nm x_lw_number
  have c_lw_are := g_lw_are (P := P) (w := w) (base := base) nm c_lw_number x_lw_are
  have c_lw_is_reason := g_lw_is_reason (P := P) (w := w) (base := base) nm c_lw_are c_lw_mosts c_lw_point x_lw_is_reason
  have c_lw_flaw := g_lw_flaw (P := P) (w := w) (base := base) nm c_lw_number c_lw_are c_lw_is_reason x_lw_flaw
  have c_lw_leaf := g_lw_leaf (P := P) (w := w) (base := base) nm c_lw_pick x_lw_leaf
  have c_lw_bent := g_lw_bent (P := P) (w := w) (base := base) nm c_lw_leaf c_lw_draw x_lw_bent
  have c_lw_deep := g_lw_deep (P := P) (w := w) (base := base) nm c_lw_draw c_lw_bent x_lw_deep
  have c_is_tuple := g_is_tuple (P := P) (w := w) (base := base) nm x_is_tuple
  have c_is_integer := g_is_integer (P := P) (w := w) (base := base) nm x_is_integer
  have c_is_within := g_is_within (P := P) (w := w) (base := base) nm c_is_integer x_is_within
  have c_are_mosts := g_are_mosts (P := P) (w := w) (base := base) nm c_is_within x_are_mosts
  have c_is_court_of := g_is_court_of (P := P) (w := w) (base := base) nm c_is_tuple c_is_within x_is_court_of
  have c_is_ground := g_is_ground (P := P) (w := w) (base := base) nm c_is_tuple c_is_within x_is_ground
  have c_is_issue_of := g_is_issue_of (P := P) (w := w) (base := base) nm c_is_ground x_is_issue_of
  have c_is_book_any := g_is_book_any (P := P) (w := w) (base := base) nm c_is_tuple c_are_mosts c_is_issue_of c_is_court_of x_is_book_any
  have c_want_book := g_want_book (P := P) (w := w) (base := base) nm c_is_book_any x_want_book
  have c_are_facts := g_are_facts (P := P) (w := w) (base := base) nm c_is_tuple c_is_within x_are_facts
  have c_are_findings := g_are_findings (P := P) (w := w) (base := base) nm c_is_tuple c_is_within x_are_findings
  have c_are_rising := g_are_rising (P := P) (w := w) (base := base) nm x_are_rising
  have c_is_lot := g_is_lot (P := P) (w := w) (base := base) nm c_is_within c_are_rising x_is_lot
  have c_point_in := g_point_in (P := P) (w := w) (base := base) nm x_point_in
  have c_mosts_in := g_mosts_in (P := P) (w := w) (base := base) nm x_mosts_in
  have c_is_point_of := g_is_point_of (P := P) (w := w) (base := base) nm c_mosts_in c_is_tuple c_is_within x_is_point_of
  have c_is_borne := g_is_borne (P := P) (w := w) (base := base) nm x_is_borne
  have c_flaw_of_reason := g_flaw_of_reason (P := P) (w := w) (base := base) nm c_is_point_of c_point_in c_is_borne x_flaw_of_reason
  have c_flaw_of_case := g_flaw_of_case (P := P) (w := w) (base := base) nm c_is_tuple c_is_within c_are_facts c_are_findings c_flaw_of_reason c_is_lot x_flaw_of_case
  have c_case_flaw := g_case_flaw (P := P) (w := w) (base := base) nm c_want_book c_flaw_of_case x_case_flaw
  have c_is_case := g_is_case (P := P) (w := w) (base := base) nm c_want_book c_flaw_of_case x_is_case
  have c_want_own_case := g_want_own_case (P := P) (w := w) (base := base) nm c_flaw_of_case x_want_own_case
  have c_rulings_in := g_rulings_in (P := P) (w := w) (base := base) nm x_rulings_in
  have c_rulings_of := g_rulings_of (P := P) (w := w) (base := base) nm c_want_book c_want_own_case c_rulings_in x_rulings_of
  have c_lw_right := g_lw_right (P := P) (w := w) (base := base) nm c_lw_book c_lw_pick c_lw_case c_lw_deep c_lw_draw c_lw_bent c_lw_flaw c_is_case c_case_flaw c_rulings_of x_lw_right
  have c_lw_pot := g_lw_pot (P := P) (w := w) (base := base) nm x_lw_pot
  have c_law := g_law (P := P) (w := w) (base := base) nm c_lw_right c_lw_pot x_law
  obtain ⟨f', fd', Gn, hm, F', _⟩ := c_law.ex
  cases hfa.symm.trans hm
  cases fund_uniq F F'
  exact Gn
end Law
open PySem PySem.W PySem.Calls PyProof.Rows
theorem PySem.Challenge.cw_leadcases_k13_any_value_as_case_holds : PySem.Challenge.rw_leadcases_k13_any_value_as_case.Holds := by
  w_on; o_law
  refine HandSHeadRun.head_any (r := OpenLaw.row PySem.Challenge.rw_leadcases_k13_any_value_as_case) (q := view (OpenLaw.row PySem.Challenge.rw_leadcases_k13_any_value_as_case).prog [58]) (H := HeadX.hk) (ob := HeadX.ob) (M := 4000) (loose := HeadX.loose) (d := HandSHeadRun.topDef (OpenLaw.row PySem.Challenge.rw_leadcases_k13_any_value_as_case).prog 58) (kwd := []) HeadX.ob_eq
    (by kernel_rfl) (fun s => by kernel_rfl) HeadX.run (by kernel_rfl) (by kernel_rfl) (by kernel_rfl) (by rfl) (by first | assumption | decide +kernel) (by decide +kernel) ⟨rfl, rfl, rfl, rfl, rfl, by decide +kernel⟩ ?hw ?hc
  case hw => w_witness2
  case hc =>
    refine PL.walk_PL (l := PySem.Challenge.rw_leadcases_k13_any_value_as_case) (n := 63) (k := 9) (x := "script") rfl (by decide) (by kernel_rfl) ⟨rfl, by decide, by decide⟩ ?F
    intro w mg fa h Y G hmg0
    obtain ⟨K, KX, c⟩ := Y
    have hmg : mg ("law" : PySem.Str) = some (.ref fa) := by
      have e : (HandSHeadRun.topDef (OpenLaw.row PySem.Challenge.rw_leadcases_k13_any_value_as_case).prog 58).name = ("law" : PySem.Str) := by kernel_rfl
      rw [← e]
      exact hmg0
    obtain ⟨fd, hb, hF⟩ := Law.facts KX G hmg c
    refine ⟨K, fd, Law.F_law, KX, hb, fun ns _ => ?_, fun base b1 b2 => hF _ w base b1 b2⟩
    obtain ⟨d, st, e, rfl⟩ := (Law.law_main (ns := ns)).ex
    exact ⟨st, e⟩
