import PyProof.Rows.All
import Wide.All
import OpenK.AllK
import Wide.FinOn
import HandS.ForMost
import HandS.Exc
import HandS.ExcOwn
import HandS.WordsExc
import HandS.Wide
import HandS.IsInst
import HandS.Walk
import HandS.TupAny
import HandS.TupMul
import HandS.Zip
import HandS.Style
import HandS.OwnEq
import HandS.WideBits
import KE.KOpsOwn
import PyProof.Rows.RuleB_bool
import HandS.Text
import KE.KIntText
import PyProof.Rows.StrOr
import HandS.RaiseMore
import HandS.ExcInit
import PyProof.ExcClass
import HandS.TryMany
import HandS.HotCalls
import HandS.Defaults
import HandS.Codes
import PySem.Challenge.RW_fewestpowers_k00_whole_fractions
import KE.IntBitsLaws
import PyProof.Rows.StrJoinRep
set_option Elab.async false
set_option linter.all false
set_option maxRecDepth 100000
set_option maxHeartbeats 4000000
/-! DnBase: plain data for Python's values, how they lie in the abstract heap, outcomes, slots. -/
namespace Dn
open PySem L2
/-- plain data -/
inductive D where
  | non | bl (b : Bool) | int (i : Int) | str (x : Str)
  | tup (xs : List D) | lst (xs : List D) | dct (ks vs : List D) | ins (c : Nat) (fs : List D)
  | fn (x : Str) | st
/-- the attributes of the text's classes, in the order in which they are stored -/
def fldsOf : Nat → List Str
  | 0 => ["n", "d"]
  | 1 => ["letters", "degree", "terms"]
  | 2 => ["reason"]
  | 3 => ["reason"]
  | 4 => ["at"]
  | 5 => ["form", "past"]
  | _ => []
/-- what is fixed of a text: its module's names, the place of the drawing state, classes and their fields -/
structure Gd where
  mg : Str → Option Value
  sa : Addr
  cl : Nat → Addr
def keyD : Key → D
  | .inl i => .int i
  | .inr x => .str x
def tkeyD (l : List Key) : D := .tup (l.map keyD)
def IsDct (H : Hp) (a : Addr) (ks : List D) (vs : List V) : Prop :=
  (∃ kl : List Key, ks = kl.map keyD ∧ kl.length = vs.length ∧ H a = some (.dK (kl.zip vs))) ∨
  (∃ kl : List (List Key), ks = kl.map tkeyD ∧ kl.length = vs.length ∧ H a = some (.dT (kl.zip vs)))
mutual
/-- the value bears the datum; no object of it lies in U -/
def Rep (G : Gd) (U : Addr → Prop) (H : Hp) : D → V → Prop
  | .non, v => v = .non
  | .bl b, v => v = .bl b
  | .int i, v => v = .int i
  | .str x, v => v = .str x ∧ x.length ≤ sizeLine
  | .tup xs, v => ∃ a vs, v = .ref a ∧ ¬ U a ∧ H a = some (.tup vs) ∧ xs.length ≤ sizeLine ∧ RepL G U H xs vs
  | .lst xs, v => ∃ a vs, v = .ref a ∧ ¬ U a ∧ H a = some (.lst vs) ∧ xs.length ≤ sizeLine ∧ RepL G U H xs vs
  | .dct ks xs, v => ∃ a vs, v = .ref a ∧ ¬ U a ∧ IsDct H a ks vs ∧ ks.length ≤ sizeLine ∧ RepL G U H xs vs
  | .ins c xs, v => ∃ a dx vs, v = .ref a ∧ ¬ U a ∧ H a = some (.ins (G.cl c) dx ((fldsOf c).zip vs)) ∧ (fldsOf c).length = vs.length ∧ RepL G U H xs vs
  | .fn x, v => ∃ f, G.mg x = some (.ref f) ∧ v = .ref f
  | .st, v => v = .ref G.sa
def RepL (G : Gd) (U : Addr → Prop) (H : Hp) : List D → List V → Prop
  | [], vs => vs = []
  | d :: ds, vs => ∃ v r, vs = v :: r ∧ Rep G U H d v ∧ RepL G U H ds r
end
/-- what lies outside U stays -/
def Stay (U : Addr → Prop) (H H' : Hp) : Prop := ∀ a o, ¬ U a → H a = some o → H' a = some o
theorem Stay.refl (U : Addr → Prop) (H : Hp) : Stay U H H := fun _ _ _ h => h
theorem Stay.trans {U : Addr → Prop} {H H1 H2 : Hp} (x : Stay U H H1) (y : Stay U H1 H2) : Stay U H H2 := fun a o n h => y a o n (x a o n h)
theorem Stay.mono {U U' : Addr → Prop} {H H' : Hp} (x : Stay U H H') (h : ∀ a, U a → U' a) : Stay U' H H' := fun a o n => x a o fun z => n (h a z)
theorem Stay.upd {U : Addr → Prop} {H H' : Hp} {p : Addr} {o : HO} (x : Stay U H H') (n : H' p = none) : Stay U H (upd H' p o) := fun a u na h => by
  have e := x a u na h
  rw [upd_ne (ne_of_none e n)]
  exact e
theorem IsDct.stay {U : Addr → Prop} {H H' : Hp} {a : Addr} {ks : List D} {vs : List V} (x : Stay U H H') (n : ¬ U a) (r : IsDct H a ks vs) : IsDct H' a ks vs := by
  rcases r with ⟨kl, e, l, h⟩ | ⟨kl, e, l, h⟩
  · exact .inl ⟨kl, e, l, x _ _ n h⟩
  · exact .inr ⟨kl, e, l, x _ _ n h⟩
section
variable {G : Gd}
mutual
theorem Rep.stay {U : Addr → Prop} {H H' : Hp} (x : Stay U H H') : ∀ {d : D} {v : V}, Rep G U H d v → Rep G U H' d v
  | .non, _, h => h
  | .bl _, _, h => h
  | .int _, _, h => h
  | .str _, _, h => h
  | .tup xs, _, h => by
    obtain ⟨a, vs, e, n, r, z, l⟩ := h
    exact ⟨a, vs, e, n, x _ _ n r, z, RepL.stay x l⟩
  | .lst xs, _, h => by
    obtain ⟨a, vs, e, n, r, z, l⟩ := h
    exact ⟨a, vs, e, n, x _ _ n r, z, RepL.stay x l⟩
  | .dct ks xs, _, h => by
    obtain ⟨a, vs, e, n, r, z, l⟩ := h
    exact ⟨a, vs, e, n, IsDct.stay x n r, z, RepL.stay x l⟩
  | .ins c xs, _, h => by
    obtain ⟨a, dx, vs, e, n, r, z, l⟩ := h
    exact ⟨a, dx, vs, e, n, x _ _ n r, z, RepL.stay x l⟩
  | .fn _, _, h => h
  | .st, _, h => h
theorem RepL.stay {U : Addr → Prop} {H H' : Hp} (x : Stay U H H') : ∀ {ds : List D} {vs : List V}, RepL G U H ds vs → RepL G U H' ds vs
  | [], _, h => h
  | d :: ds, _, h => by
    obtain ⟨v, r, e, h1, h2⟩ := h
    exact ⟨v, r, e, Rep.stay x h1, RepL.stay x h2⟩
end
mutual
theorem Rep.weak {U U' : Addr → Prop} {H : Hp} (x : ∀ a, U' a → U a) : ∀ {d : D} {v : V}, Rep G U H d v → Rep G U' H d v
  | .non, _, h => h
  | .bl _, _, h => h
  | .int _, _, h => h
  | .str _, _, h => h
  | .tup xs, _, h => by
    obtain ⟨a, vs, e, n, r, z, l⟩ := h
    exact ⟨a, vs, e, fun q => n (x _ q), r, z, RepL.weak x l⟩
  | .lst xs, _, h => by
    obtain ⟨a, vs, e, n, r, z, l⟩ := h
    exact ⟨a, vs, e, fun q => n (x _ q), r, z, RepL.weak x l⟩
  | .dct ks xs, _, h => by
    obtain ⟨a, vs, e, n, r, z, l⟩ := h
    exact ⟨a, vs, e, fun q => n (x _ q), r, z, RepL.weak x l⟩
  | .ins c xs, _, h => by
    obtain ⟨a, dx, vs, e, n, r, z, l⟩ := h
    exact ⟨a, dx, vs, e, fun q => n (x _ q), r, z, RepL.weak x l⟩
  | .fn _, _, h => h
  | .st, _, h => h
theorem RepL.weak {U U' : Addr → Prop} {H : Hp} (x : ∀ a, U' a → U a) : ∀ {ds : List D} {vs : List V}, RepL G U H ds vs → RepL G U' H ds vs
  | [], _, h => h
  | d :: ds, _, h => by
    obtain ⟨v, r, e, h1, h2⟩ := h
    exact ⟨v, r, e, Rep.weak x h1, RepL.weak x h2⟩
end
theorem IsDct.some {H : Hp} {a : Addr} {ks : List D} {vs : List V} (r : IsDct H a ks vs) : ∃ o, H a = some o := by
  rcases r with ⟨_, _, _, h⟩ | ⟨_, _, _, h⟩ <;> exact ⟨_, h⟩
mutual
/-- places where nothing is tracked lie in no datum -/
theorem Rep.freshF {U F : Addr → Prop} {H : Hp} (hF : ∀ p, F p → H p = none) : ∀ {d : D} {v : V}, Rep G U H d v → Rep G (fun a => U a ∨ F a) H d v
  | .non, _, h => h
  | .bl _, _, h => h
  | .int _, _, h => h
  | .str _, _, h => h
  | .tup xs, _, h => by
    obtain ⟨a, vs, e, n, r, z, l⟩ := h
    refine ⟨a, vs, e, fun q => q.elim n fun q => ?_, r, z, RepL.freshF hF l⟩
    rw [hF _ q] at r
    cases r
  | .lst xs, _, h => by
    obtain ⟨a, vs, e, n, r, z, l⟩ := h
    refine ⟨a, vs, e, fun q => q.elim n fun q => ?_, r, z, RepL.freshF hF l⟩
    rw [hF _ q] at r
    cases r
  | .dct ks xs, _, h => by
    obtain ⟨a, vs, e, n, r, z, l⟩ := h
    refine ⟨a, vs, e, fun q => q.elim n fun q => ?_, r, z, RepL.freshF hF l⟩
    obtain ⟨o, ho⟩ := IsDct.some r
    rw [hF _ q] at ho
    cases ho
  | .ins c xs, _, h => by
    obtain ⟨a, dx, vs, e, n, r, z, l⟩ := h
    refine ⟨a, dx, vs, e, fun q => q.elim n fun q => ?_, r, z, RepL.freshF hF l⟩
    rw [hF _ q] at r
    cases r
  | .fn _, _, h => h
  | .st, _, h => h
theorem RepL.freshF {U F : Addr → Prop} {H : Hp} (hF : ∀ p, F p → H p = none) : ∀ {ds : List D} {vs : List V}, RepL G U H ds vs → RepL G (fun a => U a ∨ F a) H ds vs
  | [], _, h => h
  | d :: ds, _, h => by
    obtain ⟨v, r, e, h1, h2⟩ := h
    exact ⟨v, r, e, Rep.freshF hF h1, RepL.freshF hF h2⟩
end
theorem Rep.fresh {U : Addr → Prop} {H : Hp} {p : Addr} (hp : H p = none) {d : D} {v : V} (h : Rep G U H d v) : Rep G (fun a => U a ∨ a = p) H d v := Rep.freshF (fun q e => by rw [e]; exact hp) h
theorem RepL.fresh {U : Addr → Prop} {H : Hp} {p : Addr} (hp : H p = none) {ds : List D} {vs : List V} (h : RepL G U H ds vs) : RepL G (fun a => U a ∨ a = p) H ds vs := RepL.freshF (fun q e => by rw [e]; exact hp) h
/-! ### rows -/
variable {U : Addr → Prop} {H : Hp}
theorem RepL.nil : RepL G U H [] [] := rfl
theorem RepL.cons {d : D} {ds : List D} {v : V} {vs : List V} (h : Rep G U H d v) (hs : RepL G U H ds vs) : RepL G U H (d :: ds) (v :: vs) := ⟨v, vs, rfl, h, hs⟩
theorem RepL.length : ∀ {ds : List D} {vs : List V}, RepL G U H ds vs → ds.length = vs.length
  | [], _, h => by cases (show _ = [] from h); rfl
  | d :: ds, _, h => by
    obtain ⟨v, r, e, _, h2⟩ := h
    subst e
    simp only [List.length_cons, RepL.length h2]
theorem RepL.get : ∀ {ds : List D} {vs : List V} {i : Nat} {d : D}, RepL G U H ds vs → ds[i]? = some d → ∃ v, vs[i]? = some v ∧ Rep G U H d v
  | [], _, _, _, _, e => by simp at e
  | d :: ds, _, 0, _, h, e => by
    obtain ⟨v, r, rfl, h1, _⟩ := h
    simp at e
    subst e
    exact ⟨v, rfl, h1⟩
  | d :: ds, _, i + 1, x, h, e => by
    obtain ⟨v, r, rfl, _, h2⟩ := h
    obtain ⟨u, hu, z⟩ := RepL.get (i := i) (d := x) h2 (by simpa using e)
    exact ⟨u, by simpa using hu, z⟩
theorem RepL.got : ∀ {ds : List D} {vs : List V} {i : Nat} {v : V}, RepL G U H ds vs → vs[i]? = some v → ∃ d, ds[i]? = some d ∧ Rep G U H d v := fun {ds vs i v} h e => by
  have l := RepL.length h
  have hi : i < vs.length := (List.getElem?_eq_some_iff.mp e).1
  obtain ⟨u, hu, z⟩ := RepL.get h (List.getElem?_eq_getElem (by omega : i < ds.length))
  rw [e] at hu
  cases hu
  exact ⟨_, List.getElem?_eq_getElem (by omega), z⟩
theorem RepL.append : ∀ {ds es : List D} {vs us : List V}, RepL G U H ds vs → RepL G U H es us → RepL G U H (ds ++ es) (vs ++ us)
  | [], _, _, _, h, k => by cases (show _ = [] from h); exact k
  | d :: ds, _, _, _, h, k => by
    obtain ⟨v, r, rfl, h1, h2⟩ := h
    exact ⟨v, r ++ _, rfl, h1, RepL.append h2 k⟩
theorem RepL.take : ∀ {ds : List D} {vs : List V} (n : Nat), RepL G U H ds vs → RepL G U H (ds.take n) (vs.take n)
  | _, _, 0, _ => by simp only [List.take_zero]; exact RepL.nil
  | [], _, _ + 1, h => by cases (show _ = [] from h); exact RepL.nil
  | d :: ds, _, n + 1, h => by
    obtain ⟨v, r, rfl, h1, h2⟩ := h
    exact ⟨v, _, rfl, h1, RepL.take n h2⟩
theorem RepL.drop : ∀ {ds : List D} {vs : List V} (n : Nat), RepL G U H ds vs → RepL G U H (ds.drop n) (vs.drop n)
  | _, _, 0, h => h
  | [], _, _ + 1, h => by cases (show _ = [] from h); exact RepL.nil
  | d :: ds, _, n + 1, h => by
    obtain ⟨v, r, rfl, h1, h2⟩ := h
    exact RepL.drop n h2
theorem RepL.set : ∀ {ds : List D} {vs : List V} {d : D} {v : V} (i : Nat), RepL G U H ds vs → Rep G U H d v → RepL G U H (ds.set i d) (vs.set i v)
  | [], _, _, _, _, h, _ => by cases (show _ = [] from h); exact RepL.nil
  | d :: ds, _, _, _, 0, h, k => by
    obtain ⟨v, r, rfl, h1, h2⟩ := h
    exact ⟨_, r, rfl, k, h2⟩
  | d :: ds, _, _, _, i + 1, h, k => by
    obtain ⟨v, r, rfl, h1, h2⟩ := h
    exact ⟨v, _, rfl, h1, RepL.set i h2 k⟩
theorem RepL.reverse : ∀ {ds : List D} {vs : List V}, RepL G U H ds vs → RepL G U H ds.reverse vs.reverse
  | [], _, h => by cases (show _ = [] from h); exact RepL.nil
  | d :: ds, _, h => by
    obtain ⟨v, r, rfl, h1, h2⟩ := h
    simp only [List.reverse_cons]
    exact RepL.append (RepL.reverse h2) ⟨v, [], rfl, h1, rfl⟩
theorem RepL.of_get : ∀ {ds : List D} {vs : List V}, ds.length = vs.length → (∀ (i : Nat) d v, ds[i]? = some d → vs[i]? = some v → Rep G U H d v) → RepL G U H ds vs
  | [], [], _, _ => rfl
  | [], _ :: _, h, _ => by simp at h
  | _ :: _, [], h, _ => by simp at h
  | d :: ds, v :: vs, h, k => ⟨v, vs, rfl, k 0 d v rfl rfl, RepL.of_get (by simpa using h) fun i d' v' h1 h2 => k (i + 1) d' v' (by simpa using h1) (by simpa using h2)⟩
/-! ### a new thing -/
theorem Rep.tup_new {ds : List D} {vs : List V} {p : Addr} (h : RepL G U H ds vs) (hp : H p = none) (np : ¬ U p) (z : ds.length ≤ sizeLine) : Rep G U (upd H p (.tup vs)) (.tup ds) (.ref p) :=
  ⟨p, vs, rfl, np, upd_same, z, RepL.stay (Stay.upd (Stay.refl U H) hp) h⟩
theorem Rep.lst_new {ds : List D} {vs : List V} {p : Addr} (h : RepL G U H ds vs) (hp : H p = none) (np : ¬ U p) (z : ds.length ≤ sizeLine) : Rep G U (upd H p (.lst vs)) (.lst ds) (.ref p) :=
  ⟨p, vs, rfl, np, upd_same, z, RepL.stay (Stay.upd (Stay.refl U H) hp) h⟩
end
/-! ### outcomes -/
/-- the drawing state: two whole numbers in a list -/
abbrev S := Int × Int
structure Ex where
  c : Nat
  a : D
inductive R (α : Type) where
  | ok (a : α) (s : S)
  | err (e : Ex) (s : S)
  | bad
abbrev M (α : Type) := S → R α
def R.bind {α β : Type} (r : R α) (k : α → S → R β) : R β := match r with
  | .ok a s => k a s
  | .err e s => .err e s
  | .bad => .bad
/-- one after the other -/
def sq {α β : Type} (m : M α) (k : α → M β) : M β := fun s => (m s).bind k
def rt {α : Type} (a : α) : M α := fun s => .ok a s
def bad {α : Type} : M α := fun _ => .bad
/-- r says no more than r' -/
def Le {α : Type} (r r' : R α) : Prop := r = .bad ∨ r = r'
theorem Le.refl {α : Type} (r : R α) : Le r r := .inr rfl
def StAt (G : Gd) (H : Hp) (s : S) : Prop := H G.sa = some (.lst [.int s.1, .int s.2])
/-! ### slots -/
inductive Sl where
  | un
  /-- a value that stays as it is -/
  | fz (d : D)
  /-- a list or dict of this frame alone -/
  | mt (d : D)
/-- what lies at the frame's own place a -/
def MAt (G : Gd) (U : Addr → Prop) (H : Hp) (a : Addr) : D → Prop
  | .lst xs => ∃ vs, H a = some (.lst vs) ∧ xs.length ≤ sizeLine ∧ RepL G U H xs vs
  | .dct ks xs => ∃ vs, IsDct H a ks vs ∧ ks.length ≤ sizeLine ∧ RepL G U H xs vs
  | .ins c xs => ∃ dx vs, H a = some (.ins (G.cl c) dx (((fldsOf c).take vs.length).zip vs)) ∧ vs.length ≤ (fldsOf c).length ∧ RepL G U H xs vs
  | _ => False
def SlotOk (G : Gd) (U : Addr → Prop) (H : Hp) (o : Option (Option V)) : Sl → Prop
  | .un => True
  | .fz d => ∃ v, o = some (some v) ∧ Rep G U H d v
  | .mt d => ∃ a, o = some (some (.ref a)) ∧ U a ∧ a ≠ G.sa ∧ MAt G U H a d
abbrev DEnv := List Sl
structure Pre (G : Gd) (U : Addr → Prop) (σ : St) (H : Hp) (env : DEnv) (s : S) : Prop where
  usa : U G.sa
  ud : ∀ a, U a → ∃ o, H a = some o
  st : StAt G H s
  sl : ∀ (i : Nat) x, env[i]? = some x → SlotOk G U H (σ[i]?) x
  len : σ.length = env.length
/-- all but the state stays -/
abbrev Gr (G : Gd) (H H' : Hp) : Prop := Stay (fun a => a = G.sa) H H'
theorem Gr.refl (G : Gd) (H : Hp) : Gr G H H := Stay.refl _ H
theorem MAt.stay {G : Gd} {U : Addr → Prop} {H H' : Hp} {a : Addr} {d : D} (x : Gr G H H') (us : U G.sa) (na : a ≠ G.sa) (h : MAt G U H a d) : MAt G U H' a d := by
  have x' : Stay U H H' := Stay.mono x fun b e => by rw [e]; exact us
  cases d with
  | lst xs =>
    obtain ⟨vs, h1, z, h2⟩ := h
    exact ⟨vs, x _ _ na h1, z, RepL.stay x' h2⟩
  | dct ks xs =>
    obtain ⟨vs, h1, z, h2⟩ := h
    exact ⟨vs, IsDct.stay x na h1, z, RepL.stay x' h2⟩
  | ins c xs =>
    obtain ⟨dx, vs, h1, z, h2⟩ := h
    exact ⟨dx, vs, x _ _ na h1, z, RepL.stay x' h2⟩
  | _ => exact h.elim
theorem Pre.stay {G : Gd} {U : Addr → Prop} {σ : St} {H H' : Hp} {env : DEnv} {s s' : S} (p : Pre G U σ H env s) (x : Gr G H H') (hs : StAt G H' s') : Pre G U σ H' env s' := by
  have x' : Stay U H H' := Stay.mono x fun b e => by rw [e]; exact p.usa
  refine ⟨p.usa, fun a ha => ?_, hs, fun i sl e => ?_, p.len⟩
  · by_cases h : a = G.sa
    · subst h
      exact ⟨_, hs⟩
    · obtain ⟨o, ho⟩ := p.ud a ha
      exact ⟨o, x _ _ h ho⟩
  · have q := p.sl i sl e
    cases sl with
    | un => trivial
    | fz d =>
      obtain ⟨v, e, r⟩ := q
      exact ⟨v, e, Rep.stay x' r⟩
    | mt d =>
      obtain ⟨a, e, u, n, m⟩ := q
      exact ⟨a, e, u, n, m.stay x p.usa n⟩
theorem Pre.free {G : Gd} {U : Addr → Prop} {σ : St} {H : Hp} {env : DEnv} {s : S} (p : Pre G U σ H env s) {a : Addr} (h : H a = none) : ¬ U a := fun u => by
  obtain ⟨o, e⟩ := p.ud a u
  rw [h] at e
  cases e
/-- an exception as it lies: its class, its own dict -/
def ExAt (G : Gd) (U : Addr → Prop) (H : Hp) (c : Value) (dx : Option Addr) (e : Ex) : Prop :=
  c = .ref (G.cl e.c) ∧ ∃ d f v, dx = some d ∧ fldsOf e.c = [f] ∧ H d = some (.xd [(f, v)]) ∧ Rep G U H e.a v
/-- what is wanted of an outcome -/
def Post (G : Gd) (U : Addr → Prop) (H : Hp) (W : Value → Option Addr → Hp → Prop) (r : R D) (Q : VK) : Prop := match r with
  | .ok d s => ∀ v H', Gr G H H' → StAt G H' s → Rep G U H' d v → Q v H'
  | .err e s => ∀ c dx H', Gr G H H' → StAt G H' s → ExAt G U H' c dx e → W c dx H'
  | .bad => False
theorem Post.from {G : Gd} {U : Addr → Prop} {H H' : Hp} {W : Value → Option Addr → Hp → Prop} {r : R D} {Q : VK} (x : Gr G H H') (p : Post G U H W r Q) : Post G U H' W r Q := by
  cases r with
  | ok d s => exact fun v H2 x2 => p v H2 (x.trans x2)
  | err e s => exact fun c dx H2 x2 => p c dx H2 (x.trans x2)
  | bad => exact p
end Dn
/-! DnEv: what an expression evaluates to, over plain data; contexts; calls. -/
namespace Dn
open PySem L2
/-- the world that a text stands in -/
structure Wd extends Gd where
  P : Program
  w : World
  K : PySem.W.Frag
  base : Heap
abbrev Wd.g (G : Wd) : Gd := G.toGd
/-- ahead of a step -/
structure PreH (G : Gd) (U : Addr → Prop) (H : Hp) (s : S) : Prop where
  usa : U G.sa
  ud : ∀ a, U a → ∃ o, H a = some o
  st : StAt G H s
theorem Pre.h {G : Gd} {U : Addr → Prop} {σ : St} {H : Hp} {env : DEnv} {s : S} (p : Pre G U σ H env s) : PreH G U H s := ⟨p.usa, p.ud, p.st⟩
theorem PreH.stay {G : Gd} {U : Addr → Prop} {H H' : Hp} {s s' : S} (p : PreH G U H s) (x : Gr G H H') (hs : StAt G H' s') : PreH G U H' s' := by
  refine ⟨p.usa, fun a ha => ?_, hs⟩
  by_cases h : a = G.sa
  · subst h
    exact ⟨_, hs⟩
  · obtain ⟨o, ho⟩ := p.ud a ha
    exact ⟨o, x _ _ h ho⟩
theorem PreH.free {G : Gd} {U : Addr → Prop} {H : Hp} {s : S} (p : PreH G U H s) {a : Addr} (h : H a = none) : ¬ U a := fun u => by
  obtain ⟨o, e⟩ := p.ud a u
  rw [h] at e
  cases e
theorem PreH.up {G : Gd} {U : Addr → Prop} {H H' : Hp} {s : S} (p : PreH G U H s) (x : Gr G H H') : Stay U H H' := Stay.mono x fun b e => by rw [e]; exact p.usa
theorem Gr.upd {G : Gd} {H : Hp} {p : Addr} {o : HO} (n : H p = none) : Gr G H (upd H p o) := Stay.upd (Stay.refl _ H) n
theorem StAt.upd {G : Gd} {H : Hp} {s : S} {p : Addr} {o : HO} (h : StAt G H s) (n : H p = none) : StAt G (upd H p o) s := by
  unfold StAt at h ⊢
  rw [upd_ne (ne_of_none h n)]
  exact h
/-- what is wanted of an outcome, by any relation -/
def PostR {α β : Type} (G : Gd) (U : Addr → Prop) (H : Hp) (W : XK) (Rel : Hp → α → β → Prop) (r : R α) (Q : β → Hp → Prop) : Prop := match r with
  | .ok a s => ∀ b H', Gr G H H' → StAt G H' s → Rel H' a b → Q b H'
  | .err e s => ∀ c dx H', Gr G H H' → StAt G H' s → ExAt G U H' c dx e → W c dx H'
  | .bad => False
theorem PostR.from {α β : Type} {G : Gd} {U : Addr → Prop} {H H' : Hp} {W : XK} {Rel : Hp → α → β → Prop} {r : R α} {Q : β → Hp → Prop} (x : Gr G H H') (p : PostR G U H W Rel r Q) : PostR G U H' W Rel r Q := by
  cases r with
  | ok d s => exact fun v H2 x2 => p v H2 (x.trans x2)
  | err e s => exact fun c dx H2 x2 => p c dx H2 (x.trans x2)
  | bad => exact p
/-- by value: the outcome is at hand -/
theorem PostR.here {α β : Type} {G : Gd} {U : Addr → Prop} {H : Hp} {W : XK} {Rel : Hp → α → β → Prop} {a : α} {s : S} {Q : β → Hp → Prop} (p : PostR G U H W Rel (.ok a s) Q) (hs : StAt G H s) {b : β} (h : Rel H a b) : Q b H := p b H (Gr.refl G H) hs h
abbrev PostD (G : Gd) (U : Addr → Prop) (H : Hp) (W : XK) (r : R D) (Q : VK) : Prop := PostR G U H W (fun H' d v => Rep G U H' d v) r Q
/-- a reading gives what f tells -/
def Ev {α β : Type} (G : Gd) (W : XK) (Rel : (Addr → Prop) → Hp → α → β → Prop) (t : St → Hp → (β → Hp → Prop) → Prop) (f : DEnv → M α) : Prop :=
  ∀ (U : Addr → Prop) (σ : St) (H : Hp) (env : DEnv) (s : S) (Q : β → Hp → Prop), Pre G U σ H env s → PostR G U H W (Rel U) (f env s) Q → t σ H Q
theorem Ev.bind {α β γ δ : Type} {G : Gd} {W : XK} {Rel : (Addr → Prop) → Hp → α → β → Prop} {t : St → Hp → (β → Hp → Prop) → Prop} {f : DEnv → M α} (h : Ev G W Rel t f)
    {U : Addr → Prop} {σ : St} {H : Hp} {env : DEnv} {s : S} (p : Pre G U σ H env s) {k : α → S → R γ} {Rel2 : Hp → γ → δ → Prop} {Q2 : δ → Hp → Prop} (hq : PostR G U H W Rel2 ((f env s).bind k) Q2) {C : β → Hp → Prop}
    (cont : ∀ a s1 b H1, Gr G H H1 → Pre G U σ H1 env s1 → Rel U H1 a b → PostR G U H1 W Rel2 (k a s1) Q2 → C b H1) : t σ H C := by
  refine h U σ H env s C p ?_
  cases e : f env s with
  | ok a s1 =>
    rw [e] at hq
    exact fun b H' g st r => cont a s1 b H' g (p.stay g st) r (PostR.from g hq)
  | err x s1 =>
    rw [e] at hq
    exact hq
  | bad =>
    rw [e] at hq
    exact hq
def bltNames : List Str := ["len", "range", "zip", "enumerate", "tuple", "list", "dict", "isinstance", "abs", "max", "min", "all", "any", "sum", "int", "str", "sorted", "set", "bool"]
/-- the context of a piece of code -/
structure XOk (G : Wd) (X : Cx) (N : List Str) (W : XK) (k : Nat) : Prop where
  prog : X.prog = G.P
  w : X.w = G.w
  K : X.K = G.K
  mg : X.mg = G.mg
  base : X.base = G.base
  calm : X.calm = true
  names : X.N = N
  nd : N.Nodup
  room : Room k X.A
  tk : Takes X (fun c d _ H => W c d H)
  own : PassesOwn (model X.prog X.w) X.A X.env X.xe
  bl : ∀ x ∈ bltNames, X.mg x = none
theorem XOk.passes {G : Wd} {X : Cx} {N : List Str} {W : XK} {k : Nat} (h : XOk G X N W k) : Passes (L2.CX X.prog X.w) X W := passes_call h.tk fun _ _ _ _ z => z
theorem XOk.mono {G : Wd} {X : Cx} {N : List Str} {W : XK} {j k : Nat} (h : XOk G X N W k) (hk : j ≤ k) : XOk G X N W j := { h with room := h.room.mono hk }
/-- the reading that f itself tells -/
def tD {α β : Type} (G : Gd) (W : XK) (Rel : (Addr → Prop) → Hp → α → β → Prop) (f : DEnv → M α) : St → Hp → (β → Hp → Prop) → Prop :=
  fun σ H Q => ∃ U env s, Pre G U σ H env s ∧ PostR G U H W (Rel U) (f env s) Q
theorem ev_tD {α β : Type} {G : Gd} {W : XK} {Rel : (Addr → Prop) → Hp → α → β → Prop} {f : DEnv → M α} : Ev G W Rel (tD G W Rel f) f := fun U _ _ env s _ p hq => ⟨U, env, s, p, hq⟩
abbrev RD (G : Gd) : (Addr → Prop) → Hp → D → V → Prop := fun U H d v => Rep G U H d v
abbrev RL (G : Gd) : (Addr → Prop) → Hp → List D → List V → Prop := fun U H d v => RepL G U H d v
abbrev RB : (Addr → Prop) → Hp → Bool → Bool → Prop := fun _ _ b c => b = c
/-- e evaluates to what f tells -/
def EvJ (G : Wd) (X : Cx) (W : XK) (e : Expr) (f : DEnv → M D) : Prop := PE X e (tD G.g W (RD G.g) f)
def EvA (G : Wd) (X : Cx) (W : XK) (es : List Expr) (f : DEnv → M (List D)) : Prop := PA X es (tD G.g W (RL G.g) f)
def EvT (G : Wd) (X : Cx) (W : XK) (e : Expr) (f : DEnv → M Bool) : Prop := PT X e (tD G.g W RB f)
/-- a value that may be the frame's own list or dict -/
def RepW (G : Gd) (U : Addr → Prop) (H : Hp) (d : D) (v : V) : Prop := Rep G U H d v ∨ ∃ a, v = .ref a ∧ U a ∧ a ≠ G.sa ∧ MAt G U H a d
abbrev RW (G : Gd) : (Addr → Prop) → Hp → D → V → Prop := fun U H d v => RepW G U H d v
def EvW (G : Wd) (X : Cx) (W : XK) (e : Expr) (f : DEnv → M D) : Prop := PE X e (tD G.g W (RW G.g) f)
section
variable {G : Wd} {X : Cx} {W : XK}
theorem EvJ.ex {e : Expr} {f : DEnv → M D} (h : EvJ G X W e f) : ∃ t, PE X e t ∧ Ev G.g W (RD G.g) t f := ⟨_, h, ev_tD⟩
theorem EvA.ex {e : List Expr} {f : DEnv → M (List D)} (h : EvA G X W e f) : ∃ t, PA X e t ∧ Ev G.g W (RL G.g) t f := ⟨_, h, ev_tD⟩
theorem EvT.ex {e : Expr} {f : DEnv → M Bool} (h : EvT G X W e f) : ∃ t, PT X e t ∧ Ev G.g W RB t f := ⟨_, h, ev_tD⟩
theorem EvW.ex {e : Expr} {f : DEnv → M D} (h : EvW G X W e f) : ∃ t, PE X e t ∧ Ev G.g W (RW G.g) t f := ⟨_, h, ev_tD⟩
theorem EvJ.of {e : Expr} {f : DEnv → M D} {t : TE} (h : PE X e t) (ev : Ev G.g W (RD G.g) t f) : EvJ G X W e f := ⟨fun pins s σ H Q I ⟨U, env, st, p, q⟩ => h.run pins s σ H Q I (ev U σ H env st Q p q)⟩
theorem EvA.of {e : List Expr} {f : DEnv → M (List D)} {t : TA} (h : PA X e t) (ev : Ev G.g W (RL G.g) t f) : EvA G X W e f := ⟨fun pos pins s σ H Q I ⟨U, env, st, p, q⟩ => h.run pos pins s σ H Q I (ev U σ H env st Q p q)⟩
theorem EvT.of {e : Expr} {f : DEnv → M Bool} {t : TT} (h : PT X e t) (ev : Ev G.g W RB t f) : EvT G X W e f := ⟨fun pins s σ H Q I ⟨U, env, st, p, q⟩ => h.run pins s σ H Q I (ev U σ H env st Q p q)⟩
theorem EvW.of {e : Expr} {f : DEnv → M D} {t : TE} (h : PE X e t) (ev : Ev G.g W (RW G.g) t f) : EvW G X W e f := ⟨fun pins s σ H Q I ⟨U, env, st, p, q⟩ => h.run pins s σ H Q I (ev U σ H env st Q p q)⟩
end
theorem RepW.stay {G : Gd} {U : Addr → Prop} {H H' : Hp} {d : D} {v : V} (x : Gr G H H') (us : U G.sa) (h : RepW G U H d v) : RepW G U H' d v := by
  rcases h with h | ⟨a, e, u, n, m⟩
  · exact .inl (Rep.stay (Stay.mono x fun b e => by rw [e]; exact us) h)
  · exact .inr ⟨a, e, u, n, m.stay x us n⟩
section
variable {G : Wd} {X : Cx} {W : XK}
theorem EvJ.weak {e : Expr} {f : DEnv → M D} (h : EvJ G X W e f) : EvW G X W e f := by
  obtain ⟨t, pe, ev⟩ := h.ex
  refine .of pe fun U σ H env s Q p hq => ev U σ H env s Q p ?_
  cases q : f env s with
  | ok a s1 =>
    rw [q] at hq
    exact fun v H' g st r => hq v H' g st (.inl r)
  | err x s1 =>
    rw [q] at hq
    exact hq
  | bad =>
    rw [q] at hq
    exact hq
/-! ### names, constants -/
def dVar (i : Nat) : DEnv → M D := fun env s => match env[i]? with
  | some (.fz d) => .ok d s
  | _ => .bad
def dBor (i : Nat) : DEnv → M D := fun env s => match env[i]? with
  | some (.fz d) => .ok d s
  | some (.mt d) => .ok d s
  | _ => .bad
theorem ev_var {i : Nat} {x : Str} {pos : Pos} (hN : X.N[i]? = some x) (hv : Vis X.env.scope x) (hd : (x == ("__debug__" : Str)) = false) (hcd : (x == ("__classdict__" : Str)) = false) : EvJ G X W (.Name x pos) (dVar i) := by
  refine .of (pe_var hN hv hd hcd) fun U σ H env s Q p hq => ?_
  unfold dVar at hq
  cases e : env[i]? with
  | none => rw [e] at hq; exact hq.elim
  | some sl =>
    rw [e] at hq
    have q := p.sl i sl e
    cases sl with
    | fz d =>
      obtain ⟨v, e', r⟩ := q
      exact ⟨v, e', PostR.here hq p.st r⟩
    | un => exact hq.elim
    | mt d => exact hq.elim
theorem ev_bor {i : Nat} {x : Str} {pos : Pos} (hN : X.N[i]? = some x) (hv : Vis X.env.scope x) (hd : (x == ("__debug__" : Str)) = false) (hcd : (x == ("__classdict__" : Str)) = false) : EvW G X W (.Name x pos) (dBor i) := by
  refine .of (pe_var hN hv hd hcd) fun U σ H env s Q p hq => ?_
  unfold dBor at hq
  cases e : env[i]? with
  | none => rw [e] at hq; exact hq.elim
  | some sl =>
    rw [e] at hq
    have q := p.sl i sl e
    cases sl with
    | fz d =>
      obtain ⟨v, e', r⟩ := q
      exact ⟨v, e', PostR.here hq p.st (.inl r)⟩
    | un => exact hq.elim
    | mt d =>
      obtain ⟨a, e', u, n, m⟩ := q
      exact ⟨_, e', PostR.here hq p.st (.inr ⟨a, rfl, u, n, m⟩)⟩
def dC (d : D) : DEnv → M D := fun _ => rt d
theorem ev_c {e : Expr} {d : D} {v : V} (h : PE X e (tC v)) (r : ∀ U H, Rep G.g U H d v) : EvJ G X W e (dC d) :=
  .of h fun U σ H env s Q p hq => PostR.here hq p.st (r U H)
theorem ev_int {i : Int} {k : Nat} {pos : Pos} : EvJ G X W (.Constant (.int i) k pos) (dC (.int i)) := ev_c pe_int fun _ _ => rfl
theorem ev_bl {b : Bool} {k : Nat} {pos : Pos} : EvJ G X W (.Constant (.bool b) k pos) (dC (.bl b)) := ev_c pe_bl fun _ _ => rfl
theorem ev_non {k : Nat} {pos : Pos} : EvJ G X W (.Constant .none k pos) (dC .non) := ev_c pe_non fun _ _ => rfl
theorem ev_str {x : Str} {k : Nat} {pos : Pos} (h : x.length ≤ sizeLine) : EvJ G X W (.Constant (.str x) k pos) (dC (.str x)) := ev_c pe_str fun _ _ => ⟨rfl, h⟩
/-! ### argument lists, displays -/
def dNil : DEnv → M (List D) := fun _ => rt []
def dCons (f : DEnv → M D) (r : DEnv → M (List D)) : DEnv → M (List D) := fun env => sq (f env) fun d => sq (r env) fun ds => rt (d :: ds)
theorem ea_nil : EvA G X W [] dNil := .of pa_nil fun U σ H env s Q p hq => PostR.here hq p.st RepL.nil
theorem ea_cons {e : Expr} {es : List Expr} {f : DEnv → M D} {r : DEnv → M (List D)} (h : EvJ G X W e f) (hs : EvA G X W es r) (ns : starEach (e :: es) X.env = (false, eval e X.env) :: starEach es X.env) : EvA G X W (e :: es) (dCons f r) := by
  obtain ⟨t, pe, ev⟩ := h.ex
  obtain ⟨u, pa, eva⟩ := hs.ex
  refine .of (pa_cons pe pa ns) fun U σ H env s Q p hq => ?_
  refine ev.bind p hq fun d s1 v H1 g1 p1 r1 q1 => ?_
  refine eva.bind p1 q1 fun ds s2 vs H2 g2 p2 r2 q2 => ?_
  exact PostR.here q2 p2.st (RepL.cons (Rep.stay (p1.h.up g2) r1) r2)
def dTup (f : DEnv → M (List D)) : DEnv → M D := fun env => sq (f env) fun ds => if ds.length ≤ sizeLine then rt (.tup ds) else bad
def dLst (f : DEnv → M (List D)) : DEnv → M D := fun env => sq (f env) fun ds => if ds.length ≤ sizeLine then rt (.lst ds) else bad
theorem ev_tup {es : List Expr} {f : DEnv → M (List D)} {k : Nat} {pos : Pos} (h : EvA G X W es f) : EvJ G X W (.Tuple es k pos) (dTup f) := by
  obtain ⟨t, pa, ev⟩ := h.ex
  refine .of (pe_tup pa) fun U σ H env s Q p hq => ?_
  refine ev.bind p hq fun ds s1 vs H1 g1 p1 r1 q1 => ?_
  by_cases z : ds.length ≤ sizeLine
  · simp only [if_pos z] at q1
    refine ⟨by rw [← r1.length]; exact z, fun a na => ?_⟩
    exact q1 _ _ (Gr.upd na) (p1.st.upd na) (Rep.tup_new r1 na (p1.free na) z)
  · simp only [if_neg z] at q1
    exact q1.elim
theorem ev_lst {es : List Expr} {f : DEnv → M (List D)} {pos : Pos} (h : EvA G X W es f) : EvJ G X W (.List es pos) (dLst f) := by
  obtain ⟨t, pa, ev⟩ := h.ex
  refine .of (pe_lst pa) fun U σ H env s Q p hq => ?_
  refine ev.bind p hq fun ds s1 vs H1 g1 p1 r1 q1 => ?_
  by_cases z : ds.length ≤ sizeLine
  · simp only [if_pos z] at q1
    refine ⟨by rw [← r1.length]; exact z, fun a na => ?_⟩
    exact q1 _ _ (Gr.upd na) (p1.st.upd na) (Rep.lst_new r1 na (p1.free na) z)
  · simp only [if_neg z] at q1
    exact q1.elim
/-! ### operators by values -/
def Op2 (G : Wd) (X : Cx) (W : XK) (f : Value → Value → Sem Value) (g : D → D → M D) : Prop :=
  ∃ r : R2, OpR X f r ∧ ∀ (U : Addr → Prop) (H : Hp) (s : S) (d e : D) (v u : V) (Q : VK), PreH G.g U H s → Rep G.g U H d v → Rep G.g U H e u → PostD G.g U H W (g d e s) Q → r v u H Q
def Op1 (G : Wd) (X : Cx) (W : XK) (f : Value → Sem Value) (g : D → M D) : Prop :=
  ∃ r : V → Hp → VK → Prop, UnR X f r ∧ ∀ (U : Addr → Prop) (H : Hp) (s : S) (d : D) (v : V) (Q : VK), PreH G.g U H s → Rep G.g U H d v → PostD G.g U H W (g d s) Q → r v H Q
def d2 (g : D → D → M D) (fa fb : DEnv → M D) : DEnv → M D := fun env => sq (fa env) fun d => sq (fb env) fun e => g d e
theorem ev_bin {op : Operator} {a b : Expr} {fa fb : DEnv → M D} {g : D → D → M D} {pos : Pos} (ho : Op2 G X W (binaryOp op) g) (ha : EvJ G X W a fa) (hb : EvJ G X W b fb) : EvJ G X W (.BinOp a op b pos) (d2 g fa fb) := by
  obtain ⟨r, hr, h⟩ := ho
  obtain ⟨t, pe, ev⟩ := ha.ex
  obtain ⟨t', pe', ev'⟩ := hb.ex
  refine .of (pe_op hr pe pe') fun U σ H env s Q p hq => ?_
  refine ev.bind p hq fun d s1 v H1 g1 p1 r1 q1 => ?_
  refine ev'.bind p1 q1 fun e s2 u H2 g2 p2 r2 q2 => ?_
  exact h U H2 s2 d e v u Q p2.h (Rep.stay (p1.h.up g2) r1) r2 q2
theorem ev_cmp {op : CmpOp} {a b : Expr} {fa fb : DEnv → M D} {g : D → D → M D} {pos : Pos} (ho : Op2 G X W (compareOp op) g) (ha : EvJ G X W a fa) (hb : EvJ G X W b fb) (hm : behindInMarks op b = false) : EvJ G X W (.Compare a [op] [b] pos) (d2 g fa fb) := by
  obtain ⟨r, hr, h⟩ := ho
  obtain ⟨t, pe, ev⟩ := ha.ex
  obtain ⟨t', pe', ev'⟩ := hb.ex
  refine .of (pe_cmpR hr pe pe' hm) fun U σ H env s Q p hq => ?_
  refine ev.bind p hq fun d s1 v H1 g1 p1 r1 q1 => ?_
  refine ev'.bind p1 q1 fun e s2 u H2 g2 p2 r2 q2 => ?_
  exact h U H2 s2 d e v u Q p2.h (Rep.stay (p1.h.up g2) r1) r2 q2
def toB (f : DEnv → M D) : DEnv → M Bool := fun env => sq (f env) fun d => match d with
  | .bl b => rt b
  | _ => bad
theorem et_cmp {op : CmpOp} {a b : Expr} {fa fb : DEnv → M D} {g : D → D → M D} {pos : Pos} (ho : Op2 G X W (compareOp op) g) (ha : EvJ G X W a fa) (hb : EvJ G X W b fb) (hm : behindInMarks op b = false) : EvT G X W (.Compare a [op] [b] pos) (toB (d2 g fa fb)) := by
  obtain ⟨r, hr, h⟩ := ho
  obtain ⟨t, pe, ev⟩ := ha.ex
  obtain ⟨t', pe', ev'⟩ := hb.ex
  refine .of (pt_cmpR hr pe pe' hm) fun U σ H env s Q p hq => ?_
  have aux : Ev G.g W (RD G.g) (tOp r t t') (d2 g fa fb) := fun U σ H env s Q p hq => by
    refine ev.bind p hq fun d s1 v H1 g1 p1 r1 q1 => ?_
    refine ev'.bind p1 q1 fun e s2 u H2 g2 p2 r2 q2 => ?_
    exact h U H2 s2 d e v u Q p2.h (Rep.stay (p1.h.up g2) r1) r2 q2
  refine aux.bind p hq fun d s1 v H1 g1 p1 r1 q1 => ?_
  cases d with
  | bl k => exact ⟨k, r1, PostR.here q1 p1.st rfl⟩
  | _ => exact q1.elim
theorem et_val {e : Expr} {f : DEnv → M D} (h : EvJ G X W e f) (he : ∀ whole, isTrue e X.env whole = (do let v ← whole; standAt e.pos; holding [v] (truthy v))) : EvT G X W e (toB f) := by
  obtain ⟨t, pe, ev⟩ := h.ex
  refine .of (pt_val pe he) fun U σ H env s Q p hq => ?_
  refine ev.bind p hq fun d s1 v H1 g1 p1 r1 q1 => ?_
  cases d with
  | bl k => exact ⟨k, r1, PostR.here q1 p1.st rfl⟩
  | _ => exact q1.elim
theorem ev_un {op : UnaryOp} {a : Expr} {fa : DEnv → M D} {g : D → M D} {pos : Pos} (ho : Op1 G X W (unaryOp op) g) (ha : EvJ G X W a fa) : EvJ G X W (.UnaryOp op a pos) (fun env => sq (fa env) g) := by
  obtain ⟨r, hr, h⟩ := ho
  obtain ⟨t, pe, ev⟩ := ha.ex
  refine .of (pe_un hr pe) fun U σ H env s Q p hq => ?_
  refine ev.bind p hq fun d s1 v H1 g1 p1 r1 q1 => ?_
  exact h U H1 s1 d v Q p1.h r1 q1
/-! ### truth -/
def bD : D → M Bool := fun d => match d with
  | .bl b => rt b
  | _ => bad
def dNot (f : DEnv → M D) : DEnv → M D := fun env => sq (f env) fun d => match d with
  | .bl b => rt (.bl (!b))
  | _ => bad
def dAnd (f g : DEnv → M D) : DEnv → M D := fun env => sq (f env) fun d => match d with
  | .bl true => g env
  | .bl false => rt (.bl false)
  | _ => bad
def dOr (f g : DEnv → M D) : DEnv → M D := fun env => sq (f env) fun d => match d with
  | .bl true => rt (.bl true)
  | .bl false => g env
  | _ => bad
theorem ev_not {a : Expr} {fa : DEnv → M D} {pos : Pos} (ha : EvJ G X W a fa) : EvJ G X W (.UnaryOp .Not a pos) (dNot fa) := by
  obtain ⟨t, pe, ev⟩ := ha.ex
  refine .of (pe_not pe) fun U σ H env s Q p hq => ?_
  refine ev.bind p hq fun d s1 v H1 g1 p1 r1 q1 => ?_
  cases d with
  | bl k => exact ⟨k, r1, PostR.here q1 p1.st rfl⟩
  | _ => exact q1.elim
theorem ev_one {op : BoolOp} {a : Expr} {fa : DEnv → M D} {pos : Pos} (ha : EvJ G X W a fa) : EvJ G X W (.BoolOp op [a] pos) fa := by
  obtain ⟨t, pe, ev⟩ := ha.ex
  exact .of (pe_one pe) ev
theorem ev_and {a b : Expr} {rest : List Expr} {fa fb : DEnv → M D} {pos : Pos} (ha : EvJ G X W a fa) (hb : EvJ G X W (.BoolOp .And (b :: rest) pos) fb) : EvJ G X W (.BoolOp .And (a :: b :: rest) pos) (dAnd fa fb) := by
  obtain ⟨t, pe, ev⟩ := ha.ex
  obtain ⟨t', pe', ev'⟩ := hb.ex
  refine .of (pe_and pe pe') fun U σ H env s Q p hq => ?_
  refine ev.bind p hq fun d s1 v H1 g1 p1 r1 q1 => ?_
  cases d with
  | bl k =>
    refine ⟨k, r1, ?_⟩
    cases k with
    | true => exact iteT (ev' U σ H1 env s1 Q p1 q1)
    | false => exact iteF (PostR.here q1 p1.st rfl)
  | _ => exact q1.elim
theorem ev_or {a b : Expr} {rest : List Expr} {fa fb : DEnv → M D} {pos : Pos} (ha : EvJ G X W a fa) (hb : EvJ G X W (.BoolOp .Or (b :: rest) pos) fb) : EvJ G X W (.BoolOp .Or (a :: b :: rest) pos) (dOr fa fb) := by
  obtain ⟨t, pe, ev⟩ := ha.ex
  obtain ⟨t', pe', ev'⟩ := hb.ex
  refine .of (pe_or pe pe') fun U σ H env s Q p hq => ?_
  refine ev.bind p hq fun d s1 v H1 g1 p1 r1 q1 => ?_
  cases d with
  | bl k =>
    refine ⟨k, r1, ?_⟩
    cases k with
    | true => exact iteT (PostR.here q1 p1.st rfl)
    | false => exact iteF (ev' U σ H1 env s1 Q p1 q1)
  | _ => exact q1.elim
/-- tests; whatever the whole is -/
def EvP (G : Wd) (X : Cx) (W : XK) (e : Expr) (f : DEnv → M Bool) : Prop := PW X e (tD G.g W RB f)
theorem EvP.ex {e : Expr} {f : DEnv → M Bool} (h : EvP G X W e f) : ∃ t, PW X e t ∧ Ev G.g W RB t f := ⟨_, h, ev_tD⟩
theorem EvP.of {e : Expr} {f : DEnv → M Bool} {t : TT} (h : PW X e t) (ev : Ev G.g W RB t f) : EvP G X W e f := ⟨fun w pins s σ H Q I ⟨U, env, st, p, q⟩ => h.run w pins s σ H Q I (ev U σ H env st Q p q)⟩
def bAnd (f g : DEnv → M Bool) : DEnv → M Bool := fun env => sq (f env) fun b => if b = true then g env else rt false
def bOr (f g : DEnv → M Bool) : DEnv → M Bool := fun env => sq (f env) fun b => if b = true then rt true else g env
theorem EvP.t {e : Expr} {f : DEnv → M Bool} (h : EvP G X W e f) : EvT G X W e f := by
  obtain ⟨t, pw, ev⟩ := h.ex
  exact .of pw.pt ev
theorem ep_and1 {a : Expr} {fa : DEnv → M Bool} {pos : Pos} (ha : EvT G X W a fa) : EvP G X W (.BoolOp .And [a] pos) fa := by
  obtain ⟨t, pt, ev⟩ := ha.ex
  exact .of (pw_and1 pt) ev
theorem ep_or1 {a : Expr} {fa : DEnv → M Bool} {pos : Pos} (ha : EvT G X W a fa) : EvP G X W (.BoolOp .Or [a] pos) fa := by
  obtain ⟨t, pt, ev⟩ := ha.ex
  exact .of (pw_or1 pt) ev
theorem ep_and {a b : Expr} {rest : List Expr} {fa fb : DEnv → M Bool} {pos : Pos} (ha : EvT G X W a fa) (hb : EvP G X W (.BoolOp .And (b :: rest) pos) fb) : EvP G X W (.BoolOp .And (a :: b :: rest) pos) (bAnd fa fb) := by
  obtain ⟨t, pe, ev⟩ := ha.ex
  obtain ⟨t', pe', ev'⟩ := hb.ex
  refine .of (pw_and pe pe') fun U σ H env s Q p hq => ?_
  refine ev.bind p hq fun b s1 c H1 g1 p1 r1 q1 => ?_
  subst r1
  cases b with
  | true => exact iteT (ev' U σ H1 env s1 Q p1 q1)
  | false => exact iteF (PostR.here q1 p1.st rfl)
theorem ep_or {a b : Expr} {rest : List Expr} {fa fb : DEnv → M Bool} {pos : Pos} (ha : EvT G X W a fa) (hb : EvP G X W (.BoolOp .Or (b :: rest) pos) fb) : EvP G X W (.BoolOp .Or (a :: b :: rest) pos) (bOr fa fb) := by
  obtain ⟨t, pe, ev⟩ := ha.ex
  obtain ⟨t', pe', ev'⟩ := hb.ex
  refine .of (pw_or pe pe') fun U σ H env s Q p hq => ?_
  refine ev.bind p hq fun b s1 c H1 g1 p1 r1 q1 => ?_
  subst r1
  cases b with
  | true => exact iteT (PostR.here q1 p1.st rfl)
  | false => exact iteF (ev' U σ H1 env s1 Q p1 q1)
def bNot (f : DEnv → M Bool) : DEnv → M Bool := fun env => sq (f env) fun b => rt (!b)
theorem et_not {a : Expr} {fa : DEnv → M Bool} {pos : Pos} (ha : EvT G X W a fa) : EvT G X W (.UnaryOp .Not a pos) (bNot fa) := by
  obtain ⟨t, pt, ev⟩ := ha.ex
  refine .of (pt_not pt) fun U σ H env s Q p hq => ?_
  refine ev.bind p hq fun b s1 c H1 g1 p1 r1 q1 => ?_
  subst r1
  exact PostR.here q1 p1.st rfl
def dIte (c : DEnv → M Bool) (fa fb : DEnv → M D) : DEnv → M D := fun env => sq (c env) fun b => if b = true then fa env else fb env
theorem ev_ite {c a b : Expr} {fc : DEnv → M Bool} {fa fb : DEnv → M D} {pos : Pos} (hc : EvT G X W c fc) (ha : EvJ G X W a fa) (hb : EvJ G X W b fb) : EvJ G X W (.IfExp c a b pos) (dIte fc fa fb) := by
  obtain ⟨t, pt, ev⟩ := hc.ex
  obtain ⟨ta, pa, ea⟩ := ha.ex
  obtain ⟨tb, pb, eb⟩ := hb.ex
  refine .of (pe_ifExp pt pa pb) fun U σ H env s Q p hq => ?_
  refine ev.bind p hq fun b s1 c H1 g1 p1 r1 q1 => ?_
  subst r1
  cases b with
  | true => exact iteT (ea U σ H1 env s1 Q p1 q1)
  | false => exact iteF (eb U σ H1 env s1 Q p1 q1)
/-! ### calls of the text's own defs -/
/-- what a def promises: over the data of its arguments it gives what g tells -/
def SpD (G : Gd) (n : Nat) (g : List D → M D) : Sp := fun vs H Q E => vs.length = n ∧ ∃ (ds : List D) (s : S) (U : Addr → Prop), PreH G U H s ∧ RepL G U H ds vs ∧ PostD G U H E (g ds s) Q
theorem SpD.mono {G : Gd} {n : Nat} {g g' : List D → M D} (h : ∀ ds s, Le (g' ds s) (g ds s)) : ∀ vs H Q E, SpD G n g' vs H Q E → SpD G n g vs H Q E := fun vs H Q E ⟨l, ds, s, U, p, r, q⟩ => by
  refine ⟨l, ds, s, U, p, r, ?_⟩
  rcases h ds s with e | e
  · rw [e] at q
    exact q.elim
  · rw [← e]
    exact q
structure Fn where
  name : Str
  n : Nat
  lvl : Nat
  g : List D → M D
def FnD (G : Wd) (c : Fn) : Prop := ∃ (f : Addr) (fd : FuncData) (ps : List Str), FnOk G.P G.w G.K G.mg G.base (L2.CX G.P G.w) c.lvl f fd ps (SpD G.g c.n c.g) ∧ G.mg c.name = some (.ref f) ∧ PySem.W.keepIn G.K (.ref f) = true ∧ Binds G.K fd ps []
theorem ev_call {N : List Str} {k : Nat} {c : Fn} {e : Expr} {es : List Expr} {fa : DEnv → M (List D)} {q pos : Pos} (hX : XOk G X N W k) (hk : c.lvl ≤ k) (hc : FnD G c) (hg : Gl X c.name) (hdb : (c.name == ("__debug__" : Str)) = false)
    (ha : EvA G X W (e :: es) fa) (he : starEach (e :: es) X.env = (false, eval e X.env) :: starEach es X.env) (hpl : (backTo pos (starEach es X.env)).any (·.1) = false) :
    EvJ G X W (.Call (.Name c.name q) (e :: es) [] pos) (fun env => sq (fa env) fun ds => if ds.length = c.n then c.g ds else bad) := by
  obtain ⟨f, fd, ps, F, hm, hkp, hb⟩ := hc
  obtain ⟨t, pa, ev⟩ := ha.ex
  rw [← hX.prog, ← hX.w, ← hX.K, ← hX.mg, ← hX.base] at F
  rw [← hX.K] at hkp hb
  refine .of (pe_call F (hX.room.mono hk) hg (by rw [hX.mg]; exact hm) hkp hb .nil hX.passes pa hdb he hpl) fun U σ H env s Q p hq => ?_
  refine ev.bind p hq fun ds s1 vs H1 g1 p1 r1 q1 => ?_
  by_cases z : ds.length = c.n
  · simp only [if_pos z] at q1
    rw [List.append_nil]
    exact ⟨by rw [← r1.length]; exact z, ds, s1, U, p1.h, r1, q1⟩
  · simp only [if_neg z] at q1
    exact q1.elim
end
end Dn
/-! DnEv2: subscripts, slices, attributes, methods, instances made, built-ins, isinstance, comprehensions. -/
namespace Dn
open PySem L2
section
variable {G : Wd} {X : Cx} {W : XK}
/-! ### weak rows -/
def RepLW (G : Gd) (U : Addr → Prop) (H : Hp) : List D → List V → Prop
  | [], vs => vs = []
  | d :: ds, vs => ∃ v r, vs = v :: r ∧ RepW G U H d v ∧ RepLW G U H ds r
abbrev RLW (G : Gd) : (Addr → Prop) → Hp → List D → List V → Prop := fun U H d v => RepLW G U H d v
theorem RepLW.stay {G : Gd} {U : Addr → Prop} {H H' : Hp} (x : Gr G H H') (us : U G.sa) : ∀ {ds : List D} {vs : List V}, RepLW G U H ds vs → RepLW G U H' ds vs
  | [], _, h => h
  | d :: ds, _, h => by
    obtain ⟨v, r, e, h1, h2⟩ := h
    exact ⟨v, r, e, h1.stay x us, RepLW.stay x us h2⟩
def EvB (G : Wd) (X : Cx) (W : XK) (es : List Expr) (f : DEnv → M (List D)) : Prop := PA X es (tD G.g W (RLW G.g) f)
theorem EvB.ex {e : List Expr} {f : DEnv → M (List D)} (h : EvB G X W e f) : ∃ t, PA X e t ∧ Ev G.g W (RLW G.g) t f := ⟨_, h, ev_tD⟩
theorem EvB.of {e : List Expr} {f : DEnv → M (List D)} {t : TA} (h : PA X e t) (ev : Ev G.g W (RLW G.g) t f) : EvB G X W e f := ⟨fun pos pins s σ H Q I ⟨U, env, st, p, q⟩ => h.run pos pins s σ H Q I (ev U σ H env st Q p q)⟩
theorem eb_nil : EvB G X W [] dNil := .of pa_nil fun U σ H env s Q p hq => PostR.here hq p.st rfl
theorem eb_cons {e : Expr} {es : List Expr} {f : DEnv → M D} {r : DEnv → M (List D)} (h : EvW G X W e f) (hs : EvB G X W es r) (ns : starEach (e :: es) X.env = (false, eval e X.env) :: starEach es X.env) : EvB G X W (e :: es) (dCons f r) := by
  obtain ⟨t, pe, ev⟩ := h.ex
  obtain ⟨u, pa, eva⟩ := hs.ex
  refine .of (pa_cons pe pa ns) fun U σ H env s Q p hq => ?_
  refine ev.bind p hq fun d s1 v H1 g1 p1 r1 q1 => ?_
  refine eva.bind p1 q1 fun ds s2 vs H2 g2 p2 r2 q2 => ?_
  exact PostR.here q2 p2.st ⟨v, vs, rfl, r1.stay g2 p1.usa, r2⟩
/-! ### subscripts -/
theorem atI_rep {G : Gd} {U : Addr → Prop} {H : Hp} {xs : List D} {vs : List V} {i : Int} {d : D} (h : RepL G U H xs vs) (e : atI xs i = some d) : ∃ v, atI vs i = some v ∧ Rep G U H d v := by
  have l := h.length
  unfold atI at e ⊢
  rw [← l]
  cases q : ixN xs.length i with
  | none => rw [q] at e; cases e
  | some j =>
    rw [q] at e
    obtain ⟨v, hv, r⟩ := h.get (i := j) (d := d) e
    exact ⟨v, hv, r⟩
def ixD : D → D → M D
  | .tup xs, .int i => fun s => match atI xs i with
    | some d => .ok d s
    | none => .bad
  | .lst xs, .int i => fun s => match atI xs i with
    | some d => .ok d s
    | none => .bad
  | .str x, .int i => fun s => match atI x.cps.toList i with
    | some c => .ok (.str ⟨#[c]⟩) s
    | none => .bad
  | .st, .int i => fun s => if i = 0 then .ok (.int s.1) s else if i = 1 then .ok (.int s.2) s else .bad
  | _, _ => bad
theorem one_le_line : (1 : Nat) ≤ sizeLine := by rw [sizeLine_eq]; decide
theorem ev_ix {a b : Expr} {fa fb : DEnv → M D} {pos : Pos} (ha : EvW G X W a fa) (hb : EvJ G X W b fb) (hs : PlainIx b) : EvJ G X W (.Subscript a b pos) (d2 ixD fa fb) := by
  obtain ⟨t, pe, ev⟩ := ha.ex
  obtain ⟨t', pe', ev'⟩ := hb.ex
  refine .of (pe_ix ix_seq pe pe' hs) fun U σ H env s Q p hq => ?_
  refine ev.bind p hq fun d s1 v H1 g1 p1 r1 q1 => ?_
  refine ev'.bind p1 q1 fun e s2 u H2 g2 p2 r2 q2 => ?_
  have r1 := r1.stay g2 p1.usa
  have lstC : ∀ {xs : List D} {vs : List V} {l : Addr}, H2 l = some (.lst vs) → RepL G.g U H2 xs vs → d = .lst xs → v = .ref l → rIx X.K v u H2 Q := fun {xs vs l} hl rl ed ev => by
    subst ed ev
    cases e with
    | int i =>
      cases (show u = .int i from r2)
      cases k : atI xs i with
      | none => simp only [ixD, k] at q2; exact q2.elim
      | some x =>
        simp only [ixD, k] at q2
        obtain ⟨w, hw, rw'⟩ := atI_rep rl k
        exact .inl ⟨l, vs, i, w, rfl, rfl, .inl (.inl hl), hw, PostR.here q2 p2.st rw'⟩
    | _ => exact q2.elim
  rcases r1 with r1 | ⟨l, rfl, _, _, m⟩
  · cases d with
    | tup xs =>
      obtain ⟨l, vs, rfl, _, hl, _, rl⟩ := r1
      cases e with
      | int i =>
        cases (show u = .int i from r2)
        cases k : atI xs i with
        | none => simp only [ixD, k] at q2; exact q2.elim
        | some x =>
          simp only [ixD, k] at q2
          obtain ⟨w, hw, rw'⟩ := atI_rep rl k
          exact .inr (.inl ⟨l, vs, i, w, rfl, rfl, .inl (.inl hl), hw, PostR.here q2 p2.st rw'⟩)
      | _ => exact q2.elim
    | lst xs =>
      obtain ⟨l, vs, e', _, hl, _, rl⟩ := r1
      exact lstC hl rl rfl e'
    | str x =>
      obtain ⟨rfl, z⟩ := r1
      cases e with
      | int i =>
        cases (show u = .int i from r2)
        cases k : atI x.cps.toList i with
        | none => simp only [ixD, k] at q2; exact q2.elim
        | some c =>
          simp only [ixD, k] at q2
          exact .inr (.inr ⟨x, i, c, rfl, rfl, z, k, PostR.here q2 p2.st ⟨rfl, one_le_line⟩⟩)
      | _ => exact q2.elim
    | st =>
      cases (show v = .ref G.sa from r1)
      cases e with
      | int i =>
        cases (show u = .int i from r2)
        have hst : H2 G.sa = some (.lst [.int s2.1, .int s2.2]) := p2.st
        by_cases h0 : i = 0
        · subst h0
          exact .inl ⟨G.sa, _, 0, .int s2.1, rfl, rfl, .inl (.inl hst), rfl, PostR.here q2 p2.st rfl⟩
        · by_cases h1 : i = 1
          · subst h1
            exact .inl ⟨G.sa, _, 1, .int s2.2, rfl, rfl, .inl (.inl hst), rfl, PostR.here q2 p2.st rfl⟩
          · simp only [ixD, if_neg h0, if_neg h1] at q2
            exact q2.elim
      | _ => exact q2.elim
    | _ => exact q2.elim
  · cases d with
    | lst xs =>
      obtain ⟨vs, hl, _, rl⟩ := m
      exact lstC hl rl rfl rfl
    | dct ks xs => exact q2.elim
    | ins c xs => exact q2.elim
    | _ => exact m.elim
/-! ### slices -/
abbrev RO : (Addr → Prop) → Hp → Option Int → Option Int → Prop := fun _ _ b c => b = c
def EvO (G : Wd) (X : Cx) (W : XK) (e : Option Expr) (f : DEnv → M (Option Int)) : Prop := PO X e (tD G.g W RO f)
theorem EvO.ex {e : Option Expr} {f : DEnv → M (Option Int)} (h : EvO G X W e f) : ∃ t, PO X e t ∧ Ev G.g W RO t f := ⟨_, h, ev_tD⟩
theorem EvO.of {e : Option Expr} {f : DEnv → M (Option Int)} {t : TO} (h : PO X e t) (ev : Ev G.g W RO t f) : EvO G X W e f := ⟨fun pins s σ H Q I ⟨U, env, st, p, q⟩ => h.run pins s σ H Q I (ev U σ H env st Q p q)⟩
def dNo : DEnv → M (Option Int) := fun _ => rt none
def dSome (f : DEnv → M D) : DEnv → M (Option Int) := fun env => sq (f env) fun d => match d with
  | .int i => rt (some i)
  | _ => bad
theorem eo_none : EvO G X W none dNo := .of po_none fun U σ H env s Q p hq => PostR.here hq p.st rfl
theorem eo_some {e : Expr} {f : DEnv → M D} (h : EvJ G X W e f) : EvO G X W (some e) (dSome f) := by
  obtain ⟨t, pe, ev⟩ := h.ex
  refine .of (po_some pe) fun U σ H env s Q p hq => ?_
  refine ev.bind p hq fun d s1 v H1 g1 p1 r1 q1 => ?_
  cases d with
  | int i => exact ⟨i, r1, PostR.here q1 p1.st rfl⟩
  | _ => exact q1.elim
def cutL {α : Type} (xs : List α) (lo hi : Option Int) : List α := (xs.drop (HT.sIx xs.length 0 lo)).take (HT.sIx xs.length xs.length hi - HT.sIx xs.length 0 lo)
theorem cutL_le {α : Type} (xs : List α) (lo hi : Option Int) : (cutL xs lo hi).length ≤ xs.length := by
  unfold cutL
  rw [List.length_take, List.length_drop]
  omega
theorem cutL_rep {G : Gd} {U : Addr → Prop} {H : Hp} {xs : List D} {vs : List V} (h : RepL G U H xs vs) (lo hi : Option Int) : RepL G U H (cutL xs lo hi) (cutV vs lo hi) := by
  have l := h.length
  unfold cutL cutV
  rw [l]
  exact RepL.take _ (RepL.drop _ h)
theorem cutL_all {α : Type} {xs : List α} {lo hi : Option Int} (h : HT.sIx xs.length 0 lo = 0 ∧ HT.sIx xs.length xs.length hi = xs.length) : cutL xs lo hi = xs := by
  unfold cutL
  rw [h.1, h.2]
  simp
theorem cutS_le (x : Str) (lo hi : Option Int) : (cutS x lo hi).length ≤ x.length := by
  unfold cutS
  show (Array.size _) ≤ _
  simp only [List.size_toArray]
  first
    | (rw [List.length_take, List.length_drop]; show _ ≤ x.cps.size; simp only [Array.length_toList]; omega)
    | skip
def slD (d : D) (lo hi : Option Int) : M D := match d with
  | .tup xs => rt (.tup (cutL xs lo hi))
  | .lst xs => rt (.lst (cutL xs lo hi))
  | .str x => rt (.str (cutS x lo hi))
  | _ => bad
def d3s (fa : DEnv → M D) (fl fh : DEnv → M (Option Int)) : DEnv → M D := fun env => sq (fa env) fun d => sq (fl env) fun lo => sq (fh env) fun hi => slD d lo hi
theorem ev_sl {a : Expr} {lo hi : Option Expr} {fa : DEnv → M D} {fl fh : DEnv → M (Option Int)} {p2' pos : Pos} (ha : EvW G X W a fa) (hl : EvO G X W lo fl) (hh : EvO G X W hi fh) : EvJ G X W (.Subscript a (.Slice lo hi none p2') pos) (d3s fa fl fh) := by
  obtain ⟨t, pe, ev⟩ := ha.ex
  obtain ⟨tl, pl, el⟩ := hl.ex
  obtain ⟨th, ph, eh⟩ := hh.ex
  refine .of (pe_slice (sl_list.or (sl_tupA.or sl_str)) pe pl ph) fun U σ H env s Q p hq => ?_
  refine ev.bind p hq fun d s1 v H1 g1 p1 r1 q1 => ?_
  refine el.bind p1 q1 fun i s2 i' H2 g2 p2 ri q2 => ?_
  refine eh.bind p2 q2 fun j s3 j' H3 g3 p3 rj q3 => ?_
  subst ri rj
  have r1 := r1.stay (g2.trans g3) p1.usa
  have lstC : ∀ {xs : List D} {vs : List V} {l : Addr}, H3 l = some (.lst vs) → RepL G.g U H3 xs vs → xs.length ≤ sizeLine → d = .lst xs → v = .ref l → rSlL X.K v i j H3 Q := fun {xs vs l} hl rl z ed ev => by
    subst ed ev
    refine ⟨l, vs, rfl, .inl (.inl hl), fun a na => ?_⟩
    exact q3 _ _ (Gr.upd na) (p3.st.upd na) (Rep.lst_new (cutL_rep rl i j) na (p3.free na) (Nat.le_trans (cutL_le _ _ _) z))
  rcases r1 with r1 | ⟨l, rfl, _, _, m⟩
  · cases d with
    | tup xs =>
      obtain ⟨l, vs, rfl, nu, hl, z, rl⟩ := r1
      have le := rl.length
      refine .inr (.inl ⟨l, vs, rfl, .inl (.inl hl), fun hw => ?_, fun _ a na => ?_⟩)
      · rw [← le] at hw
        refine PostR.here q3 p3.st ?_
        rw [cutL_all hw]
        exact ⟨l, vs, rfl, nu, hl, z, rl⟩
      · exact q3 _ _ (Gr.upd na) (p3.st.upd na) (Rep.tup_new (cutL_rep rl i j) na (p3.free na) (Nat.le_trans (cutL_le _ _ _) z))
    | lst xs =>
      obtain ⟨l, vs, e', _, hl, z, rl⟩ := r1
      exact .inl (lstC hl rl z rfl e')
    | str x =>
      obtain ⟨rfl, z⟩ := r1
      exact .inr (.inr ⟨x, rfl, z, PostR.here q3 p3.st ⟨rfl, Nat.le_trans (cutS_le _ _ _) z⟩⟩)
    | _ => exact q3.elim
  · cases d with
    | lst xs =>
      obtain ⟨vs, hl, z, rl⟩ := m
      exact .inl (lstC hl rl z rfl rfl)
    | dct ks xs => exact q3.elim
    | ins c xs => exact q3.elim
    | _ => exact m.elim
/-! ### attributes, methods, instances -/
theorem zip_lookup : ∀ {N : List Str} {vs : List V} {j : Nat} {f : Str} {v : V}, N.Nodup → N[j]? = some f → vs[j]? = some v → (N.zip vs).lookup f = some v
  | [], _, _, _, _, _, h, _ => by simp at h
  | _ :: _, [], _, _, _, _, _, h => by simp at h
  | n :: N, w :: vs, 0, f, v, nd, h, h' => by
    simp at h h'
    subst h h'
    rw [List.zip_cons_cons, List.lookup_cons, beq_self_eq_true]
  | n :: N, w :: vs, j + 1, f, v, nd, h, h' => by
    have hm : f ∈ N := List.mem_of_getElem? (by simpa using h)
    have ne : (f == n) = false := beq_eq_false_iff_ne.mpr fun e => (List.nodup_cons.mp nd).1 (e ▸ hm)
    rw [List.zip_cons_cons, List.lookup_cons, ne]
    exact zip_lookup (List.nodup_cons.mp nd).2 (by simpa using h) (by simpa using h')
theorem zip_none : ∀ {N : List Str} {vs : List V} {f : Str}, f ∉ N → (N.zip vs).lookup f = none
  | [], _, _, _ => rfl
  | _ :: _, [], _, _ => rfl
  | n :: N, w :: vs, f, h => by
    have ne : (f == n) = false := beq_eq_false_iff_ne.mpr fun e => h (e ▸ List.mem_cons_self)
    rw [List.zip_cons_cons, List.lookup_cons, ne]
    exact zip_none fun z => h (List.mem_cons_of_mem _ z)
theorem fldsOf_nodup (c : Nat) : (fldsOf c).Nodup := by
  unfold fldsOf
  split <;> decide +kernel
/-- the j-th attribute of an instance of the class c -/
def attD (c j : Nat) : D → M D := fun d => match d with
  | .ins c' xs => fun s => if c' = c then (match xs[j]? with
    | some x => .ok x s
    | none => .bad) else .bad
  | _ => bad
theorem ev_att {e : Expr} {fe : DEnv → M D} {c j : Nat} {f : Str} {pos : Pos} (cl : Cls X.K (G.cl c)) (na : NoAttr X.K (G.cl c) f) (hj : (fldsOf c)[j]? = some f) (he : EvJ G X W e fe) (hb : attributeBase e f X.env (eval e X.env) = eval e X.env) :
    EvJ G X W (.Attribute e f pos) (fun env => sq (fe env) (attD c j)) := by
  obtain ⟨t, pe, ev⟩ := he.ex
  refine .of (pe_fld pe hb) fun U σ H env s Q p hq => ?_
  refine ev.bind p hq fun d s1 v H1 g1 p1 r1 q1 => ?_
  cases d with
  | ins c' xs =>
    obtain ⟨a, dx, vs, rfl, nu, ha, hl, rl⟩ := r1
    by_cases hc : c' = c
    · subst hc
      cases k : xs[j]? with
      | none => simp only [attD, k, if_pos] at q1; exact q1.elim
      | some x =>
        simp only [attD, k, if_pos] at q1
        obtain ⟨w, hw, rw'⟩ := rl.get k
        exact ⟨a, _, dx, _, w, rfl, ha, cl, na, zip_lookup (fldsOf_nodup c') hj hw, PostR.here q1 p1.st rw'⟩
    · simp only [attD, if_neg hc] at q1
      exact q1.elim
  | _ => exact q1.elim
/-- a method of the class c -/
structure Mt where
  c : Nat
  name : Str
  n : Nat
  lvl : Nat
  g : List D → M D
def MtD (G : Wd) (m : Mt) : Prop := m.name ∉ fldsOf m.c ∧ Cls G.K (G.cl m.c) ∧ ∃ (f : Addr) (fd : FuncData) (ps : List Str), FnOk G.P G.w G.K G.mg G.base (L2.CX G.P G.w) m.lvl f fd ps (SpD G.g m.n m.g) ∧ Meth G.K (G.cl m.c) m.name f ∧ Binds G.K fd ps []
def mtD (m : Mt) (d : D) (ds : List D) : M D := if ds.length + 1 = m.n then m.g (d :: ds) else bad
def isIns (c : Nat) : D → Bool
  | .ins c' _ => c' == c
  | _ => false
def dMt (m : Mt) (fo : DEnv → M D) (fa : DEnv → M (List D)) : DEnv → M D := fun env => sq (fo env) fun d => if isIns m.c d = true then sq (fa env) (mtD m d) else bad
theorem isIns_of {c : Nat} {d : D} (h : isIns c d = true) : ∃ xs, d = .ins c xs := by
  cases d with
  | ins c' xs => exact ⟨xs, by rw [eq_of_beq (show (c' == c) = true from h)]⟩
  | _ => cases h
section
variable {N : List Str} {k : Nat}
theorem ev_mt {m : Mt} {o e : Expr} {es : List Expr} {fo : DEnv → M D} {fa : DEnv → M (List D)} {apos pos : Pos} {pl : Sem Bool} (hX : XOk G X N W k) (hk : m.lvl ≤ k) (hm : MtD G m) (ho : EvJ G X W o fo) (ha : EvA G X W (e :: es) fa)
    (hst : starEach (e :: es) X.env = (false, eval e X.env) :: starEach es X.env) (hpl : (backTo pos (starEach es X.env)).any (·.1) = false)
    (ht : eval (.Call (.Attribute o m.name apos) (e :: es) [] pos) X.env = (do
      let ov ← eval o X.env
      standAt apos.atName
      let (f, first) ← holding [ov] (getMethod ov m.name pl)
      callWith pos f first (backTo pos (starEach (e :: es) X.env)) (backToKw pos (keywordEach [] X.env)))) :
    EvJ G X W (.Call (.Attribute o m.name apos) (e :: es) [] pos) (dMt m fo fa) := by
  obtain ⟨hn, cl, f, fd, ps, F, me, hb⟩ := hm
  obtain ⟨t, pe, ev⟩ := ho.ex
  obtain ⟨ta, pa, ea⟩ := ha.ex
  rw [← hX.prog, ← hX.w, ← hX.K, ← hX.mg, ← hX.base] at F
  rw [← hX.K] at cl me hb
  refine .of (pe_meth pe cl me F (hX.room.mono hk) hb .nil hX.passes pa hst hpl ht) fun U σ H env s Q p hq => ?_
  refine ev.bind p hq fun d s1 v H1 g1 p1 r1 q1 => ?_
  by_cases hi : isIns m.c d = true
  · simp only [if_pos hi] at q1
    obtain ⟨xs, rfl⟩ := isIns_of hi
    obtain ⟨a, dx, vs, rfl, nu, hH, hl, rl⟩ := id r1
    refine ⟨a, dx, _, rfl, hH, zip_none hn, ?_⟩
    refine ea.bind p1 q1 fun ds s2 us H2 g2 p2 r2 q2 => ?_
    unfold mtD at q2
    by_cases z : ds.length + 1 = m.n
    · simp only [if_pos z] at q2
      rw [List.append_nil]
      exact ⟨by rw [List.length_cons, ← r2.length]; exact z, _, s2, U, p2.h, RepL.cons (Rep.stay (p1.h.up g2) r1) r2, q2⟩
    · simp only [if_neg z] at q2
      exact q2.elim
  · simp only [if_neg hi] at q1
    exact q1.elim
theorem ev_mt0 {m : Mt} {o : Expr} {fo : DEnv → M D} {apos pos : Pos} {pl : Sem Bool} (hX : XOk G X N W k) (hk : m.lvl ≤ k) (hm : MtD G m) (ho : EvJ G X W o fo)
    (ht : eval (.Call (.Attribute o m.name apos) [] [] pos) X.env = (do
      let ov ← eval o X.env
      standAt apos.atName
      let (f, first) ← holding [ov] (getMethod ov m.name pl)
      callWith pos f first (backTo pos (starEach [] X.env)) (backToKw pos (keywordEach [] X.env)))) :
    EvJ G X W (.Call (.Attribute o m.name apos) [] [] pos) (dMt m fo dNil) := by
  obtain ⟨hn, cl, f, fd, ps, F, me, hb⟩ := hm
  obtain ⟨t, pe, ev⟩ := ho.ex
  rw [← hX.prog, ← hX.w, ← hX.K, ← hX.mg, ← hX.base] at F
  rw [← hX.K] at cl me hb
  refine .of (pe_meth0 pe cl me F (hX.room.mono hk) hb .nil hX.passes ht) fun U σ H env s Q p hq => ?_
  refine ev.bind p hq fun d s1 v H1 g1 p1 r1 q1 => ?_
  by_cases hi : isIns m.c d = true
  · simp only [if_pos hi] at q1
    obtain ⟨xs, rfl⟩ := isIns_of hi
    obtain ⟨a, dx, vs, rfl, nu, hH, hl, rl⟩ := id r1
    refine ⟨a, dx, _, rfl, hH, zip_none hn, ?_⟩
    show SpD _ _ _ _ _ _ _
    have q2 : PostD G.g U H1 W (mtD m (.ins m.c xs) [] s1) Q := q1
    unfold mtD at q2
    by_cases z : ([] : List D).length + 1 = m.n
    · simp only [if_pos z] at q2
      exact ⟨z, _, s1, U, p1.h, RepL.cons r1 RepL.nil, q2⟩
    · simp only [if_neg z] at q2
      exact q2.elim
  · simp only [if_neg hi] at q1
    exact q1.elim
/-- what __init__ promises of a new instance of the class c: its attributes, by g of the arguments -/
def SpI (G : Gd) (c n : Nat) (g : List D → M (List D)) : Sp := fun vs H Q E => vs.length = n + 1 ∧ ∃ (x dx : Addr) (us : List V) (ds : List D) (s : S) (U : Addr → Prop), vs = .ref x :: us ∧ H x = some (.ins (G.cl c) dx []) ∧ x ≠ G.sa ∧ U x ∧ PreH G U H s ∧ RepL G U H ds us ∧
  match g ds s with
  | .ok fs s' => ∀ ws dx' H', Stay (fun a => a = G.sa ∨ a = x) H H' → StAt G H' s' → H' x = some (.ins (G.cl c) dx' ((fldsOf c).zip ws)) → (fldsOf c).length = ws.length → RepL G U H' fs ws → Q .non H'
  | .err e s' => ∀ k d H', Stay (fun a => a = G.sa ∨ a = x) H H' → StAt G H' s' → ExAt G U H' k d e → E k d H'
  | .bad => False
/-- a class that is made -/
structure Mk1 where
  c : Nat
  name : Str
  n : Nat
  lvl : Nat
  g : List D → M (List D)
/-- ds: what defaults fill up -/
def MkD (G : Wd) (m : Mk1) (ds : List D) : Prop := ∃ (f : Addr) (fd : FuncData) (ps : List Str) (dus : List Value) (dvs : List V), FnOk G.P G.w G.K G.mg G.base (L2.CX G.P G.w) m.lvl f fd ps (SpI G.g m.c (m.n + ds.length) m.g) ∧ Mk G.K (G.cl m.c) f ∧ G.mg m.name = some (.ref (G.cl m.c)) ∧
  Binds G.K fd ps dus ∧ Vals dvs dus ∧ ∀ U H, RepL G.g U H ds dvs
def mkD (m : Mk1) (dd : List D) (ds : List D) : M D := if ds.length = m.n then sq (m.g (ds ++ dd)) fun fs => rt (.ins m.c fs) else bad
theorem ev_mk {m : Mk1} {dd : List D} {e : Expr} {es : List Expr} {fa : DEnv → M (List D)} {q pos : Pos} (hX : XOk G X N W k) (hk : m.lvl + 1 ≤ k) (hm : MkD G m dd) (hg : Gl X m.name) (hdb : (m.name == ("__debug__" : Str)) = false) (ha : EvA G X W (e :: es) fa)
    (he : starEach (e :: es) X.env = (false, eval e X.env) :: starEach es X.env) (hpl : (backTo pos (starEach es X.env)).any (·.1) = false) :
    EvJ G X W (.Call (.Name m.name q) (e :: es) [] pos) (fun env => sq (fa env) (mkD m dd)) := by
  obtain ⟨f, fd, ps, dus, dvs, F, mk, hmg, hb, hv, hr⟩ := hm
  obtain ⟨ta, pa, ea⟩ := ha.ex
  rw [← hX.prog, ← hX.w, ← hX.K, ← hX.mg, ← hX.base] at F
  rw [← hX.K] at mk hb
  refine .of (pe_make mk F (hX.room.mono hk) hg (by rw [hX.mg]; exact hmg) hb hv hX.passes pa hdb he hpl) fun U σ H env s Q p hq => ?_
  refine ea.bind p hq fun ds s1 us H1 g1 p1 r1 q1 => ?_
  intro x dx nx ndx ne
  unfold mkD at q1
  by_cases z : ds.length = m.n
  · simp only [if_pos z] at q1
    have nxs : x ≠ G.sa := fun e => by
      have h1 : H1 G.sa = some _ := p1.st
      rw [← e, nx] at h1
      cases h1
    have nux : ¬ U x := p1.free nx
    have nudx : ¬ U dx := p1.free ndx
    have gr : Gr G.g H1 (upd (upd H1 dx (.own x)) x (.ins (G.cl m.c) dx [])) := Stay.upd (Stay.upd (Stay.refl _ _) ndx) (by rw [upd_ne (Ne.symm ne)]; exact nx)
    have st' : StAt G.g (upd (upd H1 dx (.own x)) x (.ins (G.cl m.c) dx [])) s1 := (p1.st.upd ndx).upd (by rw [upd_ne (Ne.symm ne)]; exact nx)
    have pr := p1.h.stay gr st'
    have rl : RepL G.g (fun a => U a ∨ a = x) (upd (upd H1 dx (.own x)) x (.ins (G.cl m.c) dx [])) (ds ++ dd) (us ++ dvs) := by
      refine RepL.stay (U := fun a => U a ∨ a = x) ?_ (RepL.fresh nx (RepL.append r1 (hr U H1)))
      exact Stay.mono gr fun b e => .inl (by rw [e]; exact p1.usa)
    have hls : (V.ref x :: (us ++ dvs)).length = m.n + dd.length + 1 := by
      have e1 := r1.length
      have e2 := (hr U H1).length
      simp only [List.length_cons, List.length_append]
      omega
    refine ⟨hls, x, dx, us ++ dvs, ds ++ dd, s1, (fun a => U a ∨ a = x), rfl, upd_same, nxs, .inr rfl, ⟨.inl pr.usa, fun a ha => ?_, st'⟩, rl, ?_⟩
    · rcases ha with ha | ha
      · exact pr.ud a ha
      · exact ⟨_, by rw [ha, upd_same]⟩
    · have up : ∀ {H'}, Stay (fun a => a = G.sa ∨ a = x) (upd (upd H1 dx (.own x)) x (.ins (G.cl m.c) dx [])) H' → Gr G.g H1 H' := fun {H'} w a o na e => by
        have nax : a ≠ x := fun e' => by rw [e', nx] at e; cases e
        exact w a o (fun z => z.elim na nax) (gr a o na e)
      cases hgo : m.g (ds ++ dd) s1 with
      | ok fs s' =>
        have q2 : PostD G.g U H1 W (.ok (.ins m.c fs) s') Q := by
          have := q1
          unfold sq at this
          rw [hgo] at this
          exact this
        exact fun ws dx' H' w hs hx hl rf => ⟨rfl, q2 _ H' (up w) hs ⟨x, dx', ws, rfl, nux, hx, hl, RepL.weak (fun a h => .inl h) rf⟩⟩
      | err e s' =>
        have q2 : PostD G.g U H1 W (.err e s') Q := by
          have := q1
          unfold sq at this
          rw [hgo] at this
          exact this
        refine fun kk d H' w hs ex => q2 kk d H' (up w) hs ?_
        obtain ⟨e1, d', f', v', e2, e3, e4, e5⟩ := ex
        exact ⟨e1, d', f', v', e2, e3, e4, Rep.weak (fun a h => .inl h) e5⟩
      | bad =>
        have q2 : PostD G.g U H1 W .bad Q := by
          have := q1
          unfold sq at this
          rw [hgo] at this
          exact this
        exact q2.elim
  · simp only [if_neg z] at q1
    exact q1.elim
end
/-! ### built-ins by name -/
structure Bi where
  name : Str
  g : List D → M D
def BiR (G : Wd) (X : Cx) (W : XK) (b : Bi) (r : List V → Hp → VK → Prop) : Prop :=
  ∀ (U : Addr → Prop) (H : Hp) (s : S) (ds : List D) (vs : List V) (Q : VK), PreH G.g U H s → RepLW G.g U H ds vs → PostD G.g U H W (b.g ds s) Q → r vs H Q
def BiOk (G : Wd) (X : Cx) (W : XK) (b : Bi) : Prop := b.name ∈ bltNames ∧
  ((∃ r id, CallR X (.builtin id) r ∧ bootBuiltins b.name = some (.builtin id) ∧ BiR G X W b r) ∨ (∃ r T, CallR X (.type T) r ∧ bootBuiltins b.name = some (.type T) ∧ BiR G X W b r))
theorem blt_ne : ∀ x ∈ bltNames, x ≠ "__name__" ∧ (x == ("__debug__" : Str)) = false := by decide +kernel
theorem ev_bi {N : List Str} {k : Nat} {b : Bi} {e : Expr} {es : List Expr} {fa : DEnv → M (List D)} {q pos : Pos} (hX : XOk G X N W k) (hb : BiOk G X W b) (hg : Gl X b.name) (ha : EvB G X W (e :: es) fa)
    (he : starEach (e :: es) X.env = (false, eval e X.env) :: starEach es X.env) (hpl : (backTo pos (starEach es X.env)).any (·.1) = false) :
    EvJ G X W (.Call (.Name b.name q) (e :: es) [] pos) (fun env => sq (fa env) b.g) := by
  obtain ⟨hn, hb⟩ := hb
  obtain ⟨ta, pa, ea⟩ := ha.ex
  obtain ⟨n1, n2⟩ := blt_ne _ hn
  have hm := hX.bl _ hn
  rcases hb with ⟨r, id, hc, hv, hr⟩ | ⟨r, T, hc, hv, hr⟩
  · refine .of (pe_callB hc hg hm hv pa n1 n2 he hpl) fun U σ H env s Q p hq => ?_
    refine ea.bind p hq fun ds s1 vs H1 g1 p1 r1 q1 => ?_
    exact hr U H1 s1 ds vs Q p1.h r1 q1
  · refine .of (pe_callTy hc hg hm hv pa n1 n2 he hpl) fun U σ H env s Q p hq => ?_
    refine ea.bind p hq fun ds s1 vs H1 g1 p1 r1 q1 => ?_
    exact hr U H1 s1 ds vs Q p1.h r1 q1
/-! ### methods of built-in types -/
structure Bm where
  name : Str
  ty : D → Bool
  g : D → List D → M D
def BmOk (G : Wd) (X : Cx) (W : XK) (m : Bm) : Prop := ∃ (T id : String) (r : V → List V → Hp → VK → Prop), PlainAttrs T ∧ Slot T m.name id ∧ typeOf (.builtin id) = pure (.type "method_descriptor") ∧ MtR X id r ∧
  (∀ (U : Addr → Prop) (H : Hp) (d : D) (v : V), RepW G.g U H d v → m.ty d = true → tyV X.K T v H) ∧
  ∀ (U : Addr → Prop) (H : Hp) (s : S) (d : D) (v : V) (ds : List D) (vs : List V) (Q : VK), PreH G.g U H s → RepW G.g U H d v → m.ty d = true → RepLW G.g U H ds vs → PostD G.g U H W (m.g d ds s) Q → r v vs H Q
def dBm (m : Bm) (fo : DEnv → M D) (fa : DEnv → M (List D)) : DEnv → M D := fun env => sq (fo env) fun d => if m.ty d = true then sq (fa env) (m.g d) else bad
theorem ev_bm {m : Bm} {o e : Expr} {es : List Expr} {fo : DEnv → M D} {fa : DEnv → M (List D)} {apos cpos : Pos} (hm : BmOk G X W m) (ho : EvW G X W o fo) (ha : EvB G X W (e :: es) fa)
    (hbase : attributeBase o m.name X.env (eval o X.env) = eval o X.env)
    (hfew : ((backTo cpos (starEach (e :: es) X.env)).all (fun x => !x.1) && (backToKw cpos (keywordEach [] X.env)).all (fun x => x.1.isSome)
      && decide ((e :: es).length + ([] : List Keyword).length + (if ([] : List Keyword).isEmpty then 0 else 1) < 30)) = true)
    (hline : (apos.endLine == cpos.line) = true) (hs : starEach (e :: es) X.env = (false, eval e X.env) :: starEach es X.env) (hplain : (backTo cpos (starEach es X.env)).any (·.1) = false) :
    EvJ G X W (.Call (.Attribute o m.name apos) (e :: es) [] cpos) (dBm m fo fa) := by
  obtain ⟨T, id, r, pa, slot, hty, hmt, ht, hr⟩ := hm
  obtain ⟨t, pe, ev⟩ := ho.ex
  obtain ⟨ta, paa, ea⟩ := ha.ex
  refine .of (pe_bm pa slot hty hmt pe paa hbase hfew hline hs hplain) fun U σ H env s Q p hq => ?_
  refine ev.bind p hq fun d s1 v H1 g1 p1 r1 q1 => ?_
  by_cases z : m.ty d = true
  · simp only [if_pos z] at q1
    refine ⟨ht U H1 d v r1 z, ?_⟩
    refine ea.bind p1 q1 fun ds s2 vs H2 g2 p2 r2 q2 => ?_
    exact hr U H2 s2 d v ds vs Q p2.h (r1.stay g2 p1.usa) z r2 q2
  · simp only [if_neg z] at q1
    exact q1.elim
theorem ev_bm0 {m : Bm} {o : Expr} {fo : DEnv → M D} {apos cpos : Pos} (hm : BmOk G X W m) (ho : EvW G X W o fo) (hbase : attributeBase o m.name X.env (eval o X.env) = eval o X.env) (hline : (apos.endLine == cpos.line) = true) :
    EvJ G X W (.Call (.Attribute o m.name apos) [] [] cpos) (dBm m fo dNil) := by
  obtain ⟨T, id, r, pa, slot, hty, hmt, ht, hr⟩ := hm
  obtain ⟨t, pe, ev⟩ := ho.ex
  refine .of (pe_bm0 pa slot hty hmt pe hbase hline) fun U σ H env s Q p hq => ?_
  refine ev.bind p hq fun d s1 v H1 g1 p1 r1 q1 => ?_
  by_cases z : m.ty d = true
  · simp only [if_pos z] at q1
    exact ⟨ht U H1 d v r1 z, hr U H1 s1 d v [] [] Q p1.h r1 z rfl q1⟩
  · simp only [if_neg z] at q1
    exact q1.elim
end
end Dn
/-! DnEv3: targets, what is walked, comprehensions. -/
namespace Dn
open PySem L2
/-! ### targets -/
mutual
inductive T where
  | nm (i : Nat) (x : Str) (p : Pos)
  | tp (ts : TL) (k : Nat) (p : Pos)
inductive TL where
  | nil
  | cons (t : T) (r : TL)
end
mutual
def T.ast : T → Expr
  | .nm _ x p => .Name x p
  | .tp ts k p => .Tuple ts.ast k p
def TL.ast : TL → List Expr
  | .nil => []
  | .cons t r => t.ast :: r.ast
end
mutual
def T.idx : T → List Nat
  | .nm i _ _ => [i]
  | .tp ts _ _ => ts.idx
def TL.idx : TL → List Nat
  | .nil => []
  | .cons t r => t.idx ++ r.idx
end
mutual
def bindT : T → D → DEnv → Option DEnv
  | .nm i _ _, d, env => some (env.set i (.fz d))
  | .tp ts _ _, .tup ds, env => bindTs ts ds env
  | .tp _ _ _, _, _ => none
def bindTs : TL → List D → DEnv → Option DEnv
  | .nil, [], env => some env
  | .cons t r, d :: ds, env => (bindT t d env).bind fun env' => bindTs r ds env'
  | _, _, _ => none
end
mutual
/-- every name of the target is one of the code's own -/
def T.Own (X : Cx) : T → Prop
  | .nm i x _ => X.N[i]? = some x ∧ Loc X.env.scope x ∧ (X.fn x = true ∨ X.env.scope.names.lookup x = some .local)
  | .tp ts _ _ => ts.Own X
def TL.Own (X : Cx) : TL → Prop
  | .nil => True
  | .cons t r => t.Own X ∧ r.Own X
end
section
variable {G : Gd}
/-- what stays of the slots when the places of l are stored -/
def Kept (l : List Nat) (σ σ' : St) : Prop := (∀ j, j ∉ l → σ'[j]? = σ[j]?) ∧ ∀ vs, (∀ i ∈ l, i ∈ vs) → wipe σ' vs = wipe σ vs
theorem wipe_set {i : Nat} {v : Option V} : ∀ {vs : List Nat} {σ : St}, i ∈ vs → wipe (σ.set i v) vs = wipe σ vs
  | [], _, h => nomatch h
  | w :: vs, σ, h => by
    show (wipe (σ.set i v) vs).set w none = (wipe σ vs).set w none
    by_cases hi : i ∈ vs
    · rw [wipe_set hi]
    · have e : i = w := by
        rcases List.mem_cons.mp h with h | h
        · exact h
        · exact absurd h hi
      subst e
      have out : ∀ {us : List Nat} {τ : St}, i ∉ us → wipe (τ.set i v) us = (wipe τ us).set i v := by
        intro us
        induction us with
        | nil => intro τ _; rfl
        | cons u us ih =>
          intro τ hu
          show (wipe (τ.set i v) us).set u none = ((wipe τ us).set u none).set i v
          rw [ih fun z => hu (List.mem_cons_of_mem _ z)]
          exact List.set_comm _ _ fun z => hu (z ▸ List.mem_cons_self)
      rw [out hi, List.set_set]
theorem wipe_get {σ : St} {j : Nat} : ∀ vs : List Nat, (wipe σ vs)[j]? = if j ∈ vs then σ[j]?.map (fun _ => none) else σ[j]?
  | [] => by simp [wipe]
  | v :: vs => by
    show ((wipe σ vs).set v none)[j]? = _
    by_cases h : v = j
    · subst h
      rw [List.getElem?_set_self', wipe_get vs, if_pos List.mem_cons_self]
      split <;> cases σ[v]? <;> rfl
    · rw [List.getElem?_set_ne h, wipe_get vs]
      by_cases hm : j ∈ vs
      · rw [if_pos hm, if_pos (List.mem_cons_of_mem _ hm)]
      · rw [if_neg hm, if_neg fun z => (List.mem_cons.mp z).elim (fun e => h e.symm) hm]
theorem wipe_wipe (σ : St) (vs : List Nat) : wipe (wipe σ vs) vs = wipe σ vs := by
  apply List.ext_getElem?
  intro j
  rw [wipe_get, wipe_get]
  by_cases h : j ∈ vs
  · simp only [if_pos h]
    cases σ[j]? <;> rfl
  · simp only [if_neg h]
theorem Kept.set {i : Nat} {σ : St} {v : Option V} : Kept [i] σ (σ.set i v) :=
  ⟨fun j h => List.getElem?_set_ne fun e => h (by rw [e]; exact List.mem_cons_self), fun vs h => wipe_set (h i List.mem_cons_self)⟩
theorem Kept.nil {σ : St} : Kept [] σ σ := ⟨fun _ _ => rfl, fun _ _ => rfl⟩
theorem Kept.append {l m : List Nat} {σ τ υ : St} (a : Kept l σ τ) (b : Kept m τ υ) : Kept (l ++ m) σ υ :=
  ⟨fun j h => (b.1 j fun z => h (List.mem_append_right _ z)).trans (a.1 j fun z => h (List.mem_append_left _ z)),
    fun vs h => (b.2 vs fun i z => h i (List.mem_append_right _ z)).trans (a.2 vs fun i z => h i (List.mem_append_left _ z))⟩
theorem Pre.bind1 {U : Addr → Prop} {σ : St} {H : Hp} {env : DEnv} {s : S} (p : Pre G U σ H env s) {d : D} {v : V} (r : Rep G U H d v) (i : Nat) : Pre G U (σ.set i (some v)) H (env.set i (.fz d)) s := by
  refine ⟨p.usa, p.ud, p.st, fun j x e => ?_, by rw [List.length_set, List.length_set]; exact p.len⟩
  by_cases h : i = j
  · subst h
    by_cases hl : i < env.length
    · rw [List.getElem?_set_self hl] at e
      cases e
      exact ⟨v, List.getElem?_set_self (by rw [p.len]; exact hl), r⟩
    · rw [List.getElem?_eq_none (by rw [List.length_set]; omega)] at e
      cases e
  · rw [List.getElem?_set_ne h] at e ⊢
    exact p.sl j x e
/-- the target's store by data -/
def gT (G : Gd) (t : T) : TG := fun v σ H Q => ∃ U env s d env', Pre G U σ H env s ∧ Rep G U H d v ∧ bindT t d env = some env' ∧ ∀ σ', Pre G U σ' H env' s → Kept t.idx σ σ' → Q σ' H
def gTs (G : Gd) (t : TL) : TGs := fun vs σ H Q => ∃ U env s ds env', Pre G U σ H env s ∧ RepL G U H ds vs ∧ bindTs t ds env = some env' ∧ ∀ σ', Pre G U σ' H env' s → Kept t.idx σ σ' → Q σ' H
theorem pgImp {X : Cx} {e : Expr} {g g' : TG} (h : PG X e g) (i : ∀ v σ H Q, g' v σ H Q → g v σ H Q) : PG X e g' := ⟨fun pins s σ H x u Q I r q => h.run pins s σ H x u Q I r (i _ _ _ _ q)⟩
theorem pgsImp {X : Cx} {es : List Expr} {g g' : TGs} (h : PGs X es g) (i : ∀ v σ H Q, g' v σ H Q → g v σ H Q) : PGs X es g' := ⟨fun pins s σ H x u Q I r q => h.run pins s σ H x u Q I r (i _ _ _ _ q)⟩
end
theorem each_cons (t : T) (r : List Expr) (env : Env) : assignEach (t.ast :: r) env = (false, assign t.ast env) :: assignEach r env := by
  cases t <;> rfl
theorem each_map (env : Env) : ∀ (ts : TL), assignEach ts.ast env = ts.ast.map fun e => (false, assign e env)
  | .nil => rfl
  | .cons t r => by
    show assignEach (t.ast :: r.ast) env = _
    rw [each_cons, each_map env r]
    rfl
theorem each_find {env : Env} : ∀ (es : List Expr), List.findIdx? (fun x => x.1) (es.map fun e => (false, assign e env)) = none
  | [] => rfl
  | e :: es => by
    rw [List.map_cons, List.findIdx?_cons, each_find es]
    rfl
mutual
theorem pg_T {G : Gd} {X : Cx} (hN : X.N.Nodup) (hc : X.calm = true) : ∀ (t : T), t.Own X → PG X t.ast (gT G t)
  | .nm i x p, h => pgImp (pg_name (pos := p) hN h.1 h.2.1 h.2.2) fun v σ H Q ⟨U, env, s, d, env', pr, r, e, k⟩ => by
    cases e
    exact k _ (pr.bind1 r i) Kept.set
  | .tp ts k p, h => by
    have hs := pg_Ts (G := G) hN hc ts h
    show PG X (.Tuple ts.ast k p) _
    refine pgImp (pg_tup (n := ts.ast.length) (k := k) hc hs (by rw [each_map, List.length_map]) (by rw [each_map]; exact each_find _)) fun v σ H Q ⟨U, env, s, d, env', pr, r, e, kk⟩ => ?_
    cases d with
    | tup ds =>
      obtain ⟨a, vs, rfl, nu, ha, z, rl⟩ := r
      refine ⟨a, vs, rfl, .inl (.inl ha), ?_, U, env, s, ds, env', pr, rl, e, kk⟩
      rw [← rl.length]
      exact bindTs_len e
    | _ => cases e
theorem pg_Ts {G : Gd} {X : Cx} (hN : X.N.Nodup) (hc : X.calm = true) : ∀ (t : TL), t.Own X → PGs X t.ast (gTs G t)
  | .nil, _ => pgsImp pgs_nil fun vs σ H Q ⟨U, env, s, ds, env', pr, r, e, k⟩ => by
    cases ds with
    | nil =>
      cases e
      exact ⟨r, k σ pr Kept.nil⟩
    | cons d ds => cases e
  | .cons t r, h => by
    have h1 := pg_T (G := G) hN hc t h.1
    have h2 := pg_Ts (G := G) hN hc r h.2
    show PGs X (t.ast :: r.ast) _
    refine pgsImp (pgs_cons h1 h2 (by rw [each_cons, List.map_cons])) fun vs σ H Q ⟨U, env, s, ds, env', pr, rl, e, k⟩ => ?_
    cases ds with
    | nil => cases e
    | cons d ds =>
      obtain ⟨v, us, rfl, r1, r2⟩ := rl
      cases q : bindT t d env with
      | none =>
        have e' : (bindT t d env).bind _ = some env' := e
        rw [q] at e'
        cases e'
      | some env1 =>
        have e' : (bindT t d env).bind _ = some env' := e
        rw [q] at e'
        exact ⟨v, us, rfl, U, env, s, d, env1, pr, r1, q, fun σ1 p1 k1 => ⟨U, env1, s, ds, env', p1, r2, e', fun σ2 p2 k2 => k σ2 p2 (k1.append k2)⟩⟩
theorem bindTs_len {env env' : DEnv} : ∀ {t : TL} {ds : List D}, bindTs t ds env = some env' → ds.length = t.ast.length := fun {t ds} h => bindTs_len' t ds env env' h
theorem bindTs_len' : ∀ (t : TL) (ds : List D) (env env' : DEnv), bindTs t ds env = some env' → ds.length = t.ast.length
  | .nil, [], _, _, _ => rfl
  | .nil, _ :: _, _, _, h => by cases h
  | .cons _ _, [], _, _, h => by cases h
  | .cons t r, d :: ds, env, env', h => by
    have e' : (bindT t d env).bind (fun env1 => bindTs r ds env1) = some env' := h
    cases q : bindT t d env with
    | none => rw [q] at e'; cases e'
    | some env1 =>
      rw [q] at e'
      show ds.length + 1 = r.ast.length + 1
      rw [bindTs_len' r ds env1 env' e']
end
/-! ### what is walked -/
/-- the iterator J gives the data xs, while what lies outside Z stays -/
def RelI (G : Gd) (Z U : Addr → Prop) (H : Hp) (xs : List D) (J : It) : Prop := xs.length ≤ sizeLine ∧ ∃ (K : Hp → Prop) (Y : Nat → Hp → V → Hp → Prop), Walk J xs.length K Y ∧ (∀ H', Stay Z H H' → K H') ∧
  ∀ (U' : Addr → Prop) i H1 x H2 s, (∀ a, U' a → U a ∨ H a = none) → Stay Z H H1 → PreH G U' H1 s → i < xs.length → Y i H1 x H2 → Gr G H1 H2 ∧ StAt G H2 s ∧ ∃ d, xs[i]? = some d ∧ Rep G U' H2 d x
abbrev RI (G : Gd) : (Addr → Prop) → Hp → List D → It → Prop := fun U H xs J => RelI G U U H xs J
abbrev RIw (G : Gd) : (Addr → Prop) → Hp → List D → It → Prop := fun U H xs J => RelI G (fun a => a = G.sa) U H xs J
def EvI (G : Wd) (X : Cx) (W : XK) (tg e : Expr) (f : DEnv → M (List D)) : Prop := PI X tg e (tD G.g W (RI G.g) f)
def EvIw (G : Wd) (X : Cx) (W : XK) (tg e : Expr) (f : DEnv → M (List D)) : Prop := PI X tg e (tD G.g W (RIw G.g) f)
section
variable {G : Wd} {X : Cx} {W : XK} {tg e : Expr}
theorem EvI.of {f : DEnv → M (List D)} {t : TI} (h : PI X tg e t) (ev : Ev G.g W (RI G.g) t f) : EvI G X W tg e f := ⟨fun pins s σ H Q I ⟨U, env, st, p, q⟩ => h.run pins s σ H Q I (ev U σ H env st Q p q)⟩
theorem EvIw.of {f : DEnv → M (List D)} {t : TI} (h : PI X tg e t) (ev : Ev G.g W (RIw G.g) t f) : EvIw G X W tg e f := ⟨fun pins s σ H Q I ⟨U, env, st, p, q⟩ => h.run pins s σ H Q I (ev U σ H env st Q p q)⟩
theorem EvIw.ex {f : DEnv → M (List D)} (h : EvIw G X W tg e f) : ∃ t, PI X tg e t ∧ Ev G.g W (RIw G.g) t f := ⟨_, h, ev_tD⟩
theorem EvI.ex {f : DEnv → M (List D)} (h : EvI G X W tg e f) : ∃ t, PI X tg e t ∧ Ev G.g W (RI G.g) t f := ⟨_, h, ev_tD⟩
theorem RelI.weak {G : Gd} {U : Addr → Prop} {H : Hp} {xs : List D} {J : It} (us : U G.sa) (h : RelI G U U H xs J) : RelI G (fun a => a = G.sa) U H xs J := by
  obtain ⟨z, K, Y, w, k1, k2⟩ := h
  have up : ∀ {H'}, Stay (fun a => a = G.sa) H H' → Stay U H H' := fun x => Stay.mono x fun b e => by rw [e]; exact us
  exact ⟨z, K, Y, w, fun H' x => k1 H' (up x), fun U' i H1 x H2 s u q => k2 U' i H1 x H2 s u (up q)⟩
theorem EvI.w {f : DEnv → M (List D)} (h : EvI G X W tg e f) : EvIw G X W tg e f := by
  obtain ⟨t, pi, ev⟩ := h.ex
  refine .of pi fun U σ H env s Q p hq => ev U σ H env s Q p ?_
  cases q : f env s with
  | ok a s1 =>
    rw [q] at hq
    exact fun v H' g st r => hq v H' g st (RelI.weak p.usa r)
  | err x s1 =>
    rw [q] at hq
    exact hq
  | bad =>
    rw [q] at hq
    exact hq
/-- the items of a value -/
def itemsD : D → M (List D) := fun d => match d with
  | .tup xs => rt xs
  | .lst xs => rt xs
  | .str x => rt (x.cps.toList.map fun c => .str ⟨#[c]⟩)
  | _ => bad
/-- data of the source, later, away from U' -/
theorem RepL.later {Z U U' : Addr → Prop} {H H1 : Hp} {xs : List D} {vs : List V} (zu : ∀ b, Z b → U b) (r : RepL G.g U H xs vs) (u : ∀ a, U' a → U a ∨ H a = none) (w : Stay Z H H1) : RepL G.g U' H1 xs vs :=
  RepL.weak u (RepL.stay (Stay.mono w fun b e => .inl (zu b e)) (RepL.freshF (F := fun a => H a = none) (fun _ e => e) r))
theorem relI_lst {Z U : Addr → Prop} {H : Hp} {xs : List D} {vs : List V} {a : Addr} (zu : ∀ b, Z b → U b) (z : xs.length ≤ sizeLine) (h : H a = some (.lst vs)) (na : ¬ Z a) (r : RepL G.g U H xs vs) : RelI G.g Z U H xs (Itl X.K a) := by
  refine ⟨z, (fun H => SqL X.K H a vs), YAt vs, by rw [r.length]; exact walk_list, fun H' x => .inl (.inl (x _ _ na h)), fun U' i H1 x H2 s u w pr hi y => ?_⟩
  obtain ⟨e, hx⟩ := y
  subst e
  obtain ⟨d, hd, rd⟩ := (RepL.later zu r u w).got hx
  exact ⟨Gr.refl _ _, pr.st, d, hd, rd⟩
theorem relI_tup {Z U : Addr → Prop} {H : Hp} {xs : List D} {vs : List V} {a : Addr} (zu : ∀ b, Z b → U b) (z : xs.length ≤ sizeLine) (h : H a = some (.tup vs)) (na : ¬ Z a) (r : RepL G.g U H xs vs) : RelI G.g Z U H xs (Itt X.K a) := by
  refine ⟨z, (fun H => SqT X.K H a vs), YAt vs, by rw [r.length]; exact walk_tup, fun H' x => .inl (.inl (x _ _ na h)), fun U' i H1 x H2 s u w pr hi y => ?_⟩
  obtain ⟨e, hx⟩ := y
  subst e
  obtain ⟨d, hd, rd⟩ := (RepL.later zu r u w).got hx
  exact ⟨Gr.refl _ _, pr.st, d, hd, rd⟩
theorem relI_str {Z U : Addr → Prop} {H : Hp} {z : Str} (hz : z.length ≤ sizeLine) : RelI G.g Z U H (z.cps.toList.map fun c => .str ⟨#[c]⟩) (Its z) := by
  have hl : (z.cps.toList.map fun c => D.str ⟨#[c]⟩).length = z.cps.size := by simp
  refine ⟨by rw [hl]; exact hz, (fun _ => True), _, by rw [hl]; exact walk_str, fun _ _ => trivial, fun U' i H1 x H2 s u w pr hi y => ?_⟩
  obtain ⟨e, c, hc, hx⟩ := y
  subst e hx
  refine ⟨Gr.refl _ _, pr.st, .str ⟨#[c]⟩, ?_, rfl, one_le_line⟩
  rw [List.getElem?_map]
  have : z.cps.toList[i]? = some c := by simpa using hc
  rw [this]
  rfl
def dIter (f : DEnv → M D) : DEnv → M (List D) := fun env => sq (f env) itemsD
theorem ei_seq {f : DEnv → M D} (h : EvJ G X W e f) : EvI G X W tg e (dIter f) := by
  obtain ⟨t, pe, ev⟩ := h.ex
  have pl := pi_list (tg := tg) pe
  have pt := pi_tup (tg := tg) pe
  have ps := pi_str (tg := tg) pe
  refine ⟨fun pins sh σ H Q I ⟨U, env, s, p, hq⟩ => ?_⟩
  have hq' : PostR G.g U H W (RI G.g U) ((f env s).bind itemsD) Q := hq
  cases q : f env s with
  | bad => rw [q] at hq'; exact hq'.elim
  | err x s1 =>
    refine pl.run pins sh σ H Q I (ev U σ H env s _ p ?_)
    rw [q] at hq' ⊢
    exact hq'
  | ok d s1 =>
    rw [q] at hq'
    have hq2 : PostR G.g U H W (RI G.g U) (itemsD d s1) Q := hq'
    cases d with
    | tup xs =>
      refine pt.run pins sh σ H Q I (ev U σ H env s _ p ?_)
      rw [q]
      intro v H' g st r
      obtain ⟨a, vs, rfl, nu, ha, z, rl⟩ := r
      exact ⟨a, rfl, ⟨vs, .inl (.inl ha)⟩, hq2 _ H' g st (relI_tup (fun _ h => h) z ha nu rl)⟩
    | lst xs =>
      refine pl.run pins sh σ H Q I (ev U σ H env s _ p ?_)
      rw [q]
      intro v H' g st r
      obtain ⟨a, vs, rfl, nu, ha, z, rl⟩ := r
      exact ⟨a, rfl, ⟨vs, .inl (.inl ha)⟩, hq2 _ H' g st (relI_lst (fun _ h => h) z ha nu rl)⟩
    | str x =>
      refine ps.run pins sh σ H Q I (ev U σ H env s _ p ?_)
      rw [q]
      intro v H' g st r
      obtain ⟨rfl, z⟩ := r
      exact ⟨x, rfl, hq2 _ H' g st (relI_str z)⟩
    | _ => exact hq2.elim
theorem ei_weak {f : DEnv → M D} (h : EvW G X W e f) : EvIw G X W tg e (dIter f) := by
  obtain ⟨t, pe, ev⟩ := h.ex
  have pl := pi_list (tg := tg) pe
  have pt := pi_tup (tg := tg) pe
  have ps := pi_str (tg := tg) pe
  refine ⟨fun pins sh σ H Q I ⟨U, env, s, p, hq⟩ => ?_⟩
  have hq' : PostR G.g U H W (RIw G.g U) ((f env s).bind itemsD) Q := hq
  have zu : ∀ b, b = G.g.sa → U b := fun b e => by rw [e]; exact p.usa
  cases q : f env s with
  | bad => rw [q] at hq'; exact hq'.elim
  | err x s1 =>
    refine pl.run pins sh σ H Q I (ev U σ H env s _ p ?_)
    rw [q] at hq' ⊢
    exact hq'
  | ok d s1 =>
    rw [q] at hq'
    have hq2 : PostR G.g U H W (RIw G.g U) (itemsD d s1) Q := hq'
    cases d with
    | tup xs =>
      refine pt.run pins sh σ H Q I (ev U σ H env s _ p ?_)
      rw [q]
      intro v H' g st r
      rcases r with r | ⟨_, _, _, _, m⟩
      · obtain ⟨a, vs, rfl, nu, ha, z, rl⟩ := r
        exact ⟨a, rfl, ⟨vs, .inl (.inl ha)⟩, hq2 _ H' g st (relI_tup zu z ha (fun z => nu (zu _ z)) rl)⟩
      · exact m.elim
    | lst xs =>
      refine pl.run pins sh σ H Q I (ev U σ H env s _ p ?_)
      rw [q]
      intro v H' g st r
      rcases r with r | ⟨a, rfl, ua, na, m⟩
      · obtain ⟨a, vs, rfl, nu, ha, z, rl⟩ := r
        exact ⟨a, rfl, ⟨vs, .inl (.inl ha)⟩, hq2 _ H' g st (relI_lst zu z ha (fun z => nu (zu _ z)) rl)⟩
      · obtain ⟨vs, ha, z, rl⟩ := m
        exact ⟨a, rfl, ⟨vs, .inl (.inl ha)⟩, hq2 _ H' g st (relI_lst zu z ha na rl)⟩
    | str x =>
      refine ps.run pins sh σ H Q I (ev U σ H env s _ p ?_)
      rw [q]
      intro v H' g st r
      rcases r with r | ⟨_, _, _, _, m⟩
      · obtain ⟨rfl, z⟩ := r
        exact ⟨x, rfl, hq2 _ H' g st (relI_str z)⟩
      · exact m.elim
    | _ => exact hq2.elim
/-! ranges -/
def rgD (lo : Int) (n : Nat) : List D := (List.range n).map fun i => .int (lo + (i : Nat))
theorem relI_rg {Z U : Addr → Prop} {H : Hp} {lo : Int} {n : Nat} (hn : n ≤ sizeLine) : RelI G.g Z U H (rgD lo n) (Itr lo n) := by
  have hl : (rgD lo n).length = n := by simp [rgD]
  refine ⟨by rw [hl]; exact hn, (fun _ => True), _, by rw [hl]; exact walk_range, fun _ _ => trivial, fun U' i H1 x H2 s u w pr hi y => ?_⟩
  obtain ⟨e, hx⟩ := y
  subst e hx
  rw [hl] at hi
  exact ⟨Gr.refl _ _, pr.st, .int (lo + (i : Nat)), by simp [rgD, hi], rfl⟩
def rg1D : List D → M (List D) := fun ds => match ds with
  | [.int n] => if n ≤ 16777216 ∧ -16777216 ≤ n then rt (rgD 0 n.toNat) else bad
  | _ => bad
def rg2D : List D → M (List D) := fun ds => match ds with
  | [.int m, .int n] => if n ≤ 16777216 ∧ -16777216 ≤ n ∧ m ≤ 16777216 ∧ 0 ≤ m then rt (rgD m (n - m).toNat) else bad
  | _ => bad
theorem ei_rg1 {a : Expr} {fa : DEnv → M (List D)} {p pos : Pos} (hg : Gl X "range") (hm : X.mg "range" = none) (ha : EvA G X W [a] fa) (hs : starEach [a] X.env = [(false, eval a X.env)]) :
    EvI G X W tg (.Call (.Name "range" p) [a] [] pos) (fun env => sq (fa env) rg1D) := by
  obtain ⟨t, pa, ea⟩ := ha.ex
  refine .of (pi_range1 hg hm pa hs) fun U σ H env s Q p hq => ?_
  refine ea.bind p hq fun ds s1 vs H1 g1 p1 r1 q1 => ?_
  unfold rg1D at q1
  split at q1
  · rename_i n
    by_cases z : n ≤ 16777216 ∧ -16777216 ≤ n
    · simp only [if_pos z] at q1
      obtain ⟨v, r, rfl, h1, h2⟩ := r1
      cases (show v = .int n from h1)
      cases (show r = [] from h2)
      refine ⟨n, rfl, by omega, by omega, q1 _ H1 (Gr.refl _ _) p1.st (relI_rg ?_)⟩
      rw [sizeLine_eq]
      omega
    · simp only [if_neg z] at q1
      exact q1.elim
  · exact q1.elim
theorem ei_rg2 {a b : Expr} {fa : DEnv → M (List D)} {p pos : Pos} (hg : Gl X "range") (hm : X.mg "range" = none) (ha : EvA G X W [a, b] fa) (hs : starEach [a, b] X.env = [(false, eval a X.env), (false, eval b X.env)]) (hs2 : starEach [b] X.env = [(false, eval b X.env)]) :
    EvI G X W tg (.Call (.Name "range" p) [a, b] [] pos) (fun env => sq (fa env) rg2D) := by
  obtain ⟨t, pa, ea⟩ := ha.ex
  refine .of (pi_range2 hg hm pa hs hs2) fun U σ H env s Q p hq => ?_
  refine ea.bind p hq fun ds s1 vs H1 g1 p1 r1 q1 => ?_
  unfold rg2D at q1
  split at q1
  · rename_i m n
    by_cases z : n ≤ 16777216 ∧ -16777216 ≤ n ∧ m ≤ 16777216 ∧ 0 ≤ m
    · simp only [if_pos z] at q1
      obtain ⟨v, r, rfl, h1, h2⟩ := r1
      obtain ⟨u, r', rfl, h3, h4⟩ := h2
      cases (show v = .int m from h1)
      cases (show u = .int n from h3)
      cases (show r' = [] from h4)
      refine ⟨m, n, rfl, ⟨by omega, by omega, by omega, by omega⟩, q1 _ H1 (Gr.refl _ _) p1.st (relI_rg ?_)⟩
      rw [sizeLine_eq]
      omega
    · simp only [if_neg z] at q1
      exact q1.elim
  · exact q1.elim
/-! zip of two lists, of two tuples -/
def zipD : List D → List D → List D := fun xs ys => (xs.zip ys).map fun p => .tup [p.1, p.2]
def zp2D : List D → M (List D) := fun ds => match ds with
  | [.lst xs, .lst ys] => rt (zipD xs ys)
  | [.tup xs, .tup ys] => rt (zipD xs ys)
  | _ => bad
theorem two_le_line : (2 : Nat) ≤ sizeLine := by rw [sizeLine_eq]; decide
theorem relI_pair {Z U : Addr → Prop} {H : Hp} {xs ys : List D} {vs us : List V} {J : It} {K : Hp → Prop} (zu : ∀ b, Z b → U b) (z : xs.length ≤ sizeLine) (hx : RepL G.g U H xs vs) (hy : RepL G.g U H ys us)
    (w : Walk J (min vs.length us.length) K (YPair (fun i => vs[i]?) (fun i => us[i]?))) (hK : ∀ H', Stay Z H H' → K H') : RelI G.g Z U H (zipD xs ys) J := by
  have lx := hx.length
  have ly := hy.length
  have hl : (zipD xs ys).length = min vs.length us.length := by simp [zipD, lx, ly]
  refine ⟨by rw [hl]; omega, K, _, by rw [hl]; exact w, hK, fun U' i H1 x H2 s u st pr hi y => ?_⟩
  obtain ⟨T, a, b, rfl, hT, rfl, ha, hb⟩ := y
  obtain ⟨d, hd, rd⟩ := (RepL.later zu hx u st).got ha
  obtain ⟨e, he, re⟩ := (RepL.later zu hy u st).got hb
  refine ⟨Gr.upd hT, pr.st.upd hT, .tup [d, e], ?_, Rep.tup_new (RepL.cons rd (RepL.cons re RepL.nil)) hT (pr.free hT) two_le_line⟩
  have hz : (xs.zip ys)[i]? = some (d, e) := by
    rw [List.getElem?_zip_eq_some]
    exact ⟨hd, he⟩
  unfold zipD
  rw [List.getElem?_map, hz]
  rfl
theorem ei_zip {e2 : Expr} {fa : DEnv → M (List D)} {p pos tpos : Pos} {elts : List Expr} {kk : Nat} (hg : Gl X "zip") (hm : X.mg "zip" = none) (ha : EvA G X W [e, e2] fa)
    (hs : starEach [e, e2] X.env = (false, eval e X.env) :: starEach [e2] X.env) (hpl : (backTo pos (starEach [e2] X.env)).any (·.1) = false) :
    EvI G X W (.Tuple elts kk tpos) (.Call (.Name "zip" p) [e, e2] [] pos) (fun env => sq (fa env) zp2D) := by
  obtain ⟨t, pa, ea⟩ := ha.ex
  refine .of (RZ.pi_zipA hg hm pa hs hpl) fun U σ H env s Q p hq => ?_
  refine ea.bind p hq fun ds s1 vs H1 g1 p1 r1 q1 => ?_
  unfold zp2D at q1
  split at q1
  · rename_i xs ys
    obtain ⟨v, r, rfl, h1, h2⟩ := r1
    obtain ⟨u, r', rfl, h3, h4⟩ := h2
    cases (show r' = [] from h4)
    obtain ⟨a, as, rfl, nu, ha, z, rl⟩ := h1
    obtain ⟨b, bs, rfl, nu', hb, z', rl'⟩ := h3
    refine ⟨a, b, as, bs, rfl, .inl ⟨.inl (.inl ha), .inl (.inl hb), q1 _ H1 (Gr.refl _ _) p1.st ?_⟩⟩
    exact relI_pair (fun _ h => h) z rl rl' (walk_zip rfl) fun H' x => ⟨.inl (.inl (x _ _ nu ha)), .inl (.inl (x _ _ nu' hb))⟩
  · rename_i xs ys
    obtain ⟨v, r, rfl, h1, h2⟩ := r1
    obtain ⟨u, r', rfl, h3, h4⟩ := h2
    cases (show r' = [] from h4)
    obtain ⟨a, as, rfl, nu, ha, z, rl⟩ := h1
    obtain ⟨b, bs, rfl, nu', hb, z', rl'⟩ := h3
    refine ⟨a, b, as, bs, rfl, .inr ⟨.inl (.inl ha), .inl (.inl hb), q1 _ H1 (Gr.refl _ _) p1.st ?_⟩⟩
    refine relI_pair (K := fun H => SqT X.K H a as ∧ SqT X.K H b bs) (fun _ h => h) z rl rl' ⟨fun i _ hi q => ?_, fun _ q => ⟨as, bs, q.1, q.2, by omega⟩, fun i H v H' _ q y => ?_⟩ fun H' x => ⟨.inl (.inl (x _ _ nu ha)), .inl (.inl (x _ _ nu' hb))⟩
    · have i1 : i < as.length := by omega
      have i2 : i < bs.length := by omega
      exact ⟨as, bs, as[i], bs[i], q.1, q.2, by simp [i1], by simp [i2]⟩
    · obtain ⟨T, x, z, h1, h2, h3, h4, h5⟩ := y
      exact ⟨T, x, z, h1, h2, h3, h4 as q.1, h5 bs q.2⟩
  · exact q1.elim
/-! ### comprehensions -/
def noErr {α : Type} (r : R α) : R α := match r with
  | .err _ _ => .bad
  | r => r
def W0 : XK := fun _ _ _ => False
theorem PostR.noErr {α β : Type} {G : Gd} {U : Addr → Prop} {H : Hp} {W : XK} {Rel : Hp → α → β → Prop} {r : R α} {Q : β → Hp → Prop} (h : PostR G U H W Rel (noErr r) Q) : PostR G U H W0 Rel r Q := by
  cases r with
  | ok a s => exact h
  | err e s => exact h.elim
  | bad => exact h
def wipeD (env : DEnv) : List Nat → DEnv
  | [] => env
  | v :: vs => (wipeD env vs).set v .un
theorem wipeD_length (env : DEnv) : ∀ vs : List Nat, (wipeD env vs).length = env.length
  | [] => rfl
  | v :: vs => by
    show ((wipeD env vs).set v .un).length = _
    rw [List.length_set, wipeD_length env vs]
theorem Pre.wipe {G : Gd} {U : Addr → Prop} {σ : St} {H : Hp} {env : DEnv} {s : S} (p : Pre G U σ H env s) : ∀ vs : List Nat, Pre G U (wipe σ vs) H (wipeD env vs) s
  | [] => p
  | v :: vs => by
    have ih := p.wipe vs
    show Pre G U ((L2.wipe σ vs).set v none) H ((wipeD env vs).set v .un) s
    refine ⟨p.usa, p.ud, p.st, fun j x e => ?_, by rw [List.length_set, List.length_set]; exact ih.len⟩
    by_cases h : v = j
    · subst h
      by_cases hl : v < (wipeD env vs).length
      · rw [List.getElem?_set_self hl] at e
        cases e
        trivial
      · rw [List.getElem?_eq_none (by rw [List.length_set]; omega)] at e
        cases e
    · rw [List.getElem?_set_ne h] at e ⊢
      exact ih.sl j x e
/-- the turns of a comprehension -/
def compL (own : List Nat) (t : T) (ft : DEnv → M Bool) (fe : DEnv → M D) (env : DEnv) : List D → M (List D)
  | [] => rt []
  | x :: xs => match bindT t x (wipeD env own) with
    | none => bad
    | some env' => fun s => (Dn.noErr (ft env' s)).bind fun b s => if b = true then (Dn.noErr (fe env' s)).bind fun d s => (compL own t ft fe env xs s).bind fun ds s => .ok (d :: ds) s else compL own t ft fe env xs s
def dComp (own : List Nat) (t : T) (fi : DEnv → M (List D)) (ft : DEnv → M Bool) (fe : DEnv → M D) : DEnv → M D := fun env => sq (fi env) fun xs => sq (compL own t ft fe env xs) fun ds => rt (.lst ds)
def EvTs (G : Wd) (X : Cx) (W : XK) (es : List Expr) (f : DEnv → M Bool) : Prop := PTs X es (tD G.g W RB f)
def dYes : DEnv → M Bool := fun _ => rt true
theorem ets_nil : EvTs G X W [] dYes := ⟨fun pins s σ H Q I ⟨U, env, st, p, q⟩ => pts_nil.run pins s σ H Q I (q true H (Gr.refl _ _) p.st rfl)⟩
theorem ets_one {c : Expr} {f : DEnv → M Bool} (h : EvT G X W c f) : EvTs G X W [c] f := pts_one h
theorem Pre.inD {G : Gd} {U : Addr → Prop} {σ : St} {H1 H : Hp} {env : DEnv} {s s' : S} {D : Addr} (p : Pre G U σ H1 env s) (hD : H1 D = none) (w : Stay (fun a => a = G.sa ∨ a = D) H1 H) (hs : StAt G H s') (hx : ∃ o, H D = some o) :
    Pre G (fun a => U a ∨ a = D) σ H env s' := by
  have st : Stay (fun a => U a ∨ a = D) H1 H := Stay.mono w fun b e => e.elim (fun e => .inl (by rw [e]; exact p.usa)) .inr
  refine ⟨.inl p.usa, fun a ha => ?_, hs, fun i x e => ?_, p.len⟩
  · rcases ha with ha | ha
    · obtain ⟨o, ho⟩ := p.ud a ha
      by_cases h : a = G.sa
      · subst h
        exact ⟨_, hs⟩
      · exact ⟨o, w a o (fun z => z.elim h fun z => by rw [z, hD] at ho; cases ho) ho⟩
    · subst ha
      exact hx
  · have q := p.sl i x e
    cases x with
    | un => trivial
    | fz d =>
      obtain ⟨v, e', r⟩ := q
      exact ⟨v, e', Rep.stay st (Rep.fresh hD r)⟩
    | mt d =>
      obtain ⟨a, e', u, n, m⟩ := q
      obtain ⟨o, ho⟩ := p.ud a u
      have na : ¬ (a = G.sa ∨ a = D) := fun z => z.elim n fun z => by rw [z, hD] at ho; cases ho
      refine ⟨a, e', .inl u, n, ?_⟩
      cases d with
      | lst xs =>
        obtain ⟨vs, h1, z, h2⟩ := m
        exact ⟨vs, w _ _ na h1, z, RepL.stay st (RepL.fresh hD h2)⟩
      | dct ks xs =>
        obtain ⟨vs, h1, z, h2⟩ := m
        exact ⟨vs, IsDct.stay w na h1, z, RepL.stay st (RepL.fresh hD h2)⟩
      | ins c xs =>
        obtain ⟨dx, vs, h1, z, h2⟩ := m
        exact ⟨dx, vs, w _ _ na h1, z, RepL.stay st (RepL.fresh hD h2)⟩
      | _ => exact m.elim
theorem comp_Ev {own : List (Str × Nat)} {t : T} {fi : DEnv → M (List D)} {ft : DEnv → M Bool} {fe : DEnv → M D} {ti : TI} (ei : Ev G.g W (RIw G.g) ti fi) (hx : ∀ i ∈ t.idx, i ∈ own.map (·.2)) :
    Ev G.g W (RD G.g) (tLc ti (gT G.g t) (tD G.g W0 RB ft) (tD G.g W0 (RD G.g) fe) (own.map (·.2))) (dComp (own.map (·.2)) t fi ft fe) := fun U σ H env s Q p hq => by
  refine ei.bind p hq fun xs s1 J H1 g1 p1 r1 q1 => ?_
  intro D hD
  obtain ⟨hz, K, Y, w, hK, hY⟩ := r1
  have upSa : ∀ {H2}, Stay (fun a => a = G.g.sa ∨ a = D) H1 H2 → Gr G.g H1 H2 := fun {H2} w a o na e => w a o (fun z => z.elim na fun z => by rw [z, hD] at e; cases e) e
  refine lc_it w (Pv := fun i H2 => ∃ acc ds s2, H2 D = some (.lst acc) ∧ RepL G.g (fun a => U a ∨ a = D) H2 ds acc ∧ acc.length ≤ i ∧ Stay (fun a => a = G.g.sa ∨ a = D) H1 H2 ∧ StAt G.g H2 s2 ∧
      PostD G.g U H1 W ((compL (own.map (·.2)) t ft fe env (xs.drop i) s2).bind fun r s3 => .ok (.lst (ds ++ r)) s3) Q) ?_ (fun i H2 _ ⟨_, _, _, _, _, _, w2, _⟩ => hK H2 (upSa w2)) ?_ ?_
  · refine ⟨[], [], s1, upd_same, RepL.nil, Nat.le_refl _, fun a o na e => ?_, p1.st.upd hD, ?_⟩
    · rw [upd_ne fun z => na (.inr z)]
      exact e
    · rw [List.drop_zero]
      exact q1
  · rintro i x H2 H3 hi ⟨acc, ds, s2, hacc, rds, hle, w2, hs2, q2⟩ hy
    have pD : PreH G.g (fun a => U a ∨ a = D) H2 s2 := (p1.inD hD w2 hs2 ⟨_, hacc⟩).h
    obtain ⟨g3, hs3, d, hd, rd'⟩ := hY (fun a => U a ∨ a = D) i H2 x H3 s2 (fun a e => e.imp id fun e => by rw [e]; exact hD) (upSa w2) pD hi hy
    have hD3 : H3 D = some (.lst acc) := g3 _ _ (fun z => by
      have h1 : H1 G.g.sa = some _ := p1.st
      rw [← z, hD] at h1
      cases h1) hacc
    have w3 : Stay (fun a => a = G.g.sa ∨ a = D) H1 H3 := Stay.trans w2 (Stay.mono g3 fun _ e => .inl e)
    have p3 : Pre G.g (fun a => U a ∨ a = D) (L2.wipe σ (own.map (·.2))) H3 (wipeD env (own.map (·.2))) s2 := (p1.inD hD w3 hs3 ⟨_, hD3⟩).wipe _
    have ed : xs.drop i = d :: xs.drop (i + 1) := by
      have hi' : i < xs.length := hi
      rw [List.drop_eq_getElem_cons hi']
      congr 1
      have := hd
      rw [List.getElem?_eq_getElem hi'] at this
      exact Option.some.inj this
    rw [ed] at q2
    cases eb : bindT t d (wipeD env (own.map (·.2))) with
    | none =>
      unfold compL at q2
      rw [eb] at q2
      exact q2.elim
    | some env' =>
      unfold compL at q2
      rw [eb] at q2
      have nDs : D ≠ G.g.sa := fun z => by
        have h1 : H1 G.g.sa = some _ := p1.st
        rw [← z, hD] at h1
        cases h1
      refine ⟨_, _, s2, d, env', p3, rd', eb, fun σ' p4 k4 => ⟨(k4.2 _ hx).trans (wipe_wipe _ _), ?_⟩⟩
      -- the test, then the element
      refine ⟨_, env', s2, p4, ?_⟩
      have q2 : PostD G.g U H1 W (((noErr (ft env' s2)).bind fun b s => if b = true then (noErr (fe env' s)).bind fun d s => (compL (own.map (·.2)) t ft fe env (xs.drop (i + 1)) s).bind fun ds s => .ok (d :: ds) s else compL (own.map (·.2)) t ft fe env (xs.drop (i + 1)) s).bind fun r s3 => .ok (.lst (ds ++ r)) s3) Q := q2
      cases et : ft env' s2 with
      | err e s4 => rw [et] at q2; exact q2.elim
      | bad => rw [et] at q2; exact q2.elim
      | ok b s4 =>
        rw [et] at q2
        intro b' H4 g4 hs4 eb'
        subst eb'
        have hD4 : H4 D = some (.lst acc) := g4 _ _ nDs hD3
        have w4 : Stay (fun a => a = G.g.sa ∨ a = D) H1 H4 := Stay.trans w3 (Stay.mono g4 fun _ e => .inl e)
        have g34 : Gr G.g H2 H4 := g3.trans g4
        have rds4 : RepL G.g (fun a => U a ∨ a = D) H4 ds acc := RepL.stay (Stay.mono g34 fun b e => .inl (by rw [e]; exact p1.usa)) rds
        cases b with
        | false =>
          rw [if_neg Bool.false_ne_true]
          exact ⟨acc, ds, s4, hD4, rds4, Nat.le_succ_of_le hle, w4, hs4, q2⟩
        | true =>
          rw [if_pos rfl]
          have p5 := p4.stay g4 hs4
          refine ⟨_, env', s4, p5, ?_⟩
          have q3 : PostD G.g U H1 W (((noErr (fe env' s4)).bind fun d s => (compL (own.map (·.2)) t ft fe env (xs.drop (i + 1)) s).bind fun ds s => .ok (d :: ds) s).bind fun r s3 => .ok (.lst (ds ++ r)) s3) Q := q2
          cases ee : fe env' s4 with
          | err e s6 => rw [ee] at q3; exact q3.elim
          | bad => rw [ee] at q3; exact q3.elim
          | ok d6 s6 =>
            rw [ee] at q3
            intro v6 H6 g6 hs6 r6
            have hD6 : H6 D = some (.lst acc) := g6 _ _ nDs hD4
            have la := rds.length
            have w6 : Stay (fun a => a = G.g.sa ∨ a = D) H1 (upd H6 D (.lst (acc ++ [v6]))) := Stay.trans w4 fun a o na e => by
              rw [upd_ne fun z => na (.inr z)]
              exact g6 a o (fun z => na (.inl z)) e
            have upD : Stay (fun a => U a ∨ a = D) H6 (upd H6 D (.lst (acc ++ [v6]))) := fun a o na e => by
              rw [upd_ne fun z => na (.inr z)]
              exact e
            refine ⟨acc, hD6, by omega, acc ++ [v6], ds ++ [d6], s6, upd_same, ?_, by rw [List.length_append]; simp only [List.length_cons, List.length_nil]; omega, w6, ?_, ?_⟩
            · refine RepL.stay upD (RepL.append (RepL.stay (Stay.mono g6 fun b e => .inl (by rw [e]; exact p1.usa)) rds4) (RepL.cons r6 RepL.nil))
            · unfold StAt at hs6 ⊢
              rw [upd_ne (Ne.symm nDs)]
              exact hs6
            · have q4 : PostD G.g U H1 W (((compL (own.map (·.2)) t ft fe env (xs.drop (i + 1)) s6).bind fun ds s => .ok (d6 :: ds) s).bind fun r s3 => .ok (.lst (ds ++ r)) s3) Q := q3
              cases ec : compL (own.map (·.2)) t ft fe env (xs.drop (i + 1)) s6 with
              | ok r s7 =>
                rw [ec] at q4
                simp only [R.bind] at q4 ⊢
                rw [List.append_assoc]
                exact q4
              | err e s7 => rw [ec] at q4; exact q4
              | bad => rw [ec] at q4; exact q4
  · rintro H2 ⟨acc, ds, s2, hacc, rds, hle, w2, hs2, q2⟩
    rw [show xs.drop xs.length = [] from List.drop_length ..] at q2
    have q3 : PostD G.g U H1 W (.ok (.lst ds) s2) Q := by
      have := q2
      simp only [compL, rt, R.bind, List.append_nil] at this
      exact this
    refine q3 _ H2 (upSa w2) hs2 ⟨D, acc, rfl, p1.free hD, hacc, ?_, RepL.weak (fun a h => .inl h) rds⟩
    have := rds.length
    omega
theorem ev_comp {elt iter : Expr} {ifs : List Expr} {scope : Scope} {own : List (Str × Nat)} {pos : Pos} {t : T} {fi : DEnv → M (List D)} {ft : DEnv → M Bool} {fe : DEnv → M D} (hc : X.calm = true) (hN : X.N.Nodup) (ok : BlkOk X.N X.env.scope scope own) (hi : EvIw G X W t.ast iter fi)
    (hg : ∀ (s : Shared) (H : Hp) (C : Addr) (cl : List (Str × Addr)) (fp : List Addr), t.Own (X.blk s H scope (compEnvC scope cl C X.env) fp)) (ht : ∀ (s : Shared) (H : Hp) (C : Addr) (cl : List (Str × Addr)) (fp : List Addr), EvTs G (X.blk s H scope (compEnvC scope cl C X.env) fp) W0 ifs ft)
    (he : ∀ (s : Shared) (H : Hp) (C : Addr) (cl : List (Str × Addr)) (fp : List Addr), EvJ G (X.blk s H scope (compEnvC scope cl C X.env) fp) W0 elt fe) (hs : ∀ x, foldedSetIterable iter X.env x = pure x) (hx : ∀ i ∈ t.idx, i ∈ own.map (·.2)) :
    EvJ G X W (.ListComp elt [⟨t.ast, iter, ifs, 0⟩] scope pos) (dComp (own.map (·.2)) t fi ft fe) := by
  obtain ⟨ti, pi, ei⟩ := hi.ex
  exact .of (pe_lc (own := own) hc hN pi ok (fun s H C cl fp => pg_T (G := G.g) (X := X.blk s H scope (compEnvC scope cl C X.env) fp) hN hc t (hg s H C cl fp)) ht he hs) (comp_Ev ei hx)
end
end Dn
/-! DnS: statements and defs over plain data. -/
namespace Dn
open PySem L2
inductive O where
  | nx (env : DEnv) (s : S)
  | rt (d : D) (s : S)
  | er (e : Ex) (s : S)
  | bad
abbrev MS := DEnv → S → O
/-- the places that the frame may change: U0, and its own lists and dicts -/
def UU (U0 : Addr → Prop) (env : DEnv) (σ : St) : Addr → Prop := fun a => U0 a ∨ ∃ (i : Nat) (d : D), env[i]? = some (.mt d) ∧ σ[i]? = some (some (.ref a))
/-- a state of a frame: H0 the heap at its entry, I what it may change of that -/
structure SPre (G : Gd) (U0 I : Addr → Prop) (fx : Option Addr) (H0 : Hp) (σ : St) (H : Hp) (env : DEnv) (s : S) : Prop where
  usa : U0 G.sa
  iu : ∀ a, I a → U0 a
  ud : ∀ a, U0 a → ∃ o, H a = some o
  gr : Stay (fun a => a = G.sa ∨ I a) H0 H
  st : StAt G H s
  len : σ.length = env.length
  sl : ∀ (i : Nat) x, env[i]? = some x → SlotOk G (UU U0 env σ) H (σ[i]?) x
  own : ∀ (i : Nat) d a, env[i]? = some (.mt d) → σ[i]? = some (some (.ref a)) → H0 a = none ∨ I a
  apart : ∀ (i j : Nat) d e a, env[i]? = some (.mt d) → env[j]? = some (.mt e) → σ[i]? = some (some (.ref a)) → σ[j]? = some (some (.ref a)) → i = j
  fix : ∀ x, fx = some x → ∀ d, env[0]? = some (.mt d) → σ[0]? = some (some (.ref x))
section
variable {G : Gd} {U0 I : Addr → Prop} {fx : Option Addr} {H0 H H' : Hp} {σ σ' : St} {env env' : DEnv} {s s' : S}
theorem MAt.weak {U U' : Addr → Prop} {a : Addr} {d : D} (sub : ∀ a, U' a → U a) (m : MAt G U H a d) : MAt G U' H a d := by
  cases d with
  | lst xs =>
    obtain ⟨vs, h1, z, h2⟩ := m
    exact ⟨vs, h1, z, RepL.weak sub h2⟩
  | dct ks xs =>
    obtain ⟨vs, h1, z, h2⟩ := m
    exact ⟨vs, h1, z, RepL.weak sub h2⟩
  | ins c xs =>
    obtain ⟨dx, vs, h1, z, h2⟩ := m
    exact ⟨dx, vs, h1, z, RepL.weak sub h2⟩
  | _ => exact m.elim
theorem MAt.some {U : Addr → Prop} {a : Addr} {d : D} (h : MAt G U H a d) : ∃ o, H a = some o := by
  cases d with
  | lst xs => obtain ⟨_, h, _⟩ := h; exact ⟨_, h⟩
  | dct ks xs => obtain ⟨_, h, _⟩ := h; exact IsDct.some h
  | ins c xs => obtain ⟨_, _, h, _⟩ := h; exact ⟨_, h⟩
  | _ => exact h.elim
theorem ExAt.weak {U U' : Addr → Prop} {c : Value} {dx : Option Addr} {e : Ex} (h : ExAt G U H c dx e) (sub : ∀ a, U' a → U a) : ExAt G U' H c dx e := by
  obtain ⟨e1, d', f', v', e2, e3, e4, e5⟩ := h
  exact ⟨e1, d', f', v', e2, e3, e4, Rep.weak sub e5⟩
theorem SPre.pre (p : SPre G U0 I fx H0 σ H env s) : Pre G (UU U0 env σ) σ H env s := by
  refine ⟨.inl p.usa, fun a ha => ?_, p.st, p.sl, p.len⟩
  rcases ha with ha | ⟨i, d, e1, e2⟩
  · exact p.ud a ha
  · obtain ⟨b, e3, _, _, m⟩ := p.sl i _ e1
    rw [e2] at e3
    cases e3
    exact m.some
theorem SPre.step (p : SPre G U0 I fx H0 σ H env s) (g : Gr G H H') (hs : StAt G H' s') : SPre G U0 I fx H0 σ H' env s' := by
  have q := p.pre.stay g hs
  exact ⟨p.usa, p.iu, fun a ha => q.ud a (.inl ha), Stay.trans p.gr (Stay.mono g fun _ e => .inl e), hs, p.len, q.sl, p.own, p.apart, p.fix⟩
/-- what a loop may change -/
def Mu (I : Addr → Prop) (env : DEnv) (σ : St) : Addr → Prop := fun a => I a ∨ ∃ (i : Nat) (d : D), env[i]? = some (.mt d) ∧ σ[i]? = some (some (.ref a))
/-- the same state, seen from where a loop begins -/
theorem SPre.inner (p : SPre G U0 I fx H0 σ H env s) : SPre G (UU U0 env σ) (Mu I env σ) fx H σ H env s := by
  have sub : ∀ a, UU (UU U0 env σ) env σ a → UU U0 env σ a := fun a h => h.elim id .inr
  refine ⟨.inl p.usa, fun a h => h.imp (p.iu a) id, p.pre.ud, Stay.refl _ _, p.st, p.len, fun i x h => ?_, fun i d a h1 h2 => .inr (.inr ⟨i, d, h1, h2⟩), p.apart, p.fix⟩
  have z := p.sl i x h
  cases x with
  | un => trivial
  | fz d' =>
    obtain ⟨v, e', r⟩ := z
    exact ⟨v, e', Rep.weak sub r⟩
  | mt d' =>
    obtain ⟨a, e', u, n, m⟩ := z
    exact ⟨a, e', .inl u, n, m.weak sub⟩
theorem SPre.outerStay {H2 : Hp} (p : SPre G U0 I fx H0 σ H env s) (x : Stay (fun a => a = G.sa ∨ Mu I env σ a) H H2) : Stay (fun a => a = G.sa ∨ I a) H0 H2 := fun a o na e => by
  refine x a o (fun z => ?_) (p.gr a o na e)
  rcases z with z | z | ⟨i, d, e1, e2⟩
  · exact na (.inl z)
  · exact na (.inr z)
  · rcases p.own i d a e1 e2 with e3 | e3
    · rw [e3] at e
      cases e
    · exact na (.inr e3)
theorem SPre.outer {H2 : Hp} {σ2 : St} {env2 : DEnv} {s2 : S} (p : SPre G U0 I fx H0 σ H env s) (q : SPre G (UU U0 env σ) (Mu I env σ) fx H σ2 H2 env2 s2) : SPre G U0 I fx H0 σ2 H2 env2 s2 := by
  have sub : ∀ a, UU U0 env2 σ2 a → UU (UU U0 env σ) env2 σ2 a := fun a h => h.imp .inl id
  refine ⟨p.usa, p.iu, fun a ha => q.ud a (.inl ha), p.outerStay q.gr, q.st, q.len, fun i x h => ?_, fun i d a h1 h2 => ?_, q.apart, q.fix⟩
  · have z := q.sl i x h
    cases x with
    | un => trivial
    | fz d' =>
      obtain ⟨v, e', r⟩ := z
      exact ⟨v, e', Rep.weak sub r⟩
    | mt d' =>
      obtain ⟨a, e', u, n, m⟩ := z
      exact ⟨a, e', .inr ⟨i, d', h, e'⟩, n, m.weak sub⟩
  · rcases q.own i d a h1 h2 with e | e | ⟨j, d', e1, e2⟩
    · by_cases hs : a = G.sa
      · obtain ⟨b, e', u, n, m⟩ := q.sl i _ h1
        rw [h2] at e'
        cases e'
        exact absurd hs n
      · by_cases hI : I a
        · exact .inr hI
        · cases h0 : H0 a with
          | none => exact .inl rfl
          | some o =>
            have := p.gr a o (fun z => z.elim hs hI) h0
            rw [e] at this
            cases this
    · exact .inr e
    · exact p.own j d' a e1 e2
/-- what an outcome is to reach -/
def SPost (G : Gd) (U0 I : Addr → Prop) (fx : Option Addr) (H0 : Hp) (W : XK) (o : O) (D : Ends) : Prop := match o with
  | .nx env s => ∀ σ H, SPre G U0 I fx H0 σ H env s → D.nx σ H
  | .rt d s => ∀ v H, Stay (fun a => a = G.sa ∨ I a) H0 H → StAt G H s → Rep G U0 H d v → D.rt v H
  | .er e s => ∀ c dx H, Stay (fun a => a = G.sa ∨ I a) H0 H → StAt G H s → ExAt G U0 H c dx e → W c dx H
  | .bad => False
def tS (G : Gd) (W : XK) (f : MS) : TS := fun D σ H => ∃ U0 I fx H0 env s, SPre G U0 I fx H0 σ H env s ∧ SPost G U0 I fx H0 W (f env s) D
end
def EvS (G : Wd) (X : Cx) (W : XK) (st : Stmt) (f : MS) : Prop := PS X st (tS G.g W f)
def EvSs (G : Wd) (X : Cx) (W : XK) (st : List Stmt) (f : MS) : Prop := PSs X st (tS G.g W f)
/-- the reading t of a statement does what f tells -/
def Es (G : Gd) (W : XK) (t : TS) (f : MS) : Prop := ∀ (U0 I : Addr → Prop) (fx : Option Addr) (H0 : Hp) (σ : St) (H : Hp) (env : DEnv) (s : S) (D : Ends), SPre G U0 I fx H0 σ H env s → SPost G U0 I fx H0 W (f env s) D → t D σ H
section
variable {G : Wd} {X : Cx} {W : XK}
theorem EvS.of {st : Stmt} {f : MS} {t : TS} (h : PS X st t) (e : Es G.g W t f) : EvS G X W st f := ⟨fun pins sh σ H D I ⟨U0, I', fx, H0, env, s, p, q⟩ => h.run pins sh σ H D I (e U0 I' fx H0 σ H env s D p q)⟩
theorem EvSs.of {st : List Stmt} {f : MS} {t : TS} (h : PSs X st t) (e : Es G.g W t f) : EvSs G X W st f := ⟨fun pins sh σ H D I ⟨U0, I', fx, H0, env, s, p, q⟩ => h.run pins sh σ H D I (e U0 I' fx H0 σ H env s D p q)⟩
/-- an expression's reading within a statement -/
theorem Ev.inS {α β : Type} {Rel : (Addr → Prop) → Hp → α → β → Prop} {t : St → Hp → (β → Hp → Prop) → Prop} {f : DEnv → M α} (h : Ev G.g W Rel t f) {U0 I : Addr → Prop} {fx : Option Addr} {H0 H : Hp} {σ : St} {env : DEnv} {s : S} (p : SPre G.g U0 I fx H0 σ H env s)
    {C : β → Hp → Prop} {k : α → S → O} {D : Ends} (hq : SPost G.g U0 I fx H0 W (match f env s with | .ok a s => k a s | .err e s => .er e s | .bad => .bad) D)
    (cont : ∀ a s1 b H1, SPre G.g U0 I fx H0 σ H1 env s1 → Rel (UU U0 env σ) H1 a b → SPost G.g U0 I fx H0 W (k a s1) D → C b H1) : t σ H C := by
  refine h _ σ H env s C p.pre ?_
  cases e : f env s with
  | ok a s1 =>
    rw [e] at hq
    exact fun b H' g st r => cont a s1 b H' (p.step g st) r hq
  | err x s1 =>
    rw [e] at hq
    refine fun c dx H' g st ex => hq c dx H' (Stay.trans p.gr (Stay.mono g fun _ e => .inl e)) st ?_
    exact ex.weak fun a h => .inl h
  | bad =>
    rw [e] at hq
    exact hq
def lift {α : Type} (f : DEnv → M α) (k : α → MS) : MS := fun env s => match f env s with
  | .ok a s => k a env s
  | .err e s => .er e s
  | .bad => .bad
/-! ### blocks -/
def mNil : MS := fun env s => .nx env s
def mSeq (f g : MS) : MS := fun env s => match f env s with
  | .nx env s => g env s
  | o => o
theorem es_nil : EvSs G X W [] mNil := .of pss_nil fun U0 I fx H0 σ H env s D p q => q σ H p
theorem es_cons {st : Stmt} {rest : List Stmt} {f g : MS} (h : EvS G X W st f) (hr : EvSs G X W rest g) : EvSs G X W (st :: rest) (mSeq f g) := by
  refine .of (pss_cons h hr) fun U0 I fx H0 σ H env s D p q => ⟨U0, I, fx, H0, env, s, p, ?_⟩
  unfold mSeq at q
  cases e : f env s with
  | nx env1 s1 =>
    rw [e] at q
    exact fun σ1 H1 p1 => ⟨U0, I, fx, H0, env1, s1, p1, q⟩
  | rt d s1 => rw [e] at q; exact q
  | er x s1 => rw [e] at q; exact q
  | bad => rw [e] at q; exact q
def mIf (c : DEnv → M Bool) (f g : MS) : MS := lift c fun b env s => if b = true then f env s else g env s
theorem es_if {c : Expr} {a b : List Stmt} {fc : DEnv → M Bool} {f g : MS} {pos : Pos} (hc : EvT G X W c fc) (ha : EvSs G X W a f) (hb : EvSs G X W b g) : EvS G X W (.If c a b pos) (mIf fc f g) := by
  obtain ⟨t, pt, ev⟩ := hc.ex
  refine .of (ps_if pt ha hb) fun U0 I fx H0 σ H env s D p q => ?_
  refine ev.inS (k := fun b s => if b = true then f env s else g env s) p q fun b s1 c H1 p1 r1 q1 => ?_
  subst r1
  cases b with
  | true =>
    rw [if_pos rfl] at q1 ⊢
    exact ⟨U0, I, fx, H0, env, s1, p1, q1⟩
  | false =>
    rw [if_neg Bool.false_ne_true] at q1 ⊢
    exact ⟨U0, I, fx, H0, env, s1, p1, q1⟩
def mRet (f : DEnv → M D) : MS := lift f fun d _ s => .rt d s
theorem es_ret {e : Expr} {f : DEnv → M D} {pos : Pos} (h : EvJ G X W e f) : EvS G X W (.Return (some e) pos) (mRet f) := by
  obtain ⟨t, pe, ev⟩ := h.ex
  refine .of (ps_ret pe) fun U0 I fx H0 σ H env s D p q => ?_
  refine ev.inS (k := fun d s => .rt d s) p q fun d s1 v H1 p1 r1 q1 => ?_
  exact q1 v H1 p1.gr p1.st (Rep.weak (fun a h => .inl h) r1)
def mDrop (f : DEnv → M D) : MS := lift f fun _ env s => .nx env s
theorem es_expr {e : Expr} {f : DEnv → M D} {pos : Pos} (h : EvJ G X W e f) (hs : swapsWith e none pos.line X.env = pure false) : EvS G X W (.Expr e pos) (mDrop f) := by
  obtain ⟨t, pe, ev⟩ := h.ex
  refine .of (ps_expr pe hs) fun U0 I fx H0 σ H env s D p q => ?_
  refine ev.inS (k := fun _ s => .nx env s) p q fun d s1 v H1 p1 r1 q1 => ?_
  exact q1 σ H1 p1
def mPass : MS := fun env s => .nx env s
theorem es_pass {pos : Pos} : EvS G X W (.Pass pos) mPass := .of ps_pass fun U0 I fx H0 σ H env s D p q => q σ H p
/-! ### stores to names -/
mutual
theorem bindT_at : ∀ (t : T) (d : D) (env env' : DEnv), bindT t d env = some env' → ∀ j, (j ∉ t.idx → env'[j]? = env[j]?) ∧ (j ∈ t.idx → ∀ d', env'[j]? ≠ some (.mt d'))
  | .nm i x p, d, env, env', h => fun j => by
    cases h
    refine ⟨fun hj => List.getElem?_set_ne fun e => hj (by rw [e]; exact List.mem_cons_self), fun hj d' => ?_⟩
    have e : j = i := by simpa [T.idx] using hj
    subst e
    rw [List.getElem?_set_self']
    cases env[j]? with
    | none => intro z; cases z
    | some y => intro z; cases z
  | .tp ts k p, .tup ds, env, env', h => bindTs_at ts ds env env' h
  | .tp ts k p, .non, env, env', h => by cases h
  | .tp ts k p, .bl _, env, env', h => by cases h
  | .tp ts k p, .int _, env, env', h => by cases h
  | .tp ts k p, .str _, env, env', h => by cases h
  | .tp ts k p, .lst _, env, env', h => by cases h
  | .tp ts k p, .dct _ _, env, env', h => by cases h
  | .tp ts k p, .ins _ _, env, env', h => by cases h
  | .tp ts k p, .fn _, env, env', h => by cases h
  | .tp ts k p, .st, env, env', h => by cases h
theorem bindTs_at : ∀ (t : TL) (ds : List D) (env env' : DEnv), bindTs t ds env = some env' → ∀ j, (j ∉ t.idx → env'[j]? = env[j]?) ∧ (j ∈ t.idx → ∀ d', env'[j]? ≠ some (.mt d'))
  | .nil, [], env, env', h => fun j => by
    cases h
    exact ⟨fun _ => rfl, fun hj => absurd hj (by simp [TL.idx])⟩
  | .nil, _ :: _, _, _, h => by cases h
  | .cons _ _, [], _, _, h => by cases h
  | .cons t r, d :: ds, env, env', h => fun j => by
    have e' : (bindT t d env).bind (fun env1 => bindTs r ds env1) = some env' := h
    cases q : bindT t d env with
    | none => rw [q] at e'; cases e'
    | some env1 =>
      rw [q] at e'
      have h1 := bindT_at t d env env1 q j
      have h2 := bindTs_at r ds env1 env' e' j
      refine ⟨fun hj => (h2.1 fun z => hj (List.mem_append_right _ z)).trans (h1.1 fun z => hj (List.mem_append_left _ z)), fun hj d' z => ?_⟩
      by_cases hr : j ∈ r.idx
      · exact h2.2 hr d' z
      · rw [h2.1 hr] at z
        exact h1.2 ((List.mem_append.mp hj).resolve_right hr) d' z
end
theorem SPre.bound {G : Gd} {U0 I : Addr → Prop} {fx : Option Addr} {H0 H : Hp} {σ σ' : St} {env env' : DEnv} {s : S} {t : T} {d : D} (p : SPre G U0 I fx H0 σ H env s) (e : bindT t d env = some env') (q : Pre G (UU U0 env σ) σ' H env' s) (k : Kept t.idx σ σ') : SPre G U0 I fx H0 σ' H env' s := by
  have back : ∀ (i : Nat) d', env'[i]? = some (.mt d') → i ∉ t.idx ∧ env[i]? = some (.mt d') ∧ σ'[i]? = σ[i]? := fun i d' h => by
    have a := bindT_at t d env env' e i
    by_cases hi : i ∈ t.idx
    · exact absurd h (a.2 hi d')
    · exact ⟨hi, by rw [← a.1 hi]; exact h, k.1 i hi⟩
  have sub : ∀ a, UU U0 env' σ' a → UU U0 env σ a := fun a h => h.imp id fun ⟨i, d', h1, h2⟩ => by
    obtain ⟨_, b1, b2⟩ := back i d' h1
    exact ⟨i, d', b1, by rw [← b2]; exact h2⟩
  refine ⟨p.usa, p.iu, p.ud, p.gr, p.st, q.len, fun i x h => ?_, fun i d' a h1 h2 => ?_, fun i j d1 d2 a h1 h2 h3 h4 => ?_, fun x hx d' h1 => ?_⟩
  · have z := q.sl i x h
    cases x with
    | un => trivial
    | fz d' =>
      obtain ⟨v, e', r⟩ := z
      exact ⟨v, e', Rep.weak sub r⟩
    | mt d' =>
      obtain ⟨a, e', u, n, m⟩ := z
      exact ⟨a, e', .inr ⟨i, d', h, e'⟩, n, m.weak sub⟩
  · obtain ⟨_, b1, b2⟩ := back i d' h1
    exact p.own i d' a b1 (by rw [← b2]; exact h2)
  · obtain ⟨_, b1, b2⟩ := back i d1 h1
    obtain ⟨_, c1, c2⟩ := back j d2 h2
    exact p.apart i j d1 d2 a b1 c1 (by rw [← b2]; exact h3) (by rw [← c2]; exact h4)
  · obtain ⟨_, b1, b2⟩ := back 0 d' h1
    rw [b2]
    exact p.fix x hx d' b1
def mAsg (t : T) (f : DEnv → M D) : MS := lift f fun d env s => match bindT t d env with
  | some env' => .nx env' s
  | none => .bad
theorem es_asg_aux {t : T} {f : DEnv → M D} {te : TE} (ev : Ev G.g W (RD G.g) te f) : Es G.g W (tAsg te (gT G.g t)) (mAsg t f) := fun U0 I fx H0 σ H env s D p q => by
  refine ev.inS (k := fun d s => match bindT t d env with | some env' => .nx env' s | none => .bad) p q fun d s1 v H1 p1 r1 q1 => ?_
  cases e : bindT t d env with
  | none => rw [e] at q1; exact q1.elim
  | some env' =>
    rw [e] at q1
    exact ⟨_, env, s1, d, env', p1.pre, r1, e, fun σ' p2 k2 => q1 σ' H1 (p1.bound e p2 k2)⟩
theorem es_asg {t : T} {e : Expr} {f : DEnv → M D} {pos : Pos} (hN : X.N.Nodup) (hc : X.calm = true) (ht : t.Own X) (h : EvJ G X W e f) (hs : swapsWithSole [t.ast] e pos.line X.env = pure false) (hw : swappedStores [t.ast] e X.env = pure none) :
    EvS G X W (.Assign [t.ast] e pos) (mAsg t f) := by
  obtain ⟨te, pe, ev⟩ := h.ex
  exact .of (ps_asg pe (pg_T (G := G.g) hN hc t ht) hs hw (by rw [each_cons]; rfl)) (es_asg_aux ev)
/-- a, b = x, y to two plain names -/
def mPar2 (i j : Nat) (f : DEnv → M (List D)) : MS := lift f fun ds env s => match ds with
  | [x, y] => .nx ((env.set i (.fz x)).set j (.fz y)) s
  | _ => .bad
theorem SPre.set1 {G : Gd} {U0 I : Addr → Prop} {fx : Option Addr} {H0 H : Hp} {σ : St} {env : DEnv} {s : S} (p : SPre G U0 I fx H0 σ H env s) {d : D} {v : V} (r : Rep G (UU U0 env σ) H d v) (i : Nat) : SPre G U0 I fx H0 (σ.set i (some v)) H (env.set i (.fz d)) s :=
  p.bound (t := .nm i default default) (d := d) rfl (p.pre.bind1 r i) Kept.set
theorem SPre.sub1 {G : Gd} {U0 I : Addr → Prop} {fx : Option Addr} {H0 H : Hp} {σ : St} {env : DEnv} {s : S} {d : D} {v : V} (i : Nat) : ∀ a, UU U0 (env.set i (.fz d)) (σ.set i (some v)) a → UU U0 env σ a := fun a h => h.imp id fun ⟨j, d', h1, h2⟩ => by
  by_cases e : i = j
  · subst e
    rw [List.getElem?_set_self'] at h1
    cases q : env[i]? with
    | none => rw [q] at h1; cases h1
    | some y => rw [q] at h1; cases h1
  · rw [List.getElem?_set_ne e] at h1 h2
    exact ⟨j, d', h1, h2⟩
/-- a, b, c = x, y, z to three plain names -/
def mPar3 (i j l : Nat) (f : DEnv → M (List D)) : MS := lift f fun ds env s => match ds with
  | [x, y, z] => .nx (((env.set i (.fz x)).set j (.fz y)).set l (.fz z)) s
  | _ => .bad
theorem es_par3 {i j l : Nat} {x y z : Str} {a b c : Expr} {f : DEnv → M (List D)} {px py pz pt pos : Pos} {kt k2 pt2} (hc : X.calm = true) (hN : X.N.Nodup) (hi : X.N[i]? = some x) (hj : X.N[j]? = some y) (hl : X.N[l]? = some z) (hij : i ≠ j) (hil : i ≠ l) (hjl : j ≠ l)
    (hx : X.env.scope.names.lookup x = some .local) (hy : X.env.scope.names.lookup y = some .local) (hz : X.env.scope.names.lookup z = some .local) (ha : EvA G X W [a, b, c] f)
    (hw : swappedStores [.Tuple [.Name x px, .Name y py, .Name z pz] kt pt] (.Tuple [a, b, c] k2 pt2) X.env = pure (some [x, y, z]))
    (hs : swapsWithSole [.Tuple [.Name x px, .Name y py, .Name z pz] kt pt] (.Tuple [a, b, c] k2 pt2) pos.line X.env = pure false) :
    EvS G X W (.Assign [.Tuple [.Name x px, .Name y py, .Name z pz] kt pt] (.Tuple [a, b, c] k2 pt2) pos) (mPar3 i j l f) := by
  obtain ⟨ta, pa, ea⟩ := ha.ex
  refine .of (ps_par3 hc hN hi hj hl hij hil hjl hx hy hz pa hw hs) fun U0 I fx H0 σ H env s D p q => ?_
  refine ea.inS (D := D) (k := fun ds s => match ds with | [x, y, z] => .nx (((env.set i (.fz x)).set j (.fz y)).set l (.fz z)) s | _ => .bad) p q fun ds s1 vs H1 p1 r1 q1 => ?_
  match ds, r1, q1 with
  | [d, e, g], r1, q1 =>
    obtain ⟨v, r, rfl, h1, h2⟩ := r1
    obtain ⟨u, r', rfl, h3, h4⟩ := h2
    obtain ⟨w, r'', rfl, h5, h6⟩ := h4
    cases (show r'' = [] from h6)
    have s1' : ∀ {d v}, ∀ a, UU U0 (env.set i (.fz d)) (σ.set i (some v)) a → UU U0 env σ a := fun {d v} => SPre.sub1 i (s := s1) (G := G.g) (I := I) (fx := fx) (H0 := H0) (H := H1)
    have p2 := p1.set1 h1 i
    have p3 := p2.set1 (Rep.weak s1' h3) j
    refine ⟨v, u, w, rfl, q1 _ H1 (p3.set1 (Rep.weak (fun a h => s1' a (SPre.sub1 j (s := s1) (G := G.g) (I := I) (fx := fx) (H0 := H0) (H := H1) a h)) h5) l)⟩
  | [], _, q1 => exact q1.elim
  | [_], _, q1 => exact q1.elim
  | [_, _], _, q1 => exact q1.elim
  | _ :: _ :: _ :: _ :: _, _, q1 => exact q1.elim
theorem es_par2 {i j : Nat} {x y : Str} {a b : Expr} {f : DEnv → M (List D)} {px py pt pos : Pos} {kt k2 pt2} (hc : X.calm = true) (hN : X.N.Nodup) (hi : X.N[i]? = some x) (hj : X.N[j]? = some y) (hij : i ≠ j)
    (hx : X.env.scope.names.lookup x = some .local) (hy : X.env.scope.names.lookup y = some .local) (ha : EvA G X W [a, b] f)
    (hw : swappedStores [.Tuple [.Name x px, .Name y py] kt pt] (.Tuple [a, b] k2 pt2) X.env = pure (some [x, y]))
    (hs : swapsWithSole [.Tuple [.Name x px, .Name y py] kt pt] (.Tuple [a, b] k2 pt2) pos.line X.env = pure false) :
    EvS G X W (.Assign [.Tuple [.Name x px, .Name y py] kt pt] (.Tuple [a, b] k2 pt2) pos) (mPar2 i j f) := by
  obtain ⟨ta, pa, ea⟩ := ha.ex
  refine .of (ps_par hc hN hi hj hij hx hy pa hw hs) fun U0 I fx H0 σ H env s D p q => ?_
  refine ea.inS (k := fun ds s => match ds with | [x, y] => .nx ((env.set i (.fz x)).set j (.fz y)) s | _ => .bad) p q fun ds s1 vs H1 p1 r1 q1 => ?_
  match ds, r1, q1 with
  | [d, e], r1, q1 =>
    obtain ⟨v, r, rfl, h1, h2⟩ := r1
    obtain ⟨u, r', rfl, h3, h4⟩ := h2
    cases (show r' = [] from h4)
    refine ⟨v, u, rfl, q1 _ H1 ?_⟩
    exact (p1.set1 h1 i).set1 (Rep.weak (SPre.sub1 i (s := s1) (G := G.g) (I := I) (fx := fx) (H0 := H0) (H := H1)) h3) j
  | [], _, q1 => exact q1.elim
  | [_], _, q1 => exact q1.elim
  | _ :: _ :: _ :: _, _, q1 => exact q1.elim
/-- name = [..] on one row, the name a local one -/
theorem es_asgC {i : Nat} {y : Str} {py : Pos} {elt iter : Expr} {ifs : List Expr} {scope : Scope} {own : List (Str × Nat)} {pos spos : Pos} {t : T} {fi : DEnv → M (List D)} {ft : DEnv → M Bool} {fe : DEnv → M D} (hc : X.calm = true) (hN : X.N.Nodup) (hy : X.N[i]? = some y) (hyl : X.env.scope.names.lookup y = some .local)
    (hsw : swapsWith (.ListComp elt [⟨t.ast, iter, ifs, 0⟩] scope pos) (some (.Name y py)) spos.line X.env = pure true) (ok : BlkOk X.N X.env.scope scope own) (hi : EvIw G X W t.ast iter fi)
    (hg : ∀ (s : Shared) (H : Hp) (C : Addr) (cl : List (Str × Addr)) (fp : List Addr), t.Own (X.blk s H scope (compEnvC scope cl C X.env) fp)) (ht : ∀ (s : Shared) (H : Hp) (C : Addr) (cl : List (Str × Addr)) (fp : List Addr), EvTs G (X.blk s H scope (compEnvC scope cl C X.env) fp) W0 ifs ft)
    (he : ∀ (s : Shared) (H : Hp) (C : Addr) (cl : List (Str × Addr)) (fp : List Addr), EvJ G (X.blk s H scope (compEnvC scope cl C X.env) fp) W0 elt fe) (hs : ∀ x, foldedSetIterable iter X.env x = pure x) (hx : ∀ i ∈ t.idx, i ∈ own.map (·.2)) :
    EvS G X W (.Assign [.Name y py] (.ListComp elt [⟨t.ast, iter, ifs, 0⟩] scope pos) spos) (mAsg (.nm i y py) (dComp (own.map (·.2)) t fi ft fe)) := by
  obtain ⟨ti, pi, ei⟩ := hi.ex
  refine .of (ps_setLc (i := i) (own := own) hc hN hy hyl hsw pi ok (fun s H C cl fp => pg_T (G := G.g) (X := X.blk s H scope (compEnvC scope cl C X.env) fp) hN hc t (hg s H C cl fp)) ht he hs) fun U0 I fx H0 σ H env s D p q => ?_
  refine (comp_Ev ei hx).inS (D := D) (k := fun d s => .nx (env.set i (.fz d)) s) p q fun d s1 v H1 p1 r1 q1 => ?_
  exact q1 _ H1 (p1.set1 r1 i)
/-! ### loops -/
/-- the turns of a for -/
def forL (t : T) (b : MS) : List D → MS
  | [] => fun env s => .nx env s
  | x :: xs => fun env s => match bindT t x env with
    | none => .bad
    | some env' => match b env' s with
      | .nx env2 s2 => forL t b xs env2 s2
      | o => o
def mFor (t : T) (fi : DEnv → M (List D)) (b : MS) : MS := lift fi fun xs env s => forL t b xs env s
theorem es_for {t : T} {iter : Expr} {body : List Stmt} {fi : DEnv → M (List D)} {b : MS} {pos : Pos} (hp : PassesOwn (model X.prog X.w) X.A X.env X.xe) (hc : X.calm = true) (hN : X.N.Nodup) (hi : EvI G X W t.ast iter fi) (ht : t.Own X) (hb : EvSs G X W body b)
    (hs : ∀ x, foldedSetIterable iter X.env x = pure x) : EvS G X W (.For t.ast iter body [] pos) (mFor t fi b) := by
  obtain ⟨ti, pi, ei⟩ := hi.ex
  refine .of (ps_for hp hc pi (pg_T (G := G.g) hN hc t ht) hb hs) fun U0 I fx H0 σ H env s D p q => ?_
  refine ei.inS (k := fun xs s => forL t b xs env s) p q fun xs s1 J H1 p1 r1 q1 => ?_
  obtain ⟨hz, K, Y, w, hKY⟩ := r1
  have w1 : ∀ {H2}, Stay (fun a => a = G.g.sa ∨ Mu I env σ a) H1 H2 → Stay (UU U0 env σ) H1 H2 := fun x => Stay.mono x fun a e => e.elim (fun e => .inl (by rw [e]; exact p1.usa)) fun e => e.imp (p1.iu a) id
  refine for_it w (Pv := fun i σ2 H2 => ∃ env2 s2, SPre G.g (UU U0 env σ) (Mu I env σ) fx H1 σ2 H2 env2 s2 ∧ SPost G.g U0 I fx H0 W (forL t b (xs.drop i) env2 s2) D) ?_ ?_ ?_ ?_
  · exact ⟨env, s1, p1.inner, by rw [List.drop_zero]; exact q1⟩
  · rintro i σ2 H2 hi ⟨env2, s2, p2, q2⟩
    exact hKY.1 H2 (w1 p2.gr)
  · rintro i x σ2 H2 H3 hi ⟨env2, s2, p2, q2⟩ hy
    have hU : ∀ a, UU (UU U0 env σ) env2 σ2 a → UU U0 env σ a ∨ H1 a = none := fun a e => by
      rcases e with e | ⟨j, d', e1, e2⟩
      · exact .inl e
      · rcases p2.own j d' a e1 e2 with e3 | e3
        · exact .inr e3
        · exact .inl (e3.imp (p1.iu a) id)
    obtain ⟨g3, hs3, d, hd, rd⟩ := hKY.2 (UU (UU U0 env σ) env2 σ2) i H2 x H3 s2 hU (w1 p2.gr) p2.pre.h hi hy
    · have p3 := p2.step g3 hs3
      have ed : xs.drop i = d :: xs.drop (i + 1) := by
        have hi' : i < xs.length := hi
        rw [List.drop_eq_getElem_cons hi']
        congr 1
        have := hd
        rw [List.getElem?_eq_getElem hi'] at this
        exact Option.some.inj this
      rw [ed] at q2
      unfold forL at q2
      cases eb : bindT t d env2 with
      | none => rw [eb] at q2; exact q2.elim
      | some env3 =>
        rw [eb] at q2
        refine ⟨_, env2, s2, d, env3, p3.pre, rd, eb, fun σ4 p4 k4 => ?_⟩
        have p5 := p3.bound eb p4 k4
        refine ⟨_, _, fx, H1, env3, s2, p5, ?_⟩
        have q3 : SPost G.g U0 I fx H0 W (match b env3 s2 with | .nx env2 s2 => forL t b (xs.drop (i + 1)) env2 s2 | o => o) D := q2
        cases e6 : b env3 s2 with
        | nx env7 s7 =>
          rw [e6] at q3
          exact fun σ7 H7 p7 => ⟨env7, s7, p7, q3⟩
        | rt d7 s7 =>
          rw [e6] at q3
          exact fun v H7 g7 st7 r7 => q3 v H7 (p1.outerStay g7) st7 (Rep.weak (fun a h => .inl h) r7)
        | er x7 s7 =>
          rw [e6] at q3
          exact fun c dx H7 g7 st7 r7 => q3 c dx H7 (p1.outerStay g7) st7 (r7.weak fun a h => .inl h)
        | bad => rw [e6] at q3; exact q3
  · rintro σ2 H2 ⟨env2, s2, p2, q2⟩
    rw [show xs.drop xs.length = [] from List.drop_length ..] at q2
    exact q2 σ2 H2 (p1.outer p2)
/-- while, n turns at most -/
def whileL (c : DEnv → M Bool) (b : MS) : Nat → MS
  | 0 => fun _ _ => .bad
  | n + 1 => fun env s => match c env s with
    | .ok true s1 => (match b env s1 with
      | .nx env2 s2 => whileL c b n env2 s2
      | o => o)
    | .ok false s1 => .nx env s1
    | .err e s1 => .er e s1
    | .bad => .bad
def mWhile (m : DEnv → Nat) (c : DEnv → M Bool) (b : MS) : MS := fun env s => whileL c b (m env) env s
theorem es_while {m : DEnv → Nat} {c : Expr} {body : List Stmt} {fc : DEnv → M Bool} {b : MS} {pos : Pos} (hp : PassesOwn (model X.prog X.w) X.A X.env X.xe) (hc : EvT G X W c fc) (hb : EvSs G X W body b) : EvS G X W (.While c body [] pos) (mWhile m fc b) := by
  obtain ⟨t, pt, ev⟩ := hc.ex
  refine .of (ps_while hp pt hb) fun U0 I fx H0 σ H env s D p q => ?_
  refine ⟨fun n σ2 H2 => ∃ env2 s2, SPre G.g U0 I fx H0 σ2 H2 env2 s2 ∧ SPost G.g U0 I fx H0 W (whileL fc b n env2 s2) D, ⟨m env, env, s, p, q⟩, ?_⟩
  rintro n σ2 H2 ⟨env2, s2, p2, q2⟩
  cases n with
  | zero => exact q2.elim
  | succ n =>
    unfold whileL at q2
    refine ev.inS (D := D) (k := fun b' s1 => if b' = true then (match b env2 s1 with | .nx env2 s2 => whileL fc b n env2 s2 | o => o) else .nx env2 s1) p2 ?_ fun b' s1 c' H1 p1 r1 q1 => ?_
    · cases e : fc env2 s2 with
      | ok b' s1 =>
        rw [e] at q2
        cases b' <;> exact q2
      | err x s1 => rw [e] at q2; exact q2
      | bad => rw [e] at q2; exact q2
    · subst r1
      cases b' with
      | false =>
        rw [if_neg Bool.false_ne_true] at q1 ⊢
        exact q1 σ2 H1 p1
      | true =>
        rw [if_pos rfl] at q1 ⊢
        refine ⟨fun σ3 H3 => ∃ env3 s3, SPre G.g U0 I fx H0 σ3 H3 env3 s3 ∧ SPost G.g U0 I fx H0 W (whileL fc b n env3 s3) D, fun σ3 H3 h3 => ⟨n, Nat.lt_succ_self _, h3⟩, U0, I, fx, H0, env2, s1, p1, ?_⟩
        cases e6 : b env2 s1 with
        | nx env7 s7 =>
          rw [e6] at q1
          exact fun σ7 H7 p7 => ⟨env7, s7, p7, q1⟩
        | rt d7 s7 => rw [e6] at q1; exact q1
        | er x7 s7 => rw [e6] at q1; exact q1
        | bad => rw [e6] at q1; exact q1
/-! ### stores to the drawing state, to a new instance -/
/-- the frame's own thing at slot i is changed -/
theorem SPre.mut {G : Gd} {U0 I : Addr → Prop} {fx : Option Addr} {H0 H H' : Hp} {σ : St} {env : DEnv} {s : S} {i : Nat} {d d' : D} {a : Addr} (p : SPre G U0 I fx H0 σ H env s) (e1 : env[i]? = some (Sl.mt d)) (e2 : σ[i]? = some (some (.ref a)))
    (x : Stay (fun b => b = a) H H') (ha : MAt G (UU U0 env σ) H' a d') : SPre G U0 I fx H0 σ H' (env.set i (Sl.mt d')) s := by
  have il : i < env.length := (List.getElem?_eq_some_iff.mp e1).1
  obtain ⟨a', e3, u, n, m⟩ := p.sl i _ e1
  rw [e2] at e3
  cases e3
  have mt : ∀ j e, (env.set i (Sl.mt d'))[j]? = some (Sl.mt e) → ∃ e', env[j]? = some (Sl.mt e') := fun j e h => by
    by_cases hj : i = j
    · subst hj
      exact ⟨d, e1⟩
    · rw [List.getElem?_set_ne hj] at h
      exact ⟨e, h⟩
  have uu : ∀ b, UU U0 (env.set i (Sl.mt d')) σ b ↔ UU U0 env σ b := fun b => by
    constructor
    · rintro (h | ⟨j, e, h1, h2⟩)
      · exact .inl h
      · obtain ⟨e', h3⟩ := mt j e h1
        exact .inr ⟨j, e', h3, h2⟩
    · rintro (h | ⟨j, e, h1, h2⟩)
      · exact .inl h
      · by_cases hj : i = j
        · subst hj
          exact .inr ⟨i, d', List.getElem?_set_self il, h2⟩
        · exact .inr ⟨j, e, by rw [List.getElem?_set_ne hj]; exact h1, h2⟩
  have xu : Stay (UU U0 env σ) H H' := Stay.mono x fun b e => by rw [e]; exact u
  have hne : ∀ b, (∃ o, H b = some o) → ∃ o, H' b = some o := fun b ⟨o, ho⟩ => by
    by_cases hb : b = a
    · rw [hb]
      exact ha.some
    · exact ⟨o, x b o hb ho⟩
  refine ⟨p.usa, p.iu, fun b hb => hne b (p.ud b hb), fun b o nb ho => ?_, x _ _ (Ne.symm n) p.st, by rw [List.length_set]; exact p.len, fun j y h => ?_, fun j e b h1 h2 => ?_, fun j k e e' b h1 h2 h3 h4 => ?_, fun z hz e h => ?_⟩
  · refine x b o (fun hb => ?_) (p.gr b o nb ho)
    rcases p.own i d a e1 e2 with h | h
    · rw [hb, h] at ho
      cases ho
    · exact nb (.inr (by rw [hb]; exact h))
  · by_cases hj : i = j
    · subst hj
      rw [List.getElem?_set_self il] at h
      cases h
      exact ⟨a, e2, (uu a).mpr u, n, ha.weak fun b hb => (uu b).mp hb⟩
    · rw [List.getElem?_set_ne hj] at h
      have z := p.sl j y h
      cases y with
      | un => trivial
      | fz e =>
        obtain ⟨v, h1, r⟩ := z
        exact ⟨v, h1, Rep.weak (fun b hb => (uu b).mp hb) (Rep.stay xu r)⟩
      | mt e =>
        obtain ⟨b, h1, ub, nb, mb⟩ := z
        refine ⟨b, h1, (uu b).mpr ub, nb, MAt.weak (fun b hb => (uu b).mp hb) ?_⟩
        have nba : b ≠ a := fun q => hj (p.apart i j d e a e1 h e2 (by rw [← q]; exact h1))
        cases e with
        | lst xs =>
          obtain ⟨vs, h5, z, h6⟩ := mb
          exact ⟨vs, x _ _ nba h5, z, RepL.stay xu h6⟩
        | dct ks xs =>
          obtain ⟨vs, h5, z, h6⟩ := mb
          exact ⟨vs, IsDct.stay x nba h5, z, RepL.stay xu h6⟩
        | ins c xs =>
          obtain ⟨dx, vs, h5, z, h6⟩ := mb
          exact ⟨dx, vs, x _ _ nba h5, z, RepL.stay xu h6⟩
        | _ => exact mb.elim
  · obtain ⟨e', h3⟩ := mt j e h1
    exact p.own j e' b h3 h2
  · obtain ⟨e1', h5⟩ := mt j e h1
    obtain ⟨e2', h6⟩ := mt k e' h2
    exact p.apart j k e1' e2' b h5 h6 h3 h4
  · obtain ⟨e', h3⟩ := mt 0 e h
    exact p.fix z hz e' h3
/-- state[i] = e -/
def stD (o i : D) (v : Int) (env : DEnv) (s : S) : O := match o, i with
  | .st, .int i => if i = 0 then .nx env (v, s.2) else if i = 1 then .nx env (s.1, v) else .bad
  | _, _ => .bad
def mSetSt (fo fi f : DEnv → M D) : MS := lift f fun d env s => match d with
  | .int v => lift fo (fun o env s => lift fi (fun i env s => stD o i v env s) env s) env s
  | _ => .bad
theorem es_setst {o i e : Expr} {fo fi f : DEnv → M D} {p1 pos : Pos} (ho : EvJ G X W o fo) (hi : EvJ G X W i fi) (he : EvJ G X W e f) (ha : ∀ v : Value, assign (.Subscript o i p1) X.env v = (do
    let ov ← holding [v] (eval o X.env)
    let iv ← holding [v, ov] (eval i X.env)
    standAt p1
    holding [v, ov, iv] (setItem ov iv v)
    release [v, ov, iv] [])) (hs : swapsWithSole [.Subscript o i p1] e pos.line X.env = pure false) (hw : swappedStores [.Subscript o i p1] e X.env = pure none) :
    EvS G X W (.Assign [.Subscript o i p1] e pos) (mSetSt fo fi f) := by
  obtain ⟨to, po, eo⟩ := ho.ex
  obtain ⟨ti, pi, ei⟩ := hi.ex
  obtain ⟨te, pe, ev⟩ := he.ex
  refine .of (ps_asg pe (pg_sub po pi set_list ha) hs hw) fun U0 I fx H0 σ H env s D p q => ?_
  refine ev.inS (D := D) (k := fun d s => match d with | .int v => lift fo (fun o env s => lift fi (fun i env s => stD o i v env s) env s) env s | _ => .bad) p q fun d s1 v H1 p1 r1 q1 => ?_
  cases d with
  | int n =>
    cases (show v = .int n from r1)
    refine eo.inS (D := D) (k := fun o s => lift fi (fun i env s => stD o i n env s) env s) p1 q1 fun d2 s2 v2 H2 p2 r2 q2 => ?_
    refine ei.inS (D := D) (k := fun i s => stD d2 i n env s) p2 q2 fun d3 s3 v3 H3 p3 r3 q3 => ?_
    unfold stD at q3
    split at q3
    · cases (show v2 = .ref G.g.sa from r2)
      rename_i j
      cases (show v3 = .int j from r3)
      have hst : H3 G.g.sa = some (.lst [.int s3.1, .int s3.2]) := p3.st
      have g : ∀ (o : HO), Gr G.g H3 (upd H3 G.g.sa o) := fun o a u na h => by
        rw [upd_ne na]
        exact h
      by_cases h0 : j = 0
      · subst h0
        rw [if_pos rfl] at q3
        exact ⟨_, _, 0, 0, rfl, rfl, hst, rfl, q3 σ _ (p3.step (g _) upd_same)⟩
      · rw [if_neg h0] at q3
        by_cases h1 : j = 1
        · subst h1
          rw [if_pos rfl] at q3
          exact ⟨_, _, 1, 1, rfl, rfl, hst, rfl, q3 σ _ (p3.step (g _) upd_same)⟩
        · rw [if_neg h1] at q3
          exact q3.elim
    · exact q3.elim
  | _ => exact q1.elim
/-- self.f = e: the next attribute of an instance that is made -/
def mSetAt (i c j : Nat) (f : DEnv → M D) : MS := lift f fun d env s => match env[i]? with
  | some (.mt (.ins c' xs)) => if c' = c ∧ xs.length = j then .nx (env.set i (.mt (.ins c (xs ++ [d])))) s else .bad
  | _ => .bad
theorem putF_new : ∀ {fs : List (Str × V)} {f : Str} {v : V}, fs.lookup f = none → putF f v fs = fs ++ [(f, v)]
  | [], _, _, _ => rfl
  | (g, w) :: r, f, v, h => by
    rw [List.lookup_cons] at h
    cases e : f == g with
    | true => rw [e] at h; cases h
    | false =>
      rw [e] at h
      have ne : ¬ g = f := fun q => by rw [q, beq_self_eq_true] at e; cases e
      show (if g = f then _ else _) = _
      rw [if_neg ne, putF_new h]
      rfl
theorem take_zip {N : List Str} {vs : List V} {f : Str} {v : V} (h : N[vs.length]? = some f) : ((N.take vs.length).zip vs) ++ [(f, v)] = (N.take (vs ++ [v]).length).zip (vs ++ [v]) := by
  have hl : vs.length < N.length := (List.getElem?_eq_some_iff.mp h).1
  have e : N.take (vs ++ [v]).length = N.take vs.length ++ [f] := by
    rw [List.length_append, List.length_singleton, List.take_add_one, h]
    rfl
  rw [e, List.zip_append (by rw [List.length_take]; omega)]
  rfl
theorem es_setat {i c j : Nat} {x f : Str} {e : Expr} {fe : DEnv → M D} {p1 p2 pos : Pos} (cl : Cls X.K (G.cl c)) (na : NoAttr X.K (G.cl c) f) (hj : (fldsOf c)[j]? = some f) (hN : X.N[i]? = some x) (hv : Vis X.env.scope x) (hd : (x == ("__debug__" : Str)) = false) (hcd : (x == ("__classdict__" : Str)) = false) (he : EvJ G X W e fe)
    (hs : swapsWith e (some (.Attribute (.Name x p1) f p2)) pos.line X.env = pure false) : EvS G X W (.Assign [.Attribute (.Name x p1) f p2] e pos) (mSetAt i c j fe) := by
  obtain ⟨te, pe, ev⟩ := he.ex
  refine .of (ps_fld (pe_var (i := i) hN hv hd hcd) pe hs) fun U0 I fx H0 σ H env s D p q => ?_
  refine ev.inS (D := D) (k := fun d s => match env[i]? with | some (.mt (.ins c' xs)) => if c' = c ∧ xs.length = j then .nx (env.set i (.mt (.ins c (xs ++ [d])))) s else .bad | _ => .bad) p q fun d s1 v H1 p1 r1 q1 => ?_
  cases e1 : env[i]? with
  | none => rw [e1] at q1; exact q1.elim
  | some sl =>
    rw [e1] at q1
    cases sl with
    | mt d1 =>
      cases d1 with
      | ins c' xs =>
        by_cases hc : c' = c ∧ xs.length = j
        · obtain ⟨rfl, hx⟩ := hc
          simp only [hx, and_self, if_true] at q1
          obtain ⟨a, e2, u, n, m⟩ := p1.sl i _ e1
          obtain ⟨dx, vs, h1, z, h2⟩ := id m
          have lx := h2.length
          have hj' : (fldsOf c')[vs.length]? = some f := by rw [← lx, hx]; exact hj
          have lk : (((fldsOf c').take vs.length).zip vs).lookup f = none := zip_none fun hm => by
            obtain ⟨k, hk, ek⟩ := List.getElem_of_mem hm
            have hk' : k < vs.length := by
              rw [List.length_take] at hk
              omega
            have e3 : (fldsOf c')[k]? = some f := by
              rw [← List.getElem?_take_of_lt hk', List.getElem?_eq_getElem hk, ek]
            have := nodup_ix (fldsOf_nodup c') e3 hj'
            omega
          have fl : ((fldsOf c').take vs.length).length ≤ 3 := by
            rw [List.length_take]
            unfold fldsOf
            split <;> simp only [List.length_cons, List.length_nil] <;> omega
          refine ⟨_, e2, a, _, dx, _, rfl, h1, cl, na, ?_, q1 σ _ (p1.mut e1 e2 (H' := upd H1 a (.ins (G.g.cl c') dx (putF f v (((fldsOf c').take vs.length).zip vs)))) (fun b o nb ho => ?_) ?_)⟩
          · rw [List.length_zip]
            omega
          · rw [upd_ne nb]
            exact ho
          · have up : Stay (UU U0 env σ) H1 (upd H1 a (.ins (G.g.cl c') dx (putF f v (((fldsOf c').take vs.length).zip vs)))) := fun b o nb ho => by
              rw [upd_ne fun q => nb (by rw [q]; exact u)]
              exact ho
            refine ⟨dx, vs ++ [v], ?_, ?_, RepL.append (RepL.stay up h2) (RepL.cons (Rep.stay up r1) RepL.nil)⟩
            · rw [upd_same, putF_new lk, take_zip hj']
            · have := (List.getElem?_eq_some_iff.mp hj').1
              rw [List.length_append, List.length_singleton]
              omega
        · simp only [if_neg hc] at q1
          exact q1.elim
      | _ => exact q1.elim
    | _ => exact q1.elim
/-! ### raise -/
/-- an instance of the exception class c is made by a call with one argument -/
def RaiseOk (G : Wd) (X : Cx) (c : Nat) (f name : Str) : Prop := fldsOf c = [f] ∧ ∀ (e : Expr) (te : TE) (q pos : Pos), Gl X name → PE X e te → starEach [e] X.env = [(false, eval e X.env)] →
  PMk X (.Call (.Name name q) [e] [] pos) (fun σ H Q => te σ H fun v H1 => ∀ d, H1 d = none → Q (.ref (G.cl c)) (some d) (upd H1 d (.xd [(f, v)])))
def mRaise (c : Nat) (f : DEnv → M D) : MS := lift f fun d _ s => .er ⟨c, d⟩ s
theorem es_raise {c : Nat} {f name : Str} {e : Expr} {fe : DEnv → M D} {q p1 pos : Pos} (hc : X.calm = true) (tk : Takes X (fun c d _ H => W c d H)) (hr : RaiseOk G X c f name) (hg : Gl X name) (he : EvJ G X W e fe) (hs : starEach [e] X.env = [(false, eval e X.env)]) :
    EvS G X W (.Raise (some (.Call (.Name name q) [e] [] p1)) none pos) (mRaise c fe) := by
  obtain ⟨te, pe, ev⟩ := he.ex
  refine .of (ps_raise hc tk (hr.2 e te q p1 hg pe hs)) fun U0 I fx H0 σ H env s D p qq => ?_
  refine ev.inS (D := D) (k := fun d s => .er ⟨c, d⟩ s) p qq fun d s1 v H1 p1 r1 q1 => ?_
  intro dx hdx
  refine q1 _ _ _ (Stay.trans p1.gr (Stay.upd (Stay.refl _ _) hdx)) (p1.st.upd hdx) ⟨rfl, dx, f, v, rfl, hr.1, upd_same, ?_⟩
  exact Rep.weak (fun a h => .inl h) (Rep.stay (p1.pre.h.up (Gr.upd hdx)) r1)
/-! ### defs -/
def runB (len : Nat) (b : MS) (ds : List D) : M D := fun s => match b (ds.map Sl.fz ++ List.replicate (len - ds.length) Sl.un) s with
  | .nx _ s => .ok .non s
  | .rt d s => .ok d s
  | .er e s => .err e s
  | .bad => .bad
theorem start_get {N : List Str} {vs : List V} {i : Nat} {v : V} (h : vs[i]? = some v) : (L2.start N vs)[i]? = some (some v) := by
  have hi : i < vs.length := (List.getElem?_eq_some_iff.mp h).1
  unfold L2.start
  rw [List.getElem?_append_left (by simpa using hi), List.getElem?_map, h]
  rfl
theorem fz_get {ds : List D} {n i : Nat} {x : Sl} (h : (ds.map Sl.fz ++ List.replicate n Sl.un)[i]? = some x) : x = .un ∨ ∃ d, ds[i]? = some d ∧ x = .fz d := by
  by_cases hi : i < ds.length
  · rw [List.getElem?_append_left (by simpa using hi), List.getElem?_map] at h
    cases e : ds[i]? with
    | none => rw [e] at h; cases h
    | some d => rw [e] at h; cases h; exact .inr ⟨d, rfl, rfl⟩
  · rw [List.getElem?_append_right (by simpa using hi), List.getElem?_replicate] at h
    split at h
    · cases h; exact .inl rfl
    · cases h
/-- a def of the text as it stands behind the top, its defaults whatever they are -/
structure DefV (K : PySem.W.Frag) (x qual : Str) (st : Stmt) (f : Addr) (fd : FuncData) : Prop where
  ex : ∃ (oc : Value) (od : Option Addr) (dV kV doc pm : Value) (an : Option Addr) (cdv ct : Value) (osl : Array (Option Value)),
    fd = PySem.W.fnOf x qual (defArgs st) (defBody st) (defScope st) dV kV doc pm an cdv ct ∧ K.lookup f = some ⟨oc, od, .func fd, osl⟩ ∧ PySem.W.codeIn K cdv qual = true
theorem DefV.of {K : PySem.W.Frag} {x qual : Str} {st : Stmt} {f : Addr} {fd : FuncData} (F : Fun K x qual st f fd) : DefV K x qual st f fd := by
  obtain ⟨oc, od, kV, doc, pm, an, cdv, ct, osl, e, l, c⟩ := F.ex
  exact ⟨oc, od, .none, kV, doc, pm, an, cdv, ct, osl, e, l, c⟩
theorem DefV.ok {P : Program} {w : World} {K : PySem.W.Frag} {mg : Str → Option Value} {base : Heap} {x qual : Str} {st : Stmt} {f : Addr} {fd : FuncData} {N ps : List Str} {k : Nat} {sp : Sp} (F : DefV K x qual st f fd) (S : FnScope N ps (defScope st)) (len : ∀ vs H Q E, sp vs H Q E → vs.length = ps.length)
    (hbody : ∀ (cdv : Value) (A : Around) (outer : List Env) (s : Shared) (H : Hp) (vs : List V) (Q : VK) (E : XK), Room k (A.deeper (PyProof.Rows.envOfC qual (defScope st) s.heap.objs.size f cdv)) → sp vs H Q E →
      ∃ t, PSs (cxOf (L2.CX P w) P w K mg base N qual (defScope st) f cdv A outer s H E) (defBody st) t ∧ t { nx := fun _ H' => Q .non H', rt := Q } (start N vs) H) : FnOk P w K mg base (L2.CX P w) (k + 1) f fd ps sp := by
  obtain ⟨oc, od, dV, kV, doc, pm, an, cdv, ct, osl, rfl, lk, hcd⟩ := F.ex
  exact fn_of lk hcd S len fun A outer s H vs Q E hr hsp => hbody cdv A outer s H vs Q E hr hsp
theorem fn_sound {N ps : List Str} {x qual : Str} {st : Stmt} {f : Addr} {fd : FuncData} {k n : Nat} {b : MS} (hbl : ∀ x ∈ bltNames, G.mg x = none) (F : DefV G.K x qual st f fd) (S : FnScope N ps (defScope st)) (hn : ps.length = n) (hN : ps.length ≤ N.length)
    (hb : ∀ (X : Cx) (W : XK) (m : Nat) (cd : Value), X.env = PyProof.Rows.envOfC qual (defScope st) m f cd → X.fn = (fun _ => true) → (X.stack = X.env :: X.outer ∧ X.env.frame = some X.env.locals) → XOk G X N W k → EvSs G X W (defBody st) b) : FnOk G.P G.w G.K G.mg G.base (L2.CX G.P G.w) (k + 1) f fd ps (SpD G.g n (runB N.length b)) := by
  refine F.ok S (fun vs H Q E h => h.1.trans hn.symm) fun cdv A outer s H vs Q E hr h => ?_
  obtain ⟨hl, ds, st0, U, p, r, q⟩ := h
  refine ⟨_, hb _ E s.heap.objs.size cdv rfl rfl ⟨rfl, rfl⟩ ⟨rfl, rfl, rfl, rfl, rfl, rfl, rfl, S.nd, hr, takes_of rfl rfl rfl rfl, passes_of rfl, hbl⟩, ?_⟩
  have lr := r.length
  refine ⟨U, (fun _ => False), none, H, ds.map Sl.fz ++ List.replicate (N.length - ds.length) Sl.un, st0, ⟨p.usa, fun a h => h.elim, p.ud, Stay.refl _ _, p.st, ?_, fun i y e => ?_, fun i d a e _ => ?_, fun i j d e a h1 _ _ _ => ?_, fun x hx => by cases hx⟩, ?_⟩
  · unfold L2.start
    simp only [List.length_append, List.length_map, List.length_replicate, lr]
  · rcases fz_get e with rfl | ⟨d, hd, rfl⟩
    · trivial
    · obtain ⟨v, hv, rv⟩ := r.get hd
      refine ⟨v, start_get hv, Rep.weak (fun a h => h.elim id fun ⟨j, d', e1, _⟩ => ?_) rv⟩
      rcases fz_get e1 with z | ⟨_, _, z⟩ <;> cases z
  · rcases fz_get e with z | ⟨_, _, z⟩ <;> cases z
  · rcases fz_get h1 with z | ⟨_, _, z⟩ <;> cases z
  · unfold runB at q
    have wk : ∀ {H'}, Stay (fun a => a = G.g.sa ∨ False) H H' → Gr G.g H H' := fun x => Stay.mono x fun a e => e.elim id False.elim
    cases e : b (ds.map Sl.fz ++ List.replicate (N.length - ds.length) Sl.un) st0 with
    | nx env s1 =>
      rw [e] at q
      exact fun σ H1 p1 => q .non H1 (wk p1.gr) p1.st rfl
    | rt d s1 =>
      rw [e] at q
      exact fun v H1 g1 st1 r1 => q v H1 (wk g1) st1 r1
    | er x s1 =>
      rw [e] at q
      exact fun c dx H1 g1 st1 r1 => q c dx H1 (wk g1) st1 r1
    | bad => rw [e] at q; exact q
/-- an __init__ -/
def initB (c len : Nat) (b : MS) (ds : List D) : M (List D) := fun s => match b (Sl.mt (.ins c []) :: (ds.map Sl.fz ++ List.replicate (len - 1 - ds.length) Sl.un)) s with
  | .nx env s => (match env[0]? with
    | some (Sl.mt (.ins c' fs)) => if c' = c ∧ fs.length = (fldsOf c).length then .ok fs s else .bad
    | _ => .bad)
  | .er e s => .err e s
  | _ => .bad
theorem init_sound {N ps : List Str} {x qual : Str} {st : Stmt} {f : Addr} {fd : FuncData} {k n c : Nat} {b : MS} (hbl : ∀ x ∈ bltNames, G.mg x = none) (F : DefV G.K x qual st f fd) (S : FnScope N ps (defScope st)) (hn : ps.length = n + 1) (hN : ps.length ≤ N.length)
    (hb : ∀ (X : Cx) (W : XK) (m : Nat) (cd : Value), X.env = PyProof.Rows.envOfC qual (defScope st) m f cd → X.fn = (fun _ => true) → XOk G X N W k → EvSs G X W (defBody st) b) : FnOk G.P G.w G.K G.mg G.base (L2.CX G.P G.w) (k + 1) f fd ps (SpI G.g c n (initB c N.length b)) := by
  refine F.ok S (fun vs H Q E h => h.1.trans hn.symm) fun cdv A outer s H vs Q E hr h => ?_
  obtain ⟨hl, x0, dx, us, ds, st0, U, rfl, hx, nxs, ux, p, r, q⟩ := h
  refine ⟨_, hb _ E s.heap.objs.size cdv rfl rfl ⟨rfl, rfl, rfl, rfl, rfl, rfl, rfl, S.nd, hr, takes_of rfl rfl rfl rfl, passes_of rfl, hbl⟩, ?_⟩
  have lr := r.length
  have mt0 : ∀ {i d}, (Sl.mt (.ins c []) :: (ds.map Sl.fz ++ List.replicate (N.length - 1 - ds.length) Sl.un))[i]? = some (.mt d) → i = 0 := fun {i d} e => by
    cases i with
    | zero => rfl
    | succ i =>
      rw [List.getElem?_cons_succ] at e
      rcases fz_get e with z | ⟨_, _, z⟩ <;> cases z
  have s0 : (L2.start N (.ref x0 :: us))[0]? = some (some (.ref x0)) := start_get rfl
  refine ⟨U, (fun a => a = x0), some x0, H, Sl.mt (.ins c []) :: (ds.map Sl.fz ++ List.replicate (N.length - 1 - ds.length) Sl.un), st0, ⟨p.usa, fun a h => by rw [h]; exact ux, p.ud, Stay.refl _ _, p.st, ?_, fun i y e => ?_, fun i d a e e2 => ?_, fun i j d e a h1 h2 _ _ => ?_, fun x hx d e => ?_⟩, ?_⟩
  · unfold L2.start
    simp only [List.length_append, List.length_map, List.length_replicate, List.length_cons, lr]
    have : (V.ref x0 :: us).length = n + 1 := hl
    rw [List.length_cons] at this
    omega
  · cases i with
    | zero =>
      cases e
      exact ⟨x0, s0, .inl ux, nxs, dx, [], by simpa using hx, Nat.zero_le _, rfl⟩
    | succ i =>
      rw [List.getElem?_cons_succ] at e
      rcases fz_get e with rfl | ⟨d, hd, rfl⟩
      · trivial
      · obtain ⟨v, hv, rv⟩ := r.get hd
        refine ⟨v, start_get (by rw [List.getElem?_cons_succ]; exact hv), Rep.weak (fun a h => h.elim id fun ⟨j, d', e1, e2⟩ => ?_) rv⟩
        cases mt0 e1
        rw [s0] at e2
        cases e2
        exact ux
  · cases mt0 e
    rw [s0] at e2
    cases e2
    exact .inr rfl
  · rw [mt0 h1, mt0 h2]
  · cases hx
    exact s0
  · unfold initB at q
    cases e : b (Sl.mt (.ins c []) :: (ds.map Sl.fz ++ List.replicate (N.length - 1 - ds.length) Sl.un)) st0 with
    | nx env s1 =>
      rw [e] at q
      intro σ H1 p1
      cases e0 : env[0]? with
      | none => simp only [e0] at q
      | some sl =>
        simp only [e0] at q
        cases sl with
        | mt d =>
          cases d with
          | ins c' fs =>
            by_cases hc : c' = c ∧ fs.length = (fldsOf c).length
            · obtain ⟨rfl, hf⟩ := hc
              simp only [hf, and_self, if_true] at q
              obtain ⟨a, e2, u, na, m⟩ := p1.sl 0 _ e0
              have e3 := p1.fix x0 rfl _ e0
              rw [e3] at e2
              cases e2
              obtain ⟨dx', vs, h1, z, h2⟩ := m
              have lv := h2.length
              have hlen : vs.length = (fldsOf c').length := by omega
              rw [hlen, List.take_length] at h1
              exact q vs dx' H1 p1.gr p1.st h1 hlen.symm (RepL.weak (fun a h => .inl h) h2)
            · simp only [if_neg hc] at q
          | _ => exact q.elim
        | _ => exact q.elim
    | rt d s1 => rw [e] at q; exact q.elim
    | er x s1 =>
      rw [e] at q
      exact fun c dx H1 g1 st1 r1 => q c dx H1 g1 st1 r1
    | bad => rw [e] at q; exact q.elim
end
end Dn
/-! DnE: expressions as plain syntax, what they tell, and that it is so. -/
namespace Dn
open PySem L2
structure Ob where
  op : Operator
  g : D → D → M D
structure Ou where
  op : UnaryOp
  g : D → M D
structure Oc where
  op : CmpOp
  g : D → D → M D
/-- the second argument of isinstance -/
structure Ic where
  ast : Expr
  names : List Str
  g : D → M D
mutual
inductive E where
  | var (i : Nat) (x : Str) (p : Pos)
  | int (i : Int) (k : Nat) (p : Pos)
  | str (x : Str) (k : Nat) (p : Pos)
  | bl (b : Bool) (k : Nat) (p : Pos)
  | non (k : Nat) (p : Pos)
  | glo (x : Str) (d : D) (p : Pos)
  | bin (a : E) (o : Ob) (b : E) (p : Pos)
  | un (o : Ou) (a : E) (p : Pos)
  | no (a : E) (p : Pos)
  | cmp (a : E) (o : Oc) (b : E) (p : Pos)
  | cm2 (a : E) (o1 : Oc) (b : E) (o2 : Oc) (c : E) (p : Pos)
  | bop (op : BoolOp) (e : E) (es : L) (p : Pos)
  | ite (c a b : E) (p : Pos)
  | call (f : Fn) (e : E) (es : L) (q p : Pos)
  | dyn (i : Nat) (x : Str) (fs : List Fn) (e : E) (es : L) (q p : Pos)
  | mt (m : Mt) (o : E) (es : L) (ap p : Pos)
  | mk (m : Mk1) (dd : List D) (e : E) (es : L) (q p : Pos)
  | bi (b : Bi) (w : Wk) (ws : LW) (q p : Pos)
  | bm (m : Bm) (o : Wk) (ws : LW) (ap p : Pos)
  | isi (a : E) (c : Ic) (q p : Pos)
  | att (e : E) (c j : Nat) (f : Str) (p : Pos)
  | ix (o : Wk) (i : E) (p : Pos)
  | sl (o : Wk) (lo hi : Oe) (q p : Pos)
  | tup (es : L) (k : Nat) (p : Pos)
  | lst (es : L) (p : Pos)
  | comp (e : E) (t : T) (it : Is) (c : Oe) (sc : Scope) (own : List (Str × Nat)) (p : Pos)
inductive Wk where
  | of (e : E)
  | bor (i : Nat) (x : Str) (p : Pos)
inductive L where
  | nil
  | cons (e : E) (r : L)
inductive LW where
  | nil
  | cons (w : Wk) (r : LW)
inductive Oe where
  | no
  | so (e : E)
inductive Is where
  | seq (w : Wk)
  | rg1 (e : E) (q p : Pos)
  | rg2 (a b : E) (q p : Pos)
  | zip (a b : E) (q p : Pos)
end
mutual
def E.ast : E → Expr
  | .var _ x p => .Name x p
  | .int i k p => .Constant (.int i) k p
  | .str x k p => .Constant (.str x) k p
  | .bl b k p => .Constant (.bool b) k p
  | .non k p => .Constant .none k p
  | .glo x _ p => .Name x p
  | .bin a o b p => .BinOp a.ast o.op b.ast p
  | .un o a p => .UnaryOp o.op a.ast p
  | .no a p => .UnaryOp .Not a.ast p
  | .cmp a o b p => .Compare a.ast [o.op] [b.ast] p
  | .cm2 a o1 b o2 c p => .Compare a.ast [o1.op, o2.op] [b.ast, c.ast] p
  | .bop op e es p => .BoolOp op (e.ast :: es.ast) p
  | .ite c a b p => .IfExp c.ast a.ast b.ast p
  | .call f e es q p => .Call (.Name f.name q) (e.ast :: es.ast) [] p
  | .dyn _ x _ e es q p => .Call (.Name x q) (e.ast :: es.ast) [] p
  | .mt m o es ap p => .Call (.Attribute o.ast m.name ap) es.ast [] p
  | .mk m _ e es q p => .Call (.Name m.name q) (e.ast :: es.ast) [] p
  | .bi b w ws q p => .Call (.Name b.name q) (w.ast :: ws.ast) [] p
  | .bm m o ws ap p => .Call (.Attribute o.ast m.name ap) ws.ast [] p
  | .isi a c q p => .Call (.Name "isinstance" q) [a.ast, c.ast] [] p
  | .att e _ _ f p => .Attribute e.ast f p
  | .ix o i p => .Subscript o.ast i.ast p
  | .sl o lo hi q p => .Subscript o.ast (.Slice lo.ast hi.ast none q) p
  | .tup es k p => .Tuple es.ast k p
  | .lst es p => .List es.ast p
  | .comp e t it c sc _ p => .ListComp e.ast [⟨t.ast, it.ast, c.asts, 0⟩] sc p
def Wk.ast : Wk → Expr
  | .of e => e.ast
  | .bor _ x p => .Name x p
def L.ast : L → List Expr
  | .nil => []
  | .cons e r => e.ast :: r.ast
def LW.ast : LW → List Expr
  | .nil => []
  | .cons w r => w.ast :: r.ast
def Oe.ast : Oe → Option Expr
  | .no => none
  | .so e => some e.ast
def Oe.asts : Oe → List Expr
  | .no => []
  | .so e => [e.ast]
def Is.ast : Is → Expr
  | .seq w => w.ast
  | .rg1 e q p => .Call (.Name "range" q) [e.ast] [] p
  | .rg2 a b q p => .Call (.Name "range" q) [a.ast, b.ast] [] p
  | .zip a b q p => .Call (.Name "zip" q) [a.ast, b.ast] [] p
end
/-- the def of that name -/
def fnAt (fs : List Fn) (y : Str) : Option Fn := fs.find? fun c => c.name == y
def useFn (c : Fn) (ds : List D) : M D := if ds.length = c.n then c.g ds else bad
def dAt (o : Option Fn) (r : M (List D)) : M D := match o with
  | some c => sq r (useFn c)
  | none => bad
def dDynS (fs : List Fn) (o : Option Sl) (r : M (List D)) : M D := match o with
  | some (.fz (.fn y)) => dAt (fnAt fs y) r
  | _ => bad
/-- a call of what a local name holds -/
def dDyn (i : Nat) (fs : List Fn) (fa : DEnv → M (List D)) : DEnv → M D := fun env => dDynS fs env[i]? (fa env)
def dCh (g1 g2 : D → D → M D) (fa fb fc : DEnv → M D) : DEnv → M D := fun env => sq (fa env) fun x => sq (fb env) fun y => sq (g1 x y) fun d => match d with
  | .bl true => sq (fc env) fun z => g2 y z
  | .bl false => rt (.bl false)
  | _ => bad
def bIte (c a b : DEnv → M Bool) : DEnv → M Bool := fun env => sq (c env) fun k => if k = true then a env else b env
mutual
def E.den : E → DEnv → M D
  | .var i _ _ => dVar i
  | .int i _ _ => dC (.int i)
  | .str x _ _ => dC (.str x)
  | .bl b _ _ => dC (.bl b)
  | .non _ _ => dC .non
  | .glo _ d _ => dC d
  | .bin a o b _ => d2 o.g a.den b.den
  | .un o a _ => fun env => sq (a.den env) o.g
  | .no a _ => dNot a.den
  | .cmp a o b _ => d2 o.g a.den b.den
  | .cm2 a o1 b o2 c _ => dCh o1.g o2.g a.den b.den c.den
  | .bop op e es _ => es.denB op e.den
  | .ite c a b _ => dIte c.tst a.den b.den
  | .call f e es _ _ => fun env => sq (dCons e.den es.den env) fun ds => if ds.length = f.n then f.g ds else bad
  | .dyn i _ fs e es _ _ => dDyn i fs (dCons e.den es.den)
  | .mt m o es _ _ => dMt m o.den es.den
  | .mk m dd e es _ _ => fun env => sq (dCons e.den es.den env) (mkD m dd)
  | .bi b w ws _ _ => fun env => sq (dCons w.den ws.den env) b.g
  | .bm m o ws _ _ => dBm m o.den ws.den
  | .isi a c _ _ => fun env => sq (a.den env) c.g
  | .att e c j _ _ => fun env => sq (e.den env) (attD c j)
  | .ix o i _ => d2 ixD o.den i.den
  | .sl o lo hi _ _ => d3s o.den lo.den hi.den
  | .tup es _ _ => dTup es.den
  | .lst es _ => dLst es.den
  | .comp e t it c _ own _ => dComp (own.map (·.2)) t it.den c.tst e.den
def Wk.den : Wk → DEnv → M D
  | .of e => e.den
  | .bor i _ _ => dBor i
def L.den : L → DEnv → M (List D)
  | .nil => dNil
  | .cons e r => dCons e.den r.den
/-- a and b and .., the first one at hand -/
def L.denB : L → BoolOp → (DEnv → M D) → DEnv → M D
  | .nil, _, f => f
  | .cons e r, .And, f => dAnd f (r.denB .And e.den)
  | .cons e r, .Or, f => dOr f (r.denB .Or e.den)
def LW.den : LW → DEnv → M (List D)
  | .nil => dNil
  | .cons w r => dCons w.den r.den
def Oe.den : Oe → DEnv → M (Option Int)
  | .no => dNo
  | .so e => dSome e.den
def Oe.tst : Oe → DEnv → M Bool
  | .no => dYes
  | .so e => e.tst
def Is.den : Is → DEnv → M (List D)
  | .seq w => dIter w.den
  | .rg1 e _ _ => fun env => sq (dCons e.den dNil env) rg1D
  | .rg2 a b _ _ => fun env => sq (dCons a.den (dCons b.den dNil) env) rg2D
  | .zip a b _ _ => fun env => sq (dCons a.den (dCons b.den dNil) env) zp2D
/-- as a test -/
def E.tst : E → DEnv → M Bool
  | .no a _ => bNot a.tst
  | .bop op e es _ => es.tstB op e.tst
  | .ite c a b _ => bIte c.tst a.tst b.tst
  | .var i _ _ => toB (dVar i)
  | .int i _ _ => toB (dC (.int i))
  | .str x _ _ => toB (dC (.str x))
  | .bl b _ _ => toB (dC (.bl b))
  | .non _ _ => toB (dC .non)
  | .glo _ d _ => toB (dC d)
  | .bin a o b _ => toB (d2 o.g a.den b.den)
  | .un o a _ => toB fun env => sq (a.den env) o.g
  | .cmp a o b _ => toB (d2 o.g a.den b.den)
  | .cm2 a o1 b o2 c _ => toB (dCh o1.g o2.g a.den b.den c.den)
  | .call f e es _ _ => toB fun env => sq (dCons e.den es.den env) fun ds => if ds.length = f.n then f.g ds else bad
  | .dyn i _ fs e es _ _ => toB (dDyn i fs (dCons e.den es.den))
  | .mt m o es _ _ => toB (dMt m o.den es.den)
  | .mk m dd e es _ _ => toB fun env => sq (dCons e.den es.den env) (mkD m dd)
  | .bi b w ws _ _ => toB fun env => sq (dCons w.den ws.den env) b.g
  | .bm m o ws _ _ => toB (dBm m o.den ws.den)
  | .isi a c _ _ => toB fun env => sq (a.den env) c.g
  | .att e c j _ _ => toB fun env => sq (e.den env) (attD c j)
  | .ix o i _ => toB (d2 ixD o.den i.den)
  | .sl o lo hi _ _ => toB (d3s o.den lo.den hi.den)
  | .tup es _ _ => toB (dTup es.den)
  | .lst es _ => toB (dLst es.den)
  | .comp e t it c _ own _ => toB (dComp (own.map (·.2)) t it.den c.tst e.den)
def L.tstB : L → BoolOp → (DEnv → M Bool) → DEnv → M Bool
  | .nil, _, f => f
  | .cons e r, .And, f => bAnd f (r.tstB .And e.tst)
  | .cons e r, .Or, f => bOr f (r.tstB .Or e.tst)
end
/-! ### names in order -/
def visB (sc : Scope) (x : Str) : Bool := match sc.names.lookup x with
  | some .local => true
  | some .cell => true
  | some .free => true
  | _ => false
def glB (sc : Scope) (x : Str) : Bool := sc.names.lookup x == some .globalImplicit && !(x == ("__debug__" : Str))
def nmB (N : List Str) (sc : Scope) (i : Nat) (x : Str) : Bool := N[i]? == some x && visB sc x && !(x == ("__debug__" : Str)) && !(x == ("__classdict__" : Str))
/-- a target's name of a block (fnc: which names are cells made there) -/
def ownB (N : List Str) (sc : Scope) (i : Nat) (x : Str) : Bool := N[i]? == some x && (sc.names.lookup x == some .local || sc.names.lookup x == some .cell)
mutual
def T.okB (N : List Str) (sc : Scope) : T → Bool
  | .nm i x _ => ownB N sc i x
  | .tp ts _ _ => ts.okB N sc
def TL.okB (N : List Str) (sc : Scope) : TL → Bool
  | .nil => true
  | .cons t r => t.okB N sc && r.okB N sc
end
def isTup : T → Bool
  | .tp _ _ _ => true
  | _ => false
def isZip : Is → Bool
  | .zip _ _ _ _ => true
  | _ => false
mutual
def E.wf (N : List Str) (sc : Scope) : E → Bool
  | .var i x _ => nmB N sc i x
  | .int _ _ _ => true
  | .str x _ _ => decide (x.length ≤ 16777216)
  | .bl _ _ _ => true
  | .non _ _ => true
  | .glo x _ _ => glB sc x
  | .bin a _ b _ => a.wf N sc && b.wf N sc
  | .un o a _ => (o.op != .Not) && a.wf N sc
  | .no a _ => a.wf N sc
  | .cmp a _ b _ => a.wf N sc && b.wf N sc
  | .cm2 a _ b _ c _ => a.wf N sc && (b.wf N sc && c.wf N sc)
  | .bop _ e es _ => e.wf N sc && es.wf N sc
  | .ite c a b _ => c.wf N sc && (a.wf N sc && b.wf N sc)
  | .call f e es _ _ => glB sc f.name && (e.wf N sc && es.wf N sc)
  | .dyn i x _ e es _ _ => nmB N sc i x && (e.wf N sc && es.wf N sc)
  | .mt _ o es ap p => (ap.endLine == p.line) && (decide (es.ast.length < 29) && (o.wf N sc && es.wf N sc))
  | .mk m _ e es _ _ => glB sc m.name && (e.wf N sc && es.wf N sc)
  | .bi b w ws _ _ => glB sc b.name && (w.wf N sc && ws.wf N sc)
  | .bm _ o ws ap p => (ap.endLine == p.line) && (decide (ws.ast.length < 29) && (o.wf N sc && ws.wf N sc))
  | .isi a c _ _ => glB sc "isinstance" && (c.names.all (glB sc) && a.wf N sc)
  | .att e _ _ _ _ => e.wf N sc
  | .ix o i _ => o.wf N sc && i.wf N sc
  | .sl o lo hi _ _ => o.wf N sc && (lo.wf N sc && hi.wf N sc)
  | .tup es _ _ => es.wf N sc
  | .lst es _ => es.wf N sc
  | .comp e t it c scope own _ => blkC N sc scope own && (t.okB N scope && (t.idx.all (fun i => (own.map (·.2)).contains i) && ((!isZip it || isTup t) && (it.wf N sc && (c.wf N (relS scope sc) && e.wf N (relS scope sc))))))
def Wk.wf (N : List Str) (sc : Scope) : Wk → Bool
  | .of e => e.wf N sc
  | .bor i x _ => nmB N sc i x
def L.wf (N : List Str) (sc : Scope) : L → Bool
  | .nil => true
  | .cons e r => e.wf N sc && r.wf N sc
def LW.wf (N : List Str) (sc : Scope) : LW → Bool
  | .nil => true
  | .cons w r => w.wf N sc && r.wf N sc
def Oe.wf (N : List Str) (sc : Scope) : Oe → Bool
  | .no => true
  | .so e => e.wf N sc
def Is.wf (N : List Str) (sc : Scope) : Is → Bool
  | .seq w => w.wf N sc
  | .rg1 e _ _ => glB sc "range" && e.wf N sc
  | .rg2 a b _ _ => glB sc "range" && (a.wf N sc && b.wf N sc)
  | .zip a b _ _ => glB sc "zip" && (a.wf N sc && b.wf N sc)
end
/-! ### what is called keeps its promise -/
def Ob.Ok (G : Wd) (o : Ob) (k : Nat) : Prop := ∀ (X : Cx) (N : List Str) (W : XK), XOk G X N W k → Op2 G X W (binaryOp o.op) o.g
def Ou.Ok (G : Wd) (o : Ou) (k : Nat) : Prop := ∀ (X : Cx) (N : List Str) (W : XK), XOk G X N W k → Op1 G X W (unaryOp o.op) o.g
def Oc.Ok (G : Wd) (o : Oc) (k : Nat) : Prop := ∀ (X : Cx) (N : List Str) (W : XK), XOk G X N W k → Op2 G X W (compareOp o.op) o.g
def Bi.Ok (G : Wd) (b : Bi) (k : Nat) : Prop := ∀ (X : Cx) (N : List Str) (W : XK), XOk G X N W k → BiOk G X W b
def Bm.Ok (G : Wd) (m : Bm) (k : Nat) : Prop := ∀ (X : Cx) (N : List Str) (W : XK), XOk G X N W k → BmOk G X W m
def Ic.Ok (G : Wd) (c : Ic) (k : Nat) : Prop := (∀ es env, starEach (c.ast :: es) env = (false, eval c.ast env) :: starEach es env) ∧ ∀ (X : Cx) (N : List Str) (W : XK), XOk G X N W k → (∀ x ∈ c.names, glB X.env.scope x = true) → ∃ tc : TE, PE X c.ast tc ∧
  ∃ r : List V → Hp → VK → Prop, CallR X (.builtin "isinstance") r ∧ ∀ (U : Addr → Prop) (σ : St) (H : Hp) (s : S) (d : D) (v : V) (Q : VK), PreH G.g U H s → Rep G.g U H d v → PostD G.g U H W (c.g d s) Q → tc σ H fun u H1 => r [v, u] H1 Q
def GloOk (G : Wd) (x : Str) (d : D) : Prop := ∃ u v, G.mg x = some u ∧ RelV v u ∧ ∀ U H, Rep G.g U H d v
mutual
def E.Ok (G : Wd) (k : Nat) : E → Prop
  | .var _ _ _ => True
  | .int _ _ _ => True
  | .str _ _ _ => True
  | .bl _ _ _ => True
  | .non _ _ => True
  | .glo x d _ => GloOk G x d
  | .bin a o b _ => a.Ok G k ∧ o.Ok G k ∧ b.Ok G k
  | .un o a _ => o.Ok G k ∧ a.Ok G k
  | .no a _ => a.Ok G k
  | .cmp a o b _ => a.Ok G k ∧ o.Ok G k ∧ b.Ok G k
  | .cm2 a o1 b o2 c _ => a.Ok G k ∧ o1.Ok G k ∧ b.Ok G k ∧ o2.Ok G k ∧ c.Ok G k
  | .bop _ e es _ => e.Ok G k ∧ es.Ok G k
  | .ite c a b _ => c.Ok G k ∧ a.Ok G k ∧ b.Ok G k
  | .call f e es _ _ => (FnD G f ∧ f.lvl ≤ k) ∧ e.Ok G k ∧ es.Ok G k
  | .dyn _ _ fs e es _ _ => (∀ c ∈ fs, FnD G c ∧ c.lvl ≤ k) ∧ e.Ok G k ∧ es.Ok G k
  | .mt m o es _ _ => (MtD G m ∧ m.lvl ≤ k) ∧ o.Ok G k ∧ es.Ok G k
  | .mk m dd e es _ _ => (MkD G m dd ∧ m.lvl + 1 ≤ k) ∧ e.Ok G k ∧ es.Ok G k
  | .bi b w ws _ _ => b.Ok G k ∧ w.Ok G k ∧ ws.Ok G k
  | .bm m o ws _ _ => m.Ok G k ∧ o.Ok G k ∧ ws.Ok G k
  | .isi a c _ _ => a.Ok G k ∧ c.Ok G k
  | .att e c j f _ => (Cls G.K (G.cl c) ∧ NoAttr G.K (G.cl c) f ∧ (fldsOf c)[j]? = some f) ∧ e.Ok G k
  | .ix o i _ => o.Ok G k ∧ i.Ok G k
  | .sl o lo hi _ _ => o.Ok G k ∧ lo.Ok G k ∧ hi.Ok G k
  | .tup es _ _ => es.Ok G k
  | .lst es _ => es.Ok G k
  | .comp e _ it c _ _ _ => it.Ok G k ∧ c.Ok G k ∧ e.Ok G k
def Wk.Ok (G : Wd) (k : Nat) : Wk → Prop
  | .of e => e.Ok G k
  | .bor _ _ _ => True
def L.Ok (G : Wd) (k : Nat) : L → Prop
  | .nil => True
  | .cons e r => e.Ok G k ∧ r.Ok G k
def LW.Ok (G : Wd) (k : Nat) : LW → Prop
  | .nil => True
  | .cons w r => w.Ok G k ∧ r.Ok G k
def Oe.Ok (G : Wd) (k : Nat) : Oe → Prop
  | .no => True
  | .so e => e.Ok G k
def Is.Ok (G : Wd) (k : Nat) : Is → Prop
  | .seq w => w.Ok G k
  | .rg1 e _ _ => e.Ok G k
  | .rg2 a b _ _ => a.Ok G k ∧ b.Ok G k
  | .zip a b _ _ => a.Ok G k ∧ b.Ok G k
end
/-! ### the shapes -/
theorem E.star (e : E) (es : List Expr) (env : Env) : starEach (e.ast :: es) env = (false, eval e.ast env) :: starEach es env := by cases e <;> rfl
theorem Wk.star (e : Wk) (es : List Expr) (env : Env) : starEach (e.ast :: es) env = (false, eval e.ast env) :: starEach es env := by
  cases e with
  | of e => exact e.star es env
  | bor i x p => rfl
theorem L.plain (pos : Pos) (env : Env) : ∀ es : L, (backTo pos (starEach es.ast env)).any (·.1) = false
  | .nil => rfl
  | .cons e r => by
    show (backTo pos (starEach (e.ast :: r.ast) env)).any (·.1) = false
    rw [e.star]
    show (false || (backTo pos (starEach r.ast env)).any (·.1)) = false
    rw [L.plain pos env r]
    rfl
theorem LW.plain (pos : Pos) (env : Env) : ∀ es : LW, (backTo pos (starEach es.ast env)).any (·.1) = false
  | .nil => rfl
  | .cons e r => by
    show (backTo pos (starEach (e.ast :: r.ast) env)).any (·.1) = false
    rw [e.star]
    show (false || (backTo pos (starEach r.ast env)).any (·.1)) = false
    rw [LW.plain pos env r]
    rfl
theorem E.marks (e : E) (op : CmpOp) : behindInMarks op e.ast = false := by cases e <;> rfl
theorem E.base (e : E) (f : Str) (env : Env) (w : Sem Value) : attributeBase e.ast f env w = w := by
  cases e <;> rfl
theorem Wk.base (e : Wk) (f : Str) (env : Env) (w : Sem Value) : attributeBase e.ast f env w = w := by
  cases e with
  | of e => exact e.base f env w
  | bor i x p => rfl
theorem E.plainIx (e : E) : PlainIx e.ast := by cases e <;> exact fun _ _ => rfl
theorem E.folded (e : E) (env : Env) (x : Value) : foldedSetIterable e.ast env x = pure x := by cases e <;> rfl
theorem Is.folded (e : Is) (env : Env) (x : Value) : foldedSetIterable e.ast env x = pure x := by
  cases e with
  | seq w =>
    cases w with
    | of e => exact e.folded env x
    | bor i x p => rfl
  | _ => rfl
/-- a test is its value's truth -/
def E.plainT : E → Bool
  | .no _ _ => false
  | .bop _ _ _ _ => false
  | .ite _ _ _ _ => false
  | .cmp _ _ _ _ => false
  | .cm2 _ _ _ _ _ _ => false
  | .un o _ _ => o.op != .Not
  | _ => true
theorem E.truth (e : E) (env : Env) (h : e.plainT = true) : ∀ whole, isTrue e.ast env whole = (do let v ← whole; standAt e.ast.pos; holding [v] (truthy v)) := by
  cases e with
  | un o a p =>
    obtain ⟨op, g⟩ := o
    cases op <;> first | exact fun _ => rfl | cases h
  | _ => first | exact fun _ => rfl | cases h
theorem Sc.vis {sc : Scope} {x : Str} (h : visB sc x = true) : Vis sc x := by
  unfold visB at h
  split at h
  · exact .inl (by assumption)
  · exact .inr (.inl (by assumption))
  · exact .inr (.inr (by assumption))
  · cases h
theorem Sc.gl {X : Cx} {x : Str} (h : glB X.env.scope x = true) : Gl X x ∧ (x == ("__debug__" : Str)) = false := by
  unfold glB at h
  rw [Bool.and_eq_true] at h
  refine ⟨?_, by simpa using h.2⟩
  show X.env.scope.names.lookup x = _
  exact eq_of_beq h.1
theorem nmB_of {X : Cx} {N : List Str} {i : Nat} {x : Str} (hN : X.N = N) (h : nmB N X.env.scope i x = true) : X.N[i]? = some x ∧ Vis X.env.scope x ∧ (x == ("__debug__" : Str)) = false ∧ (x == ("__classdict__" : Str)) = false := by
  unfold nmB at h
  rw [Bool.and_eq_true, Bool.and_eq_true, Bool.and_eq_true] at h
  obtain ⟨⟨⟨h1, h2⟩, h3⟩, h4⟩ := h
  rw [hN]
  exact ⟨eq_of_beq h1, Sc.vis h2, by simpa using h3, by simpa using h4⟩
/-! ### soundness -/
section
variable {G : Wd}
theorem and_of {a b : Bool} (h : (a && b) = true) : a = true ∧ b = true := by simpa using h
theorem cases_kind {o : Option NameKind} (h : (o == some .local || o == some .cell) = true) : o = some .local ∨ o = some .cell := by
  rcases o with _ | k
  · cases h
  · cases k <;> first | exact .inl rfl | exact .inr rfl | cases h
mutual
theorem T.own_blk {X : Cx} {N : List Str} {scope : Scope} {s : Shared} {H : Hp} {C : Addr} {cl : List (Str × Addr)} {fp : List Addr} (hN : X.N = N) : ∀ t : T, t.okB N scope = true → t.Own (X.blk s H scope (compEnvC scope cl C X.env) fp)
  | .nm i x p, h => by
    have h : ownB N scope i x = true := h
    unfold ownB at h
    obtain ⟨h1, h2⟩ := and_of h
    refine ⟨by rw [← hN] at h1; exact eq_of_beq h1, ?_⟩
    have key : ∀ k, k ≠ NameKind.free → scope.names.lookup x = some k → (relS scope X.env.scope).names.lookup x = some k := fun k hk e => lookup_relS_keep (sc := X.env.scope) hk e
    rcases cases_kind h2 with e | e
    · exact ⟨.inl (key _ (by decide) e), .inr (key _ (by decide) e)⟩
    · refine ⟨.inr (key _ (by decide) e), .inl ?_⟩
      show (scope.names.lookup x == some .cell) = true
      rw [e]
      rfl
  | .tp ts k p, h => TL.own_blk hN ts h
theorem TL.own_blk {X : Cx} {N : List Str} {scope : Scope} {s : Shared} {H : Hp} {C : Addr} {cl : List (Str × Addr)} {fp : List Addr} (hN : X.N = N) : ∀ t : TL, t.okB N scope = true → t.Own (X.blk s H scope (compEnvC scope cl C X.env) fp)
  | .nil, _ => trivial
  | .cons t r, h => ⟨T.own_blk hN t (and_of h).1, TL.own_blk hN r (and_of h).2⟩
end
theorem XOk.blk {X : Cx} {N : List Str} {W : XK} {k : Nat} (h : XOk G X N W k) (s : Shared) (H : Hp) (scope : Scope) (C : Addr) (cl : List (Str × Addr)) (fp : List Addr) : XOk G (X.blk s H scope (compEnvC scope cl C X.env) fp) N W0 k :=
  ⟨h.prog, h.w, h.K, h.mg, h.base, h.calm, h.names, h.nd, h.room, takes0, PassesOwn.never, h.bl⟩
section
variable {X : Cx} {W : XK}
theorem ev_glo {x : Str} {d : D} {p : Pos} (hX : X.mg = G.mg) (h : GloOk G x d) (hg : Gl X x) (hd : (x == ("__debug__" : Str)) = false) : EvJ G X W (.Name x p) (dC d) := by
  obtain ⟨u, v, hm, r, hr⟩ := h
  exact .of (pe_glob hg (by rw [hX]; exact hm) r hd) fun U σ H env s Q p hq => PostR.here hq p.st (hr U H)
theorem ev_cm2 {op op' : CmpOp} {a b c : Expr} {fa fb fc : DEnv → M D} {g1 g2 : D → D → M D} {pos : Pos} (h1 : Op2 G X W (compareOp op) g1) (h2 : Op2 G X W (compareOp op') g2) (ha : EvJ G X W a fa) (hb : EvJ G X W b fb) (hc : EvJ G X W c fc)
    (hm : lastMarks [op, op'] [b, c] = false) : EvJ G X W (.Compare a [op, op'] [b, c] pos) (dCh g1 g2 fa fb fc) ∧ EvT G X W (.Compare a [op, op'] [b, c] pos) (toB (dCh g1 g2 fa fb fc)) := by
  obtain ⟨r1, hr1, k1⟩ := h1
  obtain ⟨r2, hr2, k2⟩ := h2
  obtain ⟨ta, pa, ea⟩ := ha.ex
  obtain ⟨tb, pb, eb⟩ := hb.ex
  obtain ⟨tc, pc, ec⟩ := hc.ex
  have aux : Ev G.g W (RD G.g) (tChain r1 r2 ta tb tc) (dCh g1 g2 fa fb fc) := fun U σ H env s Q p hq => by
    refine ea.bind p hq fun d s1 v H1 e1 p1 x1 q1 => ?_
    refine eb.bind p1 q1 fun e s2 u H2 e2 p2 x2 q2 => ?_
    have x1 := Rep.stay (p1.h.up e2) x1
    refine k1 U H2 s2 d e v u _ p2.h x1 x2 ?_
    have q3 : PostD G.g U H2 W ((g1 d e s2).bind fun d => (match d with | .bl true => sq (fc env) fun z => g2 e z | .bl false => rt (.bl false) | _ => bad : M D)) Q := q2
    cases hg : g1 d e s2 with
    | bad => rw [hg] at q3; exact q3.elim
    | err y s3 => rw [hg] at q3; exact q3
    | ok y s3 =>
      rw [hg] at q3
      intro w H3 e3 st3 x3
      cases y with
      | bl kk =>
        refine ⟨kk, x3, ?_⟩
        have p3 := p2.stay e3 st3
        have q3 := PostR.from e3 q3
        cases kk with
        | false => exact iteF (PostR.here q3 p3.st rfl)
        | true =>
          refine iteT ?_
          refine ec.bind p3 q3 fun z s4 w' H4 e4 p4 x4 q4 => ?_
          exact k2 U H4 s4 e z u w' Q p4.h (Rep.stay (p2.h.up (e3.trans e4)) x2) x4 q4
      | _ => exact q3.elim
  refine ⟨.of (pe_chain hr1 hr2 pa pb pc hm) aux, .of (pt_chain hr1 hr2 pa pb pc hm) fun U σ H env s Q p hq => ?_⟩
  refine aux.bind p hq fun d s1 v H1 e1 p1 x1 q1 => ?_
  cases d with
  | bl kk => exact ⟨kk, x1, PostR.here q1 p1.st rfl⟩
  | _ => exact q1.elim
theorem et_ite {c a b : Expr} {fc fa fb : DEnv → M Bool} {pos : Pos} (hc : EvT G X W c fc) (ha : EvT G X W a fa) (hb : EvT G X W b fb) : EvT G X W (.IfExp c a b pos) (bIte fc fa fb) := by
  refine ⟨fun pins sh σ H Q I ⟨U, env, s, p, hq⟩ => ?_⟩
  show wpAny _ _ (do if ← isTrue c X.env (eval c X.env) then isTrue a X.env (eval a X.env) else isTrue b X.env (eval b X.env)) _ _ _
  obtain ⟨t, pt, ev⟩ := hc.ex
  obtain ⟨ta, pa, ea⟩ := ha.ex
  obtain ⟨tb, pb, eb⟩ := hb.ex
  refine wpAny_bind (wpAny_mono (pt.run pins sh σ H (fun k H1 => if k = true then ta σ H1 Q else tb σ H1 Q) I ?_) (fun k s1 hk => ?_) fun _ _ x => x)
  · refine ev.bind p hq fun k s1 k' H1 g1 p1 r1 q1 => ?_
    subst r1
    cases k with
    | true => exact iteT (ea U σ H1 env s1 Q p1 q1)
    | false => exact iteF (eb U σ H1 env s1 Q p1 q1)
  · obtain ⟨H1, I1, q1⟩ := hk
    cases k with
    | true =>
      rw [if_pos rfl] at q1 ⊢
      exact pa.run pins s1 σ H1 Q I1 q1
    | false =>
      rw [if_neg Bool.false_ne_true] at q1 ⊢
      exact pb.run pins s1 σ H1 Q I1 q1
theorem ev_isi {N : List Str} {k : Nat} {a : Expr} {c : Ic} {fa : DEnv → M D} {q pos : Pos} (hX : XOk G X N W k) (hc : c.Ok G k) (hn : ∀ x ∈ c.names, glB X.env.scope x = true) (hg : Gl X "isinstance") (ha : EvJ G X W a fa)
    (hs : starEach [a, c.ast] X.env = (false, eval a X.env) :: starEach [c.ast] X.env) : EvJ G X W (.Call (.Name "isinstance" q) [a, c.ast] [] pos) (fun env => sq (fa env) c.g) := by
  obtain ⟨hst, hc⟩ := hc
  obtain ⟨tc, pc, r, hr, hk⟩ := hc X N W hX hn
  obtain ⟨t, pe, ev⟩ := ha.ex
  have hpl : (backTo pos (starEach [c.ast] X.env)).any (·.1) = false := by
    rw [hst]
    rfl
  refine .of (pe_callB (id := "isinstance") hr hg (hX.bl _ (by decide +kernel)) (by decide +kernel) (pa_cons pe (pa_cons pc pa_nil (hst _ _)) hs) (by decide) (by decide) hs hpl) fun U σ H env s Q p hq => ?_
  refine ev.bind p hq fun d s1 v H1 g1 p1 r1 q1 => ?_
  exact hk U σ H1 s1 d v Q p1.h r1 q1
theorem L.form (pos : Pos) (env : Env) (es : L) (h : es.ast.length < 29) : methodCallForm es.ast.length (backTo pos (starEach es.ast env)) [] = true := by
  have e1 : (backTo pos (starEach es.ast env)).all (fun x => !x.1) = true := by
    have := es.plain pos env
    rw [List.all_eq_not_any_not]
    simp only [Bool.not_not]
    rw [this]
    rfl
  unfold methodCallForm
  rw [e1]
  show (true && true && decide (es.ast.length + 0 < 30)) = true
  simp only [Bool.true_and, decide_eq_true_eq]
  omega
theorem LW.form (p : Pos) (env : Env) (w : Wk) (ws : LW) (h2 : (LW.cons w ws).ast.length < 29) : ((backTo p (starEach (w.ast :: ws.ast) env)).all (fun x => !x.1) && (backToKw p (keywordEach [] env)).all (fun x => x.1.isSome)
      && decide ((w.ast :: ws.ast).length + ([] : List Keyword).length + (if ([] : List Keyword).isEmpty then 0 else 1) < 30)) = true := by
  have e1 : (backTo p (starEach (w.ast :: ws.ast) env)).all (fun x => !x.1) = true := by
    have := (LW.cons w ws).plain p env
    rw [List.all_eq_not_any_not]
    simp only [Bool.not_not]
    rw [show (LW.cons w ws).ast = w.ast :: ws.ast from rfl] at this
    rw [this]
    rfl
  rw [e1]
  have e3 : (LW.cons w ws).ast.length = ws.ast.length + 1 := rfl
  rw [e3] at h2
  show (true && true && decide (ws.ast.length + 1 + 0 + 0 < 30)) = true
  simp only [Bool.true_and, decide_eq_true_eq]
  omega
theorem mt_form (o : E) (name : Str) (apos pos : Pos) (env : Env) (es : L) (h : es.ast.length < 29) (hl : (apos.endLine == pos.line) = true) : eval (.Call (.Attribute o.ast name apos) es.ast [] pos) env = (do
      let ov ← eval o.ast env
      standAt apos.atName
      let (f, first) ← holding [ov] (getMethod ov name (do return (← importBound o.ast env).getD true))
      callWith pos f first (backTo pos (starEach es.ast env)) (backToKw pos (keywordEach [] env))) := by
  have e1 : eval (.Call (.Attribute o.ast name apos) es.ast [] pos) env = (do
      let ov ← attributeBase o.ast name env (eval o.ast env)
      standAt apos.atName
      methodCall o.ast name apos pos env ov (es.ast.length + 0) (backTo pos (starEach es.ast env)) []) := rfl
  rw [e1, o.base]
  unfold methodCall
  have e2 := L.form pos env es h
  rw [show es.ast.length + 0 = es.ast.length from rfl, e2]
  have e3 : methodCallPos true o.ast env apos pos = pure pos := by
    unfold methodCallPos
    rw [hl]
    rfl
  rw [e3]
  rfl
theorem str_le {x : Str} (h : decide (x.length ≤ 16777216) = true) : x.length ≤ sizeLine := by
  rw [sizeLine_eq]
  exact of_decide_eq_true h
end
theorem fnAt_of {fs : List Fn} {y : Str} {c : Fn} (h : fnAt fs y = some c) : c ∈ fs ∧ c.name = y := ⟨List.mem_of_find?_eq_some h, eq_of_beq (List.find?_some (p := fun c : Fn => c.name == y) h)⟩
theorem ev_dyn {G : Wd} {X : Cx} {N : List Str} {W : XK} {k i : Nat} {x : Str} {fs : List Fn} {e : Expr} {es : List Expr} {fa : DEnv → M (List D)} {q pos : Pos} (hX : XOk G X N W k) (hc : ∀ c ∈ fs, FnD G c ∧ c.lvl ≤ k) (hN : X.N[i]? = some x) (hv : Vis X.env.scope x) (hdb : (x == ("__debug__" : Str)) = false) (hcd : (x == ("__classdict__" : Str)) = false)
    (ha : EvA G X W (e :: es) fa) (he : starEach (e :: es) X.env = (false, eval e X.env) :: starEach es X.env) (hpl : (backTo pos (starEach es X.env)).any (·.1) = false) : EvJ G X W (.Call (.Name x q) (e :: es) [] pos) (dDyn i fs fa) := by
  refine ⟨fun pins s σ H Q I ⟨U, env, st, p, hq⟩ => ?_⟩
  unfold dDyn at hq
  obtain ⟨ta, pa, ea⟩ := ha.ex
  cases e1 : env[i]? with
  | none => rw [e1] at hq; exact hq.elim
  | some sl =>
    rw [e1] at hq
    have sk := p.sl i sl e1
    cases sl with
    | un => exact hq.elim
    | mt d => exact hq.elim
    | fz d =>
      cases d with
      | fn y =>
        obtain ⟨v, e2, f, hf, rfl⟩ := sk
        refine wpAny_Call_Name_kw (thn ((pe_var (pos := q) hN hv hdb hcd).run pins s σ H (fun v H1 => v = .ref f ∧ H1 = H) I ⟨.ref f, e2, rfl, rfl⟩) fun u s1 ⟨v, H1, I1, r1, q1⟩ => ?_)
        obtain ⟨rfl, rfl⟩ := q1
        cases r1
        have hq : PostD G.g U H1 W (dAt (fnAt fs y) (fa env) st) Q := hq
        cases e3 : fnAt fs y with
        | none => rw [e3] at hq; exact hq.elim
        | some c =>
          rw [e3] at hq
          obtain ⟨hmem, hn⟩ := fnAt_of e3
          obtain ⟨⟨f', fd, ps, F, hm, hkp, hb⟩, hl⟩ := hc c hmem
          rw [hn, hf] at hm
          cases hm
          rw [← hX.prog, ← hX.w, ← hX.K, ← hX.mg, ← hX.base] at F
          rw [← hX.K] at hkp hb
          refine PySem.W.callWith_K (h₀ := X.base) I.ok.mod.kin hkp (thn (pa.run pos pins s1 σ _ (fun vs H2 => ∃ ds s2, vs.length = ds.length ∧ PreH G.g U H2 s2 ∧ RepL G.g U H2 ds vs ∧ PostD G.g U H2 W (useFn c ds s2) Q) I1 ?_) fun us s2 ⟨vs, H2, I2, r, ds, s3, hlen, p3, r3, q3⟩ => ⟨I2.kIn, ?_⟩) he hpl
          · refine ea.bind p hq fun ds s1 vs H1 g1 p1 r1 q1 => ?_
            exact ⟨ds, s1, r1.length.symm, p1.h, r1, q1⟩
          · unfold useFn at q3
            by_cases z : ds.length = c.n
            · simp only [if_pos z] at q3
              exact run_fn F (hX.room.mono hl) hb .nil hX.passes I2 r ⟨by rw [List.append_nil, hlen]; exact z, ds, s3, U, p3, by rw [List.append_nil]; exact r3, q3⟩
            · simp only [if_neg z] at q3
              exact q3.elim
      | _ => exact hq.elim
mutual
theorem E.sound : ∀ (e : E) (X : Cx) (N : List Str) (W : XK) (k : Nat), XOk G X N W k → e.wf N X.env.scope = true → e.Ok G k → EvJ G X W e.ast e.den
  | .var i x p, X, N, W, k, hX, hw, ho => by
    obtain ⟨h1, h2, h3, h4⟩ := nmB_of hX.names hw
    exact ev_var h1 h2 h3 h4
  | .int i j p, X, N, W, k, hX, hw, ho => ev_int
  | .str x j p, X, N, W, k, hX, hw, ho => ev_str (str_le hw)
  | .bl b j p, X, N, W, k, hX, hw, ho => ev_bl
  | .non j p, X, N, W, k, hX, hw, ho => ev_non
  | .glo x d p, X, N, W, k, hX, hw, ho => ev_glo hX.mg ho (Sc.gl hw).1 (Sc.gl hw).2
  | .bin a o b p, X, N, W, k, hX, hw, ho => ev_bin (ho.2.1 X N W hX) (E.sound a X N W k hX (and_of hw).1 ho.1) (E.sound b X N W k hX (and_of hw).2 ho.2.2)
  | .un o a p, X, N, W, k, hX, hw, ho => ev_un (ho.1 X N W hX) (E.sound a X N W k hX (and_of hw).2 ho.2)
  | .no a p, X, N, W, k, hX, hw, ho => ev_not (E.sound a X N W k hX hw ho)
  | .cmp a o b p, X, N, W, k, hX, hw, ho => ev_cmp (ho.2.1 X N W hX) (E.sound a X N W k hX (and_of hw).1 ho.1) (E.sound b X N W k hX (and_of hw).2 ho.2.2) (b.marks _)
  | .cm2 a o1 b o2 c p, X, N, W, k, hX, hw, ho => (ev_cm2 (ho.2.1 X N W hX) (ho.2.2.2.1 X N W hX) (E.sound a X N W k hX (and_of hw).1 ho.1) (E.sound b X N W k hX (and_of (and_of hw).2).1 ho.2.2.1) (E.sound c X N W k hX (and_of (and_of hw).2).2 ho.2.2.2.2) (c.marks _)).1
  | .bop op e es p, X, N, W, k, hX, hw, ho => L.soundB es X N W k hX (and_of hw).2 ho.2 op e.ast e.den p (E.sound e X N W k hX (and_of hw).1 ho.1)
  | .ite c a b p, X, N, W, k, hX, hw, ho => ev_ite (E.soundT c X N W k hX (and_of hw).1 ho.1) (E.sound a X N W k hX (and_of (and_of hw).2).1 ho.2.1) (E.sound b X N W k hX (and_of (and_of hw).2).2 ho.2.2)
  | .call f e es q p, X, N, W, k, hX, hw, ho =>
    ev_call hX ho.1.2 ho.1.1 (Sc.gl (and_of hw).1).1 (Sc.gl (and_of hw).1).2 (ea_cons (E.sound e X N W k hX (and_of (and_of hw).2).1 ho.2.1) (L.sound es X N W k hX (and_of (and_of hw).2).2 ho.2.2) (e.star _ _)) (e.star _ _) (es.plain _ _)
  | .mt m o .nil ap p, X, N, W, k, hX, hw, ho => ev_mt0 hX ho.1.2 ho.1.1 (E.sound o X N W k hX (and_of (and_of (and_of hw).2).2).1 ho.2.1) (mt_form o m.name ap p X.env .nil (of_decide_eq_true (and_of (and_of hw).2).1) (and_of hw).1)
  | .mt m o (.cons e es) ap p, X, N, W, k, hX, hw, ho =>
    ev_mt hX ho.1.2 ho.1.1 (E.sound o X N W k hX (and_of (and_of (and_of hw).2).2).1 ho.2.1) (ea_cons (E.sound e X N W k hX (and_of (and_of (and_of (and_of hw).2).2).2).1 ho.2.2.1) (L.sound es X N W k hX (and_of (and_of (and_of (and_of hw).2).2).2).2 ho.2.2.2) (e.star _ _)) (e.star _ _) (es.plain _ _)
      (mt_form o m.name ap p X.env (.cons e es) (of_decide_eq_true (and_of (and_of hw).2).1) (and_of hw).1)
  | .dyn i x fs e es q p, X, N, W, k, hX, hw, ho => by
    obtain ⟨n1, n2, n3, n4⟩ := nmB_of hX.names (and_of hw).1
    exact ev_dyn hX ho.1 n1 n2 n3 n4 (ea_cons (E.sound e X N W k hX (and_of (and_of hw).2).1 ho.2.1) (L.sound es X N W k hX (and_of (and_of hw).2).2 ho.2.2) (e.star _ _)) (e.star _ _) (es.plain _ _)
  | .mk m dd e es q p, X, N, W, k, hX, hw, ho =>
    ev_mk hX ho.1.2 ho.1.1 (Sc.gl (and_of hw).1).1 (Sc.gl (and_of hw).1).2 (ea_cons (E.sound e X N W k hX (and_of (and_of hw).2).1 ho.2.1) (L.sound es X N W k hX (and_of (and_of hw).2).2 ho.2.2) (e.star _ _)) (e.star _ _) (es.plain _ _)
  | .bi b w ws q p, X, N, W, k, hX, hw, ho =>
    ev_bi hX (ho.1 X N W hX) (Sc.gl (and_of hw).1).1 (eb_cons (Wk.sound w X N W k hX (and_of (and_of hw).2).1 ho.2.1) (LW.sound ws X N W k hX (and_of (and_of hw).2).2 ho.2.2) (w.star _ _)) (w.star _ _) (ws.plain _ _)
  | .bm m o .nil ap p, X, N, W, k, hX, hw, ho => ev_bm0 (ho.1 X N W hX) (Wk.sound o X N W k hX (and_of (and_of (and_of hw).2).2).1 ho.2.1) (o.base _ _ _) (and_of hw).1
  | .bm m o (.cons w ws) ap p, X, N, W, k, hX, hw, ho => by
    obtain ⟨h1, h2⟩ := and_of hw
    obtain ⟨h2, h3⟩ := and_of h2
    obtain ⟨h3, h4⟩ := and_of h3
    exact ev_bm (ho.1 X N W hX) (Wk.sound o X N W k hX h3 ho.2.1) (eb_cons (Wk.sound w X N W k hX (and_of h4).1 ho.2.2.1) (LW.sound ws X N W k hX (and_of h4).2 ho.2.2.2) (w.star _ _)) (o.base _ _ _) (LW.form p X.env w ws (of_decide_eq_true h2)) h1 (w.star _ _) (ws.plain _ _)
  | .isi a c q p, X, N, W, k, hX, hw, ho => ev_isi hX ho.2 (fun x hx => List.all_eq_true.mp (and_of (and_of hw).2).1 x hx) (Sc.gl (and_of hw).1).1 (E.sound a X N W k hX (and_of (and_of hw).2).2 ho.1) (a.star _ _)
  | .att e c j f p, X, N, W, k, hX, hw, ho => ev_att (by rw [hX.K]; exact ho.1.1) (by rw [hX.K]; exact ho.1.2.1) ho.1.2.2 (E.sound e X N W k hX hw ho.2) (e.base _ _ _)
  | .ix o i p, X, N, W, k, hX, hw, ho => ev_ix (Wk.sound o X N W k hX (and_of hw).1 ho.1) (E.sound i X N W k hX (and_of hw).2 ho.2) i.plainIx
  | .sl o lo hi q p, X, N, W, k, hX, hw, ho => ev_sl (Wk.sound o X N W k hX (and_of hw).1 ho.1) (Oe.sound lo X N W k hX (and_of (and_of hw).2).1 ho.2.1) (Oe.sound hi X N W k hX (and_of (and_of hw).2).2 ho.2.2)
  | .tup es j p, X, N, W, k, hX, hw, ho => ev_tup (L.sound es X N W k hX hw ho)
  | .lst es p, X, N, W, k, hX, hw, ho => ev_lst (L.sound es X N W k hX hw ho)
  | .comp e t it c scope own p, X, N, W, k, hX, hw, ho => by
    obtain ⟨h1, hw⟩ := and_of hw
    obtain ⟨h2, hw⟩ := and_of hw
    obtain ⟨h3, hw⟩ := and_of hw
    obtain ⟨h4, hw⟩ := and_of hw
    obtain ⟨h5, hw⟩ := and_of hw
    obtain ⟨h6, h7⟩ := and_of hw
    have hsc : ∀ (s : Shared) (H : Hp) (C : Addr) (cl : List (Str × Addr)) (fp : List Addr), (X.blk s H scope (compEnvC scope cl C X.env) fp).env.scope = relS scope X.env.scope := fun _ _ _ _ _ => rfl
    refine ev_comp (own := own) hX.calm (by rw [hX.names]; exact hX.nd) (by rw [hX.names]; exact blkOk_by h1) (Is.sound it X N W k hX h5 ho.1 t h4) (fun s H C cl fp => t.own_blk hX.names h2)
      (fun s H C cl fp => Oe.soundT c _ N W0 k (hX.blk s H scope C cl fp) h6 ho.2.1) (fun s H C cl fp => E.sound e _ N W0 k (hX.blk s H scope C cl fp) h7 ho.2.2) (it.folded _) fun i hi => ?_
    have := List.all_eq_true.mp h3 i hi
    simpa using this
theorem E.soundT : ∀ (e : E) (X : Cx) (N : List Str) (W : XK) (k : Nat), XOk G X N W k → e.wf N X.env.scope = true → e.Ok G k → EvT G X W e.ast e.tst
  | .no a p, X, N, W, k, hX, hw, ho => et_not (E.soundT a X N W k hX hw ho)
  | .bop op e es p, X, N, W, k, hX, hw, ho => (L.soundP es X N W k hX (and_of hw).2 ho.2 op e.ast e.tst p (E.soundT e X N W k hX (and_of hw).1 ho.1)).t
  | .ite c a b p, X, N, W, k, hX, hw, ho => et_ite (E.soundT c X N W k hX (and_of hw).1 ho.1) (E.soundT a X N W k hX (and_of (and_of hw).2).1 ho.2.1) (E.soundT b X N W k hX (and_of (and_of hw).2).2 ho.2.2)
  | .cmp a o b p, X, N, W, k, hX, hw, ho => et_cmp (ho.2.1 X N W hX) (E.sound a X N W k hX (and_of hw).1 ho.1) (E.sound b X N W k hX (and_of hw).2 ho.2.2) (b.marks _)
  | .cm2 a o1 b o2 c p, X, N, W, k, hX, hw, ho => (ev_cm2 (ho.2.1 X N W hX) (ho.2.2.2.1 X N W hX) (E.sound a X N W k hX (and_of hw).1 ho.1) (E.sound b X N W k hX (and_of (and_of hw).2).1 ho.2.2.1) (E.sound c X N W k hX (and_of (and_of hw).2).2 ho.2.2.2.2) (c.marks _)).2
  | .un o a p, X, N, W, k, hX, hw, ho => et_val (E.sound (.un o a p) X N W k hX hw ho) ((E.un o a p).truth _ (and_of hw).1)
  | .var i x p, X, N, W, k, hX, hw, ho => et_val (E.sound (.var i x p) X N W k hX hw ho) ((E.var i x p).truth _ rfl)
  | .int i j p, X, N, W, k, hX, hw, ho => et_val (E.sound (.int i j p) X N W k hX hw ho) ((E.int i j p).truth _ rfl)
  | .str x j p, X, N, W, k, hX, hw, ho => et_val (E.sound (.str x j p) X N W k hX hw ho) ((E.str x j p).truth _ rfl)
  | .bl b j p, X, N, W, k, hX, hw, ho => et_val (E.sound (.bl b j p) X N W k hX hw ho) ((E.bl b j p).truth _ rfl)
  | .non j p, X, N, W, k, hX, hw, ho => et_val (E.sound (.non j p) X N W k hX hw ho) ((E.non j p).truth _ rfl)
  | .glo x d p, X, N, W, k, hX, hw, ho => et_val (E.sound (.glo x d p) X N W k hX hw ho) ((E.glo x d p).truth _ rfl)
  | .bin a o b p, X, N, W, k, hX, hw, ho => et_val (ev_bin (ho.2.1 X N W hX) (E.sound a X N W k hX (and_of hw).1 ho.1) (E.sound b X N W k hX (and_of hw).2 ho.2.2)) ((E.bin a o b p).truth _ rfl)
  | .call f e es q p, X, N, W, k, hX, hw, ho =>
    et_val (ev_call hX ho.1.2 ho.1.1 (Sc.gl (and_of hw).1).1 (Sc.gl (and_of hw).1).2 (ea_cons (E.sound e X N W k hX (and_of (and_of hw).2).1 ho.2.1) (L.sound es X N W k hX (and_of (and_of hw).2).2 ho.2.2) (e.star _ _)) (e.star _ _) (es.plain _ _)) ((E.call f e es q p).truth _ rfl)
  | .mt m o .nil ap p, X, N, W, k, hX, hw, ho => et_val (ev_mt0 hX ho.1.2 ho.1.1 (E.sound o X N W k hX (and_of (and_of (and_of hw).2).2).1 ho.2.1) (mt_form o m.name ap p X.env .nil (of_decide_eq_true (and_of (and_of hw).2).1) (and_of hw).1)) ((E.mt m o .nil ap p).truth _ rfl)
  | .mt m o (.cons e es) ap p, X, N, W, k, hX, hw, ho =>
    et_val (ev_mt hX ho.1.2 ho.1.1 (E.sound o X N W k hX (and_of (and_of (and_of hw).2).2).1 ho.2.1) (ea_cons (E.sound e X N W k hX (and_of (and_of (and_of (and_of hw).2).2).2).1 ho.2.2.1) (L.sound es X N W k hX (and_of (and_of (and_of (and_of hw).2).2).2).2 ho.2.2.2) (e.star _ _)) (e.star _ _) (es.plain _ _)
      (mt_form o m.name ap p X.env (.cons e es) (of_decide_eq_true (and_of (and_of hw).2).1) (and_of hw).1)) ((E.mt m o (.cons e es) ap p).truth _ rfl)
  | .dyn i x fs e es q p, X, N, W, k, hX, hw, ho => by
    obtain ⟨n1, n2, n3, n4⟩ := nmB_of hX.names (and_of hw).1
    exact et_val (ev_dyn hX ho.1 n1 n2 n3 n4 (ea_cons (E.sound e X N W k hX (and_of (and_of hw).2).1 ho.2.1) (L.sound es X N W k hX (and_of (and_of hw).2).2 ho.2.2) (e.star _ _)) (e.star _ _) (es.plain _ _)) ((E.dyn i x fs e es q p).truth _ rfl)
  | .mk m dd e es q p, X, N, W, k, hX, hw, ho =>
    et_val (ev_mk hX ho.1.2 ho.1.1 (Sc.gl (and_of hw).1).1 (Sc.gl (and_of hw).1).2 (ea_cons (E.sound e X N W k hX (and_of (and_of hw).2).1 ho.2.1) (L.sound es X N W k hX (and_of (and_of hw).2).2 ho.2.2) (e.star _ _)) (e.star _ _) (es.plain _ _)) ((E.mk m dd e es q p).truth _ rfl)
  | .bi b w ws q p, X, N, W, k, hX, hw, ho =>
    et_val (ev_bi hX (ho.1 X N W hX) (Sc.gl (and_of hw).1).1 (eb_cons (Wk.sound w X N W k hX (and_of (and_of hw).2).1 ho.2.1) (LW.sound ws X N W k hX (and_of (and_of hw).2).2 ho.2.2) (w.star _ _)) (w.star _ _) (ws.plain _ _)) ((E.bi b w ws q p).truth _ rfl)
  | .isi a c q p, X, N, W, k, hX, hw, ho => et_val (ev_isi hX ho.2 (fun x hx => List.all_eq_true.mp (and_of (and_of hw).2).1 x hx) (Sc.gl (and_of hw).1).1 (E.sound a X N W k hX (and_of (and_of hw).2).2 ho.1) (a.star _ _)) ((E.isi a c q p).truth _ rfl)
  | .att e c j f p, X, N, W, k, hX, hw, ho => et_val (ev_att (by rw [hX.K]; exact ho.1.1) (by rw [hX.K]; exact ho.1.2.1) ho.1.2.2 (E.sound e X N W k hX hw ho.2) (e.base _ _ _)) ((E.att e c j f p).truth _ rfl)
  | .ix o i p, X, N, W, k, hX, hw, ho => et_val (ev_ix (Wk.sound o X N W k hX (and_of hw).1 ho.1) (E.sound i X N W k hX (and_of hw).2 ho.2) i.plainIx) ((E.ix o i p).truth _ rfl)
  | .sl o lo hi q p, X, N, W, k, hX, hw, ho => et_val (ev_sl (Wk.sound o X N W k hX (and_of hw).1 ho.1) (Oe.sound lo X N W k hX (and_of (and_of hw).2).1 ho.2.1) (Oe.sound hi X N W k hX (and_of (and_of hw).2).2 ho.2.2)) ((E.sl o lo hi q p).truth _ rfl)
  | .tup es j p, X, N, W, k, hX, hw, ho => et_val (ev_tup (L.sound es X N W k hX hw ho)) ((E.tup es j p).truth _ rfl)
  | .lst es p, X, N, W, k, hX, hw, ho => et_val (ev_lst (L.sound es X N W k hX hw ho)) ((E.lst es p).truth _ rfl)
  | .bm m o .nil ap p, X, N, W, k, hX, hw, ho => et_val (ev_bm0 (ho.1 X N W hX) (Wk.sound o X N W k hX (and_of (and_of (and_of hw).2).2).1 ho.2.1) (o.base _ _ _) (and_of hw).1) ((E.bm m o .nil ap p).truth _ rfl)
  | .bm m o (.cons w ws) ap p, X, N, W, k, hX, hw, ho => by
    obtain ⟨h1, h2⟩ := and_of hw
    obtain ⟨h2, h3⟩ := and_of h2
    obtain ⟨h3, h4⟩ := and_of h3
    exact et_val (ev_bm (ho.1 X N W hX) (Wk.sound o X N W k hX h3 ho.2.1) (eb_cons (Wk.sound w X N W k hX (and_of h4).1 ho.2.2.1) (LW.sound ws X N W k hX (and_of h4).2 ho.2.2.2) (w.star _ _)) (o.base _ _ _) (LW.form p X.env w ws (of_decide_eq_true h2)) h1 (w.star _ _) (ws.plain _ _)) ((E.bm m o (.cons w ws) ap p).truth _ rfl)
  | .comp e t it c scope own p, X, N, W, k, hX, hw, ho => by
    obtain ⟨h1, hw⟩ := and_of hw
    obtain ⟨h2, hw⟩ := and_of hw
    obtain ⟨h3, hw⟩ := and_of hw
    obtain ⟨h4, hw⟩ := and_of hw
    obtain ⟨h5, hw⟩ := and_of hw
    obtain ⟨h6, h7⟩ := and_of hw
    refine et_val (ev_comp (own := own) hX.calm (by rw [hX.names]; exact hX.nd) (by rw [hX.names]; exact blkOk_by h1) (Is.sound it X N W k hX h5 ho.1 t h4) (fun s H C cl fp => t.own_blk hX.names h2)
      (fun s H C cl fp => Oe.soundT c _ N W0 k (hX.blk s H scope C cl fp) h6 ho.2.1) (fun s H C cl fp => E.sound e _ N W0 k (hX.blk s H scope C cl fp) h7 ho.2.2) (it.folded _) fun i hi => ?_) ((E.comp e t it c scope own p).truth _ rfl)
    have := List.all_eq_true.mp h3 i hi
    simpa using this
theorem Wk.sound : ∀ (e : Wk) (X : Cx) (N : List Str) (W : XK) (k : Nat), XOk G X N W k → e.wf N X.env.scope = true → e.Ok G k → EvW G X W e.ast e.den
  | .of e, X, N, W, k, hX, hw, ho => (E.sound e X N W k hX hw ho).weak
  | .bor i x p, X, N, W, k, hX, hw, ho => by
    obtain ⟨h1, h2, h3, h4⟩ := nmB_of hX.names hw
    exact ev_bor h1 h2 h3 h4
theorem L.sound : ∀ (es : L) (X : Cx) (N : List Str) (W : XK) (k : Nat), XOk G X N W k → es.wf N X.env.scope = true → es.Ok G k → EvA G X W es.ast es.den
  | .nil, X, N, W, k, hX, hw, ho => ea_nil
  | .cons e r, X, N, W, k, hX, hw, ho => ea_cons (E.sound e X N W k hX (and_of hw).1 ho.1) (L.sound r X N W k hX (and_of hw).2 ho.2) (e.star _ _)
theorem L.soundB : ∀ (es : L) (X : Cx) (N : List Str) (W : XK) (k : Nat), XOk G X N W k → es.wf N X.env.scope = true → es.Ok G k → ∀ (op : BoolOp) (a : Expr) (f : DEnv → M D) (p : Pos), EvJ G X W a f → EvJ G X W (.BoolOp op (a :: es.ast) p) (es.denB op f)
  | .nil, X, N, W, k, hX, hw, ho, op, a, f, p, h => ev_one h
  | .cons e r, X, N, W, k, hX, hw, ho, .And, a, f, p, h => ev_and h (L.soundB r X N W k hX (and_of hw).2 ho.2 .And e.ast e.den p (E.sound e X N W k hX (and_of hw).1 ho.1))
  | .cons e r, X, N, W, k, hX, hw, ho, .Or, a, f, p, h => ev_or h (L.soundB r X N W k hX (and_of hw).2 ho.2 .Or e.ast e.den p (E.sound e X N W k hX (and_of hw).1 ho.1))
theorem L.soundP : ∀ (es : L) (X : Cx) (N : List Str) (W : XK) (k : Nat), XOk G X N W k → es.wf N X.env.scope = true → es.Ok G k → ∀ (op : BoolOp) (a : Expr) (f : DEnv → M Bool) (p : Pos), EvT G X W a f → EvP G X W (.BoolOp op (a :: es.ast) p) (es.tstB op f)
  | .nil, X, N, W, k, hX, hw, ho, .And, a, f, p, h => ep_and1 h
  | .nil, X, N, W, k, hX, hw, ho, .Or, a, f, p, h => ep_or1 h
  | .cons e r, X, N, W, k, hX, hw, ho, .And, a, f, p, h => ep_and h (L.soundP r X N W k hX (and_of hw).2 ho.2 .And e.ast e.tst p (E.soundT e X N W k hX (and_of hw).1 ho.1))
  | .cons e r, X, N, W, k, hX, hw, ho, .Or, a, f, p, h => ep_or h (L.soundP r X N W k hX (and_of hw).2 ho.2 .Or e.ast e.tst p (E.soundT e X N W k hX (and_of hw).1 ho.1))
theorem LW.sound : ∀ (es : LW) (X : Cx) (N : List Str) (W : XK) (k : Nat), XOk G X N W k → es.wf N X.env.scope = true → es.Ok G k → EvB G X W es.ast es.den
  | .nil, X, N, W, k, hX, hw, ho => eb_nil
  | .cons e r, X, N, W, k, hX, hw, ho => eb_cons (Wk.sound e X N W k hX (and_of hw).1 ho.1) (LW.sound r X N W k hX (and_of hw).2 ho.2) (e.star _ _)
theorem Oe.sound : ∀ (e : Oe) (X : Cx) (N : List Str) (W : XK) (k : Nat), XOk G X N W k → e.wf N X.env.scope = true → e.Ok G k → EvO G X W e.ast e.den
  | .no, X, N, W, k, hX, hw, ho => eo_none
  | .so e, X, N, W, k, hX, hw, ho => eo_some (E.sound e X N W k hX hw ho)
theorem Oe.soundT : ∀ (e : Oe) (X : Cx) (N : List Str) (W : XK) (k : Nat), XOk G X N W k → e.wf N X.env.scope = true → e.Ok G k → EvTs G X W e.asts e.tst
  | .no, X, N, W, k, hX, hw, ho => ets_nil
  | .so e, X, N, W, k, hX, hw, ho => ets_one (E.soundT e X N W k hX hw ho)
theorem Is.sound : ∀ (e : Is) (X : Cx) (N : List Str) (W : XK) (k : Nat), XOk G X N W k → e.wf N X.env.scope = true → e.Ok G k → ∀ t : T, (!isZip e || isTup t) = true → EvIw G X W t.ast e.ast e.den
  | .seq w, X, N, W, k, hX, hw, ho, t, _ => ei_weak (Wk.sound w X N W k hX hw ho)
  | .rg1 e q p, X, N, W, k, hX, hw, ho, t, _ => (ei_rg1 (Sc.gl (and_of hw).1).1 (hX.bl _ (by decide +kernel)) (ea_cons (E.sound e X N W k hX (and_of hw).2 ho) ea_nil (e.star _ _)) (e.star _ _)).w
  | .rg2 a b q p, X, N, W, k, hX, hw, ho, t, _ => (ei_rg2 (Sc.gl (and_of hw).1).1 (hX.bl _ (by decide +kernel)) (ea_cons (E.sound a X N W k hX (and_of (and_of hw).2).1 ho.1) (ea_cons (E.sound b X N W k hX (and_of (and_of hw).2).2 ho.2) ea_nil (b.star _ _)) (a.star _ _)) (by rw [a.star, b.star]; rfl) (b.star _ _)).w
  | .zip a b q p, X, N, W, k, hX, hw, ho, t, ht => by
    cases t with
    | nm i x p => cases ht
    | tp ts kk tp =>
      exact (ei_zip (Sc.gl (and_of hw).1).1 (hX.bl _ (by decide +kernel)) (ea_cons (E.sound a X N W k hX (and_of (and_of hw).2).1 ho.1) (ea_cons (E.sound b X N W k hX (and_of (and_of hw).2).2 ho.2) ea_nil (b.star _ _)) (a.star _ _)) (a.star _ _) (by rw [b.star]; rfl)).w
end
/-- a source that a for walks -/
theorem Is.soundS : ∀ (e : Is) (X : Cx) (N : List Str) (W : XK) (k : Nat), XOk G X N W k → e.wf N X.env.scope = true → e.Ok G k → ∀ t : T, (!isZip e || isTup t) = true → (match e with | .seq (.bor _ _ _) => False | _ => True) → EvI G X W t.ast e.ast e.den
  | .seq (.of e), X, N, W, k, hX, hw, ho, t, _, _ => ei_seq (E.sound e X N W k hX hw ho)
  | .seq (.bor _ _ _), X, N, W, k, hX, hw, ho, t, _, h => h.elim
  | .rg1 e q p, X, N, W, k, hX, hw, ho, t, _, _ => ei_rg1 (Sc.gl (and_of hw).1).1 (hX.bl _ (by decide +kernel)) (ea_cons (E.sound e X N W k hX (and_of hw).2 ho) ea_nil (e.star _ _)) (e.star _ _)
  | .rg2 a b q p, X, N, W, k, hX, hw, ho, t, _, _ => ei_rg2 (Sc.gl (and_of hw).1).1 (hX.bl _ (by decide +kernel)) (ea_cons (E.sound a X N W k hX (and_of (and_of hw).2).1 ho.1) (ea_cons (E.sound b X N W k hX (and_of (and_of hw).2).2 ho.2) ea_nil (b.star _ _)) (a.star _ _)) (by rw [a.star, b.star]; rfl) (b.star _ _)
  | .zip a b q p, X, N, W, k, hX, hw, ho, t, ht, _ => by
    cases t with
    | nm i x p => cases ht
    | tp ts kk tp =>
      exact ei_zip (Sc.gl (and_of hw).1).1 (hX.bl _ (by decide +kernel)) (ea_cons (E.sound a X N W k hX (and_of (and_of hw).2).1 ho.1) (ea_cons (E.sound b X N W k hX (and_of (and_of hw).2).2 ho.2) ea_nil (b.star _ _)) (a.star _ _)) (a.star _ _) (by rw [b.star]; rfl)
end
end Dn
/-! DnF: statements as plain syntax; a def by its syntax. -/
namespace Dn
open PySem L2
mutual
inductive Sm where
  | asg (t : T) (e : E) (p : Pos)
  | asgC (i : Nat) (x : Str) (px : Pos) (e : E) (t : T) (it : Is) (c : Oe) (sc : Scope) (own : List (Str × Nat)) (pc p : Pos)
  | par2 (i : Nat) (x : Str) (px : Pos) (j : Nat) (y : Str) (py : Pos) (kt : Nat) (pt : Pos) (a b : E) (k2 : Nat) (p2 p : Pos)
  | par3 (i : Nat) (x : Str) (px : Pos) (j : Nat) (y : Str) (py : Pos) (l : Nat) (z : Str) (pz : Pos) (kt : Nat) (pt : Pos) (a b c : E) (k2 : Nat) (p2 p : Pos)
  | setst (o i : E) (q : Pos) (e : E) (p : Pos)
  | setat (i : Nat) (x : Str) (p1 : Pos) (c j : Nat) (f : Str) (p2 : Pos) (e : E) (p : Pos)
  | ret (e : E) (p : Pos)
  | ex (e : E) (p : Pos)
  | pass (p : Pos)
  | ifs (c : E) (a b : Sb) (p : Pos)
  | fors (t : T) (it : Is) (b : Sb) (p : Pos)
  | whl (m : DEnv → Nat) (c : E) (b : Sb) (p : Pos)
  | raise (c : Nat) (f name : Str) (e : E) (q p1 p : Pos)
inductive Sb where
  | nil
  | cons (s : Sm) (r : Sb)
end
mutual
def Sm.ast : Sm → Stmt
  | .asg t e p => .Assign [t.ast] e.ast p
  | .asgC _ x px e t it c sc _ pc p => .Assign [.Name x px] (.ListComp e.ast [⟨t.ast, it.ast, c.asts, 0⟩] sc pc) p
  | .par2 _ x px _ y py kt pt a b k2 p2 p => .Assign [.Tuple [.Name x px, .Name y py] kt pt] (.Tuple [a.ast, b.ast] k2 p2) p
  | .par3 _ x px _ y py _ z pz kt pt a b c k2 p2 p => .Assign [.Tuple [.Name x px, .Name y py, .Name z pz] kt pt] (.Tuple [a.ast, b.ast, c.ast] k2 p2) p
  | .setst o i q e p => .Assign [.Subscript o.ast i.ast q] e.ast p
  | .setat _ x p1 _ _ f p2 e p => .Assign [.Attribute (.Name x p1) f p2] e.ast p
  | .ret e p => .Return (some e.ast) p
  | .ex e p => .Expr e.ast p
  | .pass p => .Pass p
  | .ifs c a b p => .If c.ast a.ast b.ast p
  | .fors t it b p => .For t.ast it.ast b.ast [] p
  | .whl _ c b p => .While c.ast b.ast [] p
  | .raise _ _ name e q p1 p => .Raise (some (.Call (.Name name q) [e.ast] [] p1)) none p
def Sb.ast : Sb → List Stmt
  | .nil => []
  | .cons s r => s.ast :: r.ast
end
mutual
def Sm.den : Sm → MS
  | .asg t e _ => mAsg t e.den
  | .asgC i x px e t it c _ own _ _ => mAsg (.nm i x px) (dComp (own.map (·.2)) t it.den c.tst e.den)
  | .par2 i _ _ j _ _ _ _ a b _ _ _ => mPar2 i j (dCons a.den (dCons b.den dNil))
  | .par3 i _ _ j _ _ l _ _ _ _ a b c _ _ _ => mPar3 i j l (dCons a.den (dCons b.den (dCons c.den dNil)))
  | .setst o i _ e _ => mSetSt o.den i.den e.den
  | .setat i _ _ c j _ _ e _ => mSetAt i c j e.den
  | .ret e _ => mRet e.den
  | .ex e _ => mDrop e.den
  | .pass _ => mPass
  | .ifs c a b _ => mIf c.tst a.den b.den
  | .fors t it b _ => mFor t it.den b.den
  | .whl m c b _ => mWhile m c.tst b.den
  | .raise c _ _ e _ _ _ => mRaise c e.den
def Sb.den : Sb → MS
  | .nil => mNil
  | .cons s r => mSeq s.den r.den
end
/-- a target in a def's body -/
def nmS (N : List Str) (sc : Scope) (i : Nat) (x : Str) : Bool := N[i]? == some x && (sc.names.lookup x == some .local || sc.names.lookup x == some .cell)
def isComp : E → Bool
  | .comp _ _ _ _ _ _ _ => true
  | _ => false
/-- the assignment to t is no exchange of stores -/
def noSwap (sc : Scope) (t : T) (e : E) : Bool := match t, e with
  | .nm _ x px, .comp _ _ _ _ csc _ pc => !(sc.kind == .function && sc.names.lookup x == some .local && px.line == pc.line && !(csc.names.any fun (n, k) => n == x && (k == .local || k == .cell)))
  | .nm _ _ _, _ => true
  | .tp ts _ _, .tup es _ _ => (!(ts.ast.length == 2 || ts.ast.length == 3) || es.ast.length != ts.ast.length) ||
      (ts.ast.filterMap fun | .Name id pos => if sc.names.lookup id == some .local && pos.line == ((ts.ast.head?.map (·.pos.line)).getD 0) then some id else none | _ => none).length != ts.ast.length
  | .tp _ _ _, _ => true
def isBor : Is → Bool
  | .seq (.bor _ _ _) => true
  | _ => false
mutual
def Sm.wf (N : List Str) (sc : Scope) : Sm → Bool
  | .asg t e _ => t.okB N sc && (noSwap sc t e && e.wf N sc)
  | .asgC i x px e t it c scope own pc _ => (N[i]? == some x && (sc.names.lookup x == some .local && (px.line == pc.line && !(scope.names.any fun (n, k) => n == x && (k == .local || k == .cell))))) && (E.comp e t it c scope own pc).wf N sc
  | .par2 i x px j y py _ _ a b _ _ _ => (N[i]? == some x && N[j]? == some y) && ((sc.names.lookup x == some .local && sc.names.lookup y == some .local) && ((py.line == px.line && !(x == y)) && ((!([a.ast, b.ast].all (foldedForSure 8)) && !([a.ast, b.ast].all (constantsAlone 8))) && ((i != j) && (a.wf N sc && b.wf N sc)))))
  | .par3 i x px j y py l z pz _ _ a b c _ _ _ => ((N[i]? == some x && N[j]? == some y) && N[l]? == some z) && (((sc.names.lookup x == some .local && sc.names.lookup y == some .local) && sc.names.lookup z == some .local) && (((py.line == px.line && pz.line == px.line) && (!(x == y) && (!(x == z) && !(y == z)))) &&
      ((!([a.ast, b.ast, c.ast].all (foldedForSure 8)) && !([a.ast, b.ast, c.ast].all (constantsAlone 8))) && (((i != j) && ((i != l) && (j != l))) && (a.wf N sc && (b.wf N sc && c.wf N sc))))))
  | .setst o i _ e _ => !isComp e && (o.wf N sc && (i.wf N sc && e.wf N sc))
  | .setat i x _ _ _ _ _ e _ => nmB N sc i x && (!isComp e && e.wf N sc)
  | .ret e _ => e.wf N sc
  | .ex e _ => !isComp e && e.wf N sc
  | .pass _ => true
  | .ifs c a b _ => c.wf N sc && (a.wf N sc && b.wf N sc)
  | .fors t it b _ => t.okB N sc && ((!isZip it || isTup t) && (!isBor it && (it.wf N sc && b.wf N sc)))
  | .whl _ c b _ => c.wf N sc && b.wf N sc
  | .raise _ _ name e _ _ _ => glB sc name && e.wf N sc
def Sb.wf (N : List Str) (sc : Scope) : Sb → Bool
  | .nil => true
  | .cons s r => s.wf N sc && r.wf N sc
end
def RzOk (G : Wd) (c : Nat) (f name : Str) (k : Nat) : Prop := ∀ (X : Cx) (N : List Str) (W : XK), XOk G X N W k → RaiseOk G X c f name
mutual
def Sm.Ok (G : Wd) (k : Nat) : Sm → Prop
  | .asg _ e _ => e.Ok G k
  | .asgC _ _ _ e _ it c _ _ _ _ => it.Ok G k ∧ c.Ok G k ∧ e.Ok G k
  | .par2 _ _ _ _ _ _ _ _ a b _ _ _ => a.Ok G k ∧ b.Ok G k
  | .par3 _ _ _ _ _ _ _ _ _ _ _ a b c _ _ _ => a.Ok G k ∧ b.Ok G k ∧ c.Ok G k
  | .setst o i _ e _ => o.Ok G k ∧ i.Ok G k ∧ e.Ok G k
  | .setat _ _ _ c j f _ e _ => (Cls G.K (G.cl c) ∧ NoAttr G.K (G.cl c) f ∧ (fldsOf c)[j]? = some f) ∧ e.Ok G k
  | .ret e _ => e.Ok G k
  | .ex e _ => e.Ok G k
  | .pass _ => True
  | .ifs c a b _ => c.Ok G k ∧ a.Ok G k ∧ b.Ok G k
  | .fors _ it b _ => it.Ok G k ∧ b.Ok G k
  | .whl _ c b _ => c.Ok G k ∧ b.Ok G k
  | .raise c f name e _ _ _ => RzOk G c f name k ∧ e.Ok G k
def Sb.Ok (G : Wd) (k : Nat) : Sb → Prop
  | .nil => True
  | .cons s r => s.Ok G k ∧ r.Ok G k
end
/-! ### the shapes -/
section
variable {G : Wd} {X : Cx}
mutual
theorem T.own_def {N : List Str} (hN : X.N = N) (hf : X.fn = fun _ => true) : ∀ t : T, t.okB N X.env.scope = true → t.Own X
  | .nm i x p, h => by
    have h : ownB N X.env.scope i x = true := h
    unfold ownB at h
    obtain ⟨h1, h2⟩ := and_of h
    refine ⟨by rw [← hN] at h1; exact eq_of_beq h1, ?_, .inl (by rw [hf])⟩
    exact cases_kind h2
  | .tp ts k p, h => TL.own_def hN hf ts h
theorem TL.own_def {N : List Str} (hN : X.N = N) (hf : X.fn = fun _ => true) : ∀ t : TL, t.okB N X.env.scope = true → t.Own X
  | .nil, _ => trivial
  | .cons t r, h => ⟨T.own_def hN hf t (and_of h).1, TL.own_def hN hf r (and_of h).2⟩
end
theorem swaps_non {e : E} (h : isComp e = false) (t : Option Expr) (l : Nat) (env : Env) : swapsWith e.ast t l env = pure false := by
  cases e <;> first | rfl | cases h
theorem bnot_of {b : Bool} (h : (!b) = true) : b = false := by cases b <;> first | rfl | cases h
theorem isComp_not {e : E} (h : (!isComp e) = true) : isComp e = false := by simpa using h
theorem sole_non {e : E} (h : isComp e = false) {t : Expr} {l : Nat} {env : Env} : swapsWithSole [t] e.ast l env = pure false := by
  show swapsWith e.ast (some t) l env = pure false
  exact swaps_non h _ _ _
theorem kind_fn {env : Env} (hk : env.scope.kind = .function) : env.blockKind = .function := by
  unfold Env.blockKind
  rw [hk]
  rfl
theorem sole_none {t : T} {e : E} {l : Nat} {env : Env} (hk : env.scope.kind = .function) (h : noSwap env.scope t e = true) : swapsWithSole [t.ast] e.ast l env = pure false := by
  show swapsWith e.ast (some t.ast) l env = pure false
  cases hc : isComp e with
  | false => exact swaps_non hc _ _ _
  | true =>
    cases e with
    | comp e' t' it c csc own pc =>
      cases t with
      | nm i x px =>
        have h : (!(env.scope.kind == .function && env.scope.names.lookup x == some .local && px.line == pc.line && !(csc.names.any fun (n, k) => n == x && (k == .local || k == .cell)))) = true := h
        rw [Bool.not_eq_true'] at h
        show (do return env.blockKind == .function && env.kindOf x == some .local && px.line == pc.line && !(csc.names.any fun (n, k) => n == x && (k == .local || k == .cell)) : Sem Bool) = pure false
        rw [kind_fn hk]
        rw [hk] at h
        have h' : ((ScopeKind.function == ScopeKind.function) && env.kindOf x == some .local && px.line == pc.line && !(csc.names.any fun (n, k) => n == x && (k == .local || k == .cell))) = false := h
        rw [h']
      | tp ts kk p => rfl
    | _ => cases hc
theorem swp_none {t : T} {e : E} {env : Env} (h : noSwap env.scope t e = true) : swappedStores [t.ast] e.ast env = pure none := by
  cases t with
  | nm i x p => cases e <;> rfl
  | tp ts kk p =>
    cases e with
    | tup es k2 p2 =>
      have h : ((!(ts.ast.length == 2 || ts.ast.length == 3) || es.ast.length != ts.ast.length) || (ts.ast.filterMap fun | .Name id pos => if env.scope.names.lookup id == some .local && pos.line == ((ts.ast.head?.map (·.pos.line)).getD 0) then some id else none | _ => none).length != ts.ast.length) = true := h
      rw [Bool.or_eq_true] at h
      show swappedStores [.Tuple ts.ast kk p] (.Tuple es.ast k2 p2) env = pure none
      unfold swappedStores
      dsimp only
      rcases h with h | h
      · rw [h]
        rfl
      · split
        · rfl
        · split
          · rfl
          · split
            · rfl
            · rename_i hneg
              refine absurd ?_ hneg
              rw [Bool.or_eq_true]
              exact .inl h
    | _ => rfl
theorem E.noStar (e : E) : (match e.ast with | .Starred .. => true | _ => false) = false := by cases e <;> rfl
theorem swp_two {x y : Str} {px py pt p2 : Pos} {kt k2 : Nat} {a b : E} {env : Env} (hk : env.scope.kind = .function) (hx : env.scope.names.lookup x = some .local) (hy : env.scope.names.lookup y = some .local) (hl : (py.line == px.line) = true) (hn : (x == y) = false)
    (hf : [a.ast, b.ast].all (foldedForSure 8) = false) (hc : [a.ast, b.ast].all (constantsAlone 8) = false) : swappedStores [.Tuple [.Name x px, .Name y py] kt pt] (.Tuple [a.ast, b.ast] k2 p2) env = pure (some [x, y]) := by
  have kx : env.kindOf x = some .local := hx
  have ky : env.kindOf y = some .local := hy
  have sa := a.noStar
  have sb := b.noStar
  have hn' : (y == x) = false := by
    rw [beq_eq_false_iff_ne] at hn ⊢
    exact fun e => hn e.symm
  unfold swappedStores
  simp only [kind_fn hk, List.length_cons, List.length_nil, List.any_cons, List.any_nil, sa, sb, List.filterMap_cons, List.filterMap_nil, kx, ky, List.head?_cons, Option.map_some, Option.getD_some, Expr.pos, hl, hf, hc, beq_self_eq_true, Bool.and_self, if_true]
  simp [List.eraseDups_cons, List.filter_cons, hn, hn']
  rintro (h | h)
  · cases a <;> cases h
  · cases b <;> cases h
theorem swp_three {x y z : Str} {px py pz pt p2 : Pos} {kt k2 : Nat} {a b c : E} {env : Env} (hk : env.scope.kind = .function) (hx : env.scope.names.lookup x = some .local) (hy : env.scope.names.lookup y = some .local) (hz : env.scope.names.lookup z = some .local)
    (hl : (py.line == px.line) = true) (hl2 : (pz.line == px.line) = true) (hn : (x == y) = false) (hn2 : (x == z) = false) (hn3 : (y == z) = false)
    (hf : [a.ast, b.ast, c.ast].all (foldedForSure 8) = false) (hc : [a.ast, b.ast, c.ast].all (constantsAlone 8) = false) : swappedStores [.Tuple [.Name x px, .Name y py, .Name z pz] kt pt] (.Tuple [a.ast, b.ast, c.ast] k2 p2) env = pure (some [x, y, z]) := by
  have kx : env.kindOf x = some .local := hx
  have ky : env.kindOf y = some .local := hy
  have kz : env.kindOf z = some .local := hz
  have sa := a.noStar
  have sb := b.noStar
  have sc := c.noStar
  have sym : ∀ {u v : Str}, (u == v) = false → (v == u) = false := fun {u v} h => by
    rw [beq_eq_false_iff_ne] at h ⊢
    exact fun e => h e.symm
  unfold swappedStores
  simp only [kind_fn hk, List.length_cons, List.length_nil, List.any_cons, List.any_nil, sa, sb, sc, List.filterMap_cons, List.filterMap_nil, kx, ky, kz, List.head?_cons, Option.map_some, Option.getD_some, Expr.pos, hl, hl2, hf, hc, beq_self_eq_true, Bool.and_self, if_true]
  simp [List.eraseDups_cons, List.filter_cons, hn, hn2, hn3, sym hn, sym hn2, sym hn3]
  rintro (h | h | h)
  · cases a <;> cases h
  · cases b <;> cases h
  · cases c <;> cases h
mutual
theorem Sm.sound : ∀ (st : Sm) (X : Cx) (N : List Str) (W : XK) (k : Nat), XOk G X N W k → X.env.scope.kind = .function → (X.fn = fun _ => true) → st.wf N X.env.scope = true → st.Ok G k → EvS G X W st.ast st.den
  | .asg t e p, X, N, W, k, hX, hk, hf, hw, ho => by
    obtain ⟨h1, hw⟩ := and_of hw
    obtain ⟨h2, h3⟩ := and_of hw
    exact es_asg (by rw [hX.names]; exact hX.nd) hX.calm (t.own_def hX.names hf h1) (e.sound X N W k hX h3 ho) (sole_none hk h2) (swp_none h2)
  | .asgC i x px e t it c scope own pc p, X, N, W, k, hX, hk, hf, hw, ho => by
    obtain ⟨hh, hw⟩ := and_of hw
    obtain ⟨a1, hh⟩ := and_of hh
    obtain ⟨a2, hh⟩ := and_of hh
    obtain ⟨a3, a4⟩ := and_of hh
    obtain ⟨h1, hw⟩ := and_of hw
    obtain ⟨h2, hw⟩ := and_of hw
    obtain ⟨h3, hw⟩ := and_of hw
    obtain ⟨h4, hw⟩ := and_of hw
    obtain ⟨h5, hw⟩ := and_of hw
    obtain ⟨h6, h7⟩ := and_of hw
    refine es_asgC (own := own) hX.calm (by rw [hX.names]; exact hX.nd) (by rw [hX.names]; exact eq_of_beq a1) (eq_of_beq a2) (sw_true hk (eq_of_beq a2) a3 (by simpa using a4)) (by rw [hX.names]; exact blkOk_by h1) (it.sound X N W k hX h5 ho.1 t h4) (fun s H C cl fp => t.own_blk hX.names h2)
      (fun s H C cl fp => Oe.soundT c _ N W0 k (hX.blk s H scope C cl fp) h6 ho.2.1) (fun s H C cl fp => E.sound e _ N W0 k (hX.blk s H scope C cl fp) h7 ho.2.2) (it.folded _) fun i hi => ?_
    have := List.all_eq_true.mp h3 i hi
    simpa using this
  | .par2 i x px j y py kt pt a b k2 p2 p, X, N, W, k, hX, hk, hf, hw, ho => by
    obtain ⟨h1, hw⟩ := and_of hw
    obtain ⟨h2, hw⟩ := and_of hw
    obtain ⟨h3, hw⟩ := and_of hw
    obtain ⟨h4, hw⟩ := and_of hw
    obtain ⟨h5, hw⟩ := and_of hw
    exact es_par2 hX.calm (by rw [hX.names]; exact hX.nd) (by rw [hX.names]; exact eq_of_beq (and_of h1).1) (by rw [hX.names]; exact eq_of_beq (and_of h1).2) (by simpa using h5) (eq_of_beq (and_of h2).1) (eq_of_beq (and_of h2).2)
      (ea_cons (a.sound X N W k hX (and_of hw).1 ho.1) (ea_cons (b.sound X N W k hX (and_of hw).2 ho.2) ea_nil (b.star _ _)) (a.star _ _))
      (swp_two hk (eq_of_beq (and_of h2).1) (eq_of_beq (and_of h2).2) (and_of h3).1 (bnot_of (and_of h3).2) (bnot_of (and_of h4).1) (bnot_of (and_of h4).2)) rfl
  | .par3 i x px j y py l z pz kt pt a b c k2 p2 p, X, N, W, k, hX, hk, hf, hw, ho => by
    obtain ⟨h1, hw⟩ := and_of hw
    obtain ⟨h2, hw⟩ := and_of hw
    obtain ⟨h3, hw⟩ := and_of hw
    obtain ⟨h4, hw⟩ := and_of hw
    obtain ⟨h5, hw⟩ := and_of hw
    obtain ⟨b1, b2⟩ := and_of h1
    obtain ⟨c1, c2⟩ := and_of h2
    obtain ⟨d1, d2⟩ := and_of h3
    obtain ⟨d3, d4⟩ := and_of d2
    exact es_par3 hX.calm (by rw [hX.names]; exact hX.nd) (by rw [hX.names]; exact eq_of_beq (and_of b1).1) (by rw [hX.names]; exact eq_of_beq (and_of b1).2) (by rw [hX.names]; exact eq_of_beq b2) (by simpa using (and_of h5).1) (by simpa using (and_of (and_of h5).2).1) (by simpa using (and_of (and_of h5).2).2)
      (eq_of_beq (and_of c1).1) (eq_of_beq (and_of c1).2) (eq_of_beq c2)
      (ea_cons (a.sound X N W k hX (and_of hw).1 ho.1) (ea_cons (b.sound X N W k hX (and_of (and_of hw).2).1 ho.2.1) (ea_cons (c.sound X N W k hX (and_of (and_of hw).2).2 ho.2.2) ea_nil (c.star _ _)) (b.star _ _)) (a.star _ _))
      (swp_three hk (eq_of_beq (and_of c1).1) (eq_of_beq (and_of c1).2) (eq_of_beq c2) (and_of d1).1 (and_of d1).2 (bnot_of d3) (bnot_of (and_of d4).1) (bnot_of (and_of d4).2) (bnot_of (and_of h4).1) (bnot_of (and_of h4).2)) rfl
  | .setst o i q e p, X, N, W, k, hX, hk, hf, hw, ho => by
    obtain ⟨h1, hw⟩ := and_of hw
    obtain ⟨h2, hw⟩ := and_of hw
    obtain ⟨h3, h4⟩ := and_of hw
    exact es_setst (o.sound X N W k hX h2 ho.1) (i.sound X N W k hX h3 ho.2.1) (e.sound X N W k hX h4 ho.2.2) (by cases i <;> exact fun _ => rfl) (sole_non (isComp_not h1)) (by cases e <;> rfl)
  | .setat i x p1 c j f p2 e p, X, N, W, k, hX, hk, hf, hw, ho => by
    obtain ⟨h1, hw⟩ := and_of hw
    obtain ⟨h2, h3⟩ := and_of hw
    obtain ⟨n1, n2, n3, n4⟩ := nmB_of hX.names h1
    exact es_setat (by rw [hX.K]; exact ho.1.1) (by rw [hX.K]; exact ho.1.2.1) ho.1.2.2 n1 n2 n3 n4 (e.sound X N W k hX h3 ho.2) (swaps_non (isComp_not h2) _ _ _)
  | .ret e p, X, N, W, k, hX, hk, hf, hw, ho => es_ret (e.sound X N W k hX hw ho)
  | .ex e p, X, N, W, k, hX, hk, hf, hw, ho => es_expr (e.sound X N W k hX (and_of hw).2 ho) (swaps_non (isComp_not (and_of hw).1) _ _ _)
  | .pass p, X, N, W, k, hX, hk, hf, hw, ho => es_pass
  | .ifs c a b p, X, N, W, k, hX, hk, hf, hw, ho => es_if (c.soundT X N W k hX (and_of hw).1 ho.1) (Sb.sound a X N W k hX hk hf (and_of (and_of hw).2).1 ho.2.1) (Sb.sound b X N W k hX hk hf (and_of (and_of hw).2).2 ho.2.2)
  | .fors t it b p, X, N, W, k, hX, hk, hf, hw, ho => by
    obtain ⟨h1, hw⟩ := and_of hw
    obtain ⟨h2, hw⟩ := and_of hw
    obtain ⟨h3, hw⟩ := and_of hw
    refine es_for hX.own hX.calm (by rw [hX.names]; exact hX.nd) (it.soundS X N W k hX (and_of hw).1 ho.1 t h2 ?_) (t.own_def hX.names hf h1) (Sb.sound b X N W k hX hk hf (and_of hw).2 ho.2) (it.folded _)
    cases it with
    | seq w =>
      cases w with
      | of e => trivial
      | bor i x p => cases h3
    | _ => trivial
  | .whl m c b p, X, N, W, k, hX, hk, hf, hw, ho => es_while hX.own (c.soundT X N W k hX (and_of hw).1 ho.1) (Sb.sound b X N W k hX hk hf (and_of hw).2 ho.2)
  | .raise c f name e q p1 p, X, N, W, k, hX, hk, hf, hw, ho => es_raise hX.calm hX.tk (ho.1 X N W hX) (Sc.gl (and_of hw).1).1 (e.sound X N W k hX (and_of hw).2 ho.2) (e.star _ _)
theorem Sb.sound : ∀ (st : Sb) (X : Cx) (N : List Str) (W : XK) (k : Nat), XOk G X N W k → X.env.scope.kind = .function → (X.fn = fun _ => true) → st.wf N X.env.scope = true → st.Ok G k → EvSs G X W st.ast st.den
  | .nil, X, N, W, k, hX, hk, hf, hw, ho => es_nil
  | .cons s r, X, N, W, k, hX, hk, hf, hw, ho => es_cons (Sm.sound s X N W k hX hk hf (and_of hw).1 ho.1) (Sb.sound r X N W k hX hk hf (and_of hw).2 ho.2)
end
/-- a def by its syntax -/
theorem Sb.fn {N ps : List Str} {x qual : Str} {st : Stmt} {f : Addr} {fd : FuncData} {k n : Nat} (b : Sb) (e : defBody st = b.ast) (hbl : ∀ x ∈ bltNames, G.mg x = none) (F : DefV G.K x qual st f fd) (S : FnScope N ps (defScope st)) (hn : ps.length = n) (hN : ps.length ≤ N.length) (hw : b.wf N (defScope st) = true)
    (ho : b.Ok G k) : FnOk G.P G.w G.K G.mg G.base (L2.CX G.P G.w) (k + 1) f fd ps (SpD G.g n (runB N.length b.den)) :=
  fn_sound hbl F S hn hN fun X W m cd hE hf _ hX => by
    rw [e]
    have hs : X.env.scope = defScope st := by rw [hE]; rfl
    exact b.sound X N W k hX (by rw [hs]; exact S.kind) hf (by rw [hs]; exact hw) ho
theorem Sb.init {N ps : List Str} {x qual : Str} {st : Stmt} {f : Addr} {fd : FuncData} {k n c : Nat} (b : Sb) (e : defBody st = b.ast) (hbl : ∀ x ∈ bltNames, G.mg x = none) (F : DefV G.K x qual st f fd) (S : FnScope N ps (defScope st)) (hn : ps.length = n + 1) (hN : ps.length ≤ N.length) (hw : b.wf N (defScope st) = true)
    (ho : b.Ok G k) : FnOk G.P G.w G.K G.mg G.base (L2.CX G.P G.w) (k + 1) f fd ps (SpI G.g c n (initB c N.length b.den)) :=
  init_sound hbl F S hn hN fun X W m cd hE hf hX => by
    rw [e]
    have hs : X.env.scope = defScope st := by rw [hE]; rfl
    exact b.sound X N W k hX (by rw [hs]; exact S.kind) hf (by rw [hs]; exact hw) ho
end
end Dn
/-! DnEq: == with both answers, through tuples, by a class's own ==. -/
namespace Dn
open PySem L2
open PySem.SeqAt
open AutoSeq1 (wpAny_loadPart')
section
variable {prog : Program} {w : World} {A : Around}
/-- the turns of two tuples that are compared: T i holds ahead of the i-th pair -/
theorem tup_turns {R : Result → Shared → Prop} (l b : Addr) (items items2 : Array Value) (n n2 : Nat) (dd dd2 : Option Addr) (sl sl2 : Array (Option Value)) (T : Nat → Shared → Prop)
    (turn : ∀ i (h1 : i < items.size) (h2 : i < items2.size) s, T i s →
      wpAny (model prog w) A.in1 (eqBool items[i] items2[i]) (fun r s' => (r = true → T (i + 1) s') ∧ (r = false → R (.ok (.ret (.bool false))) s')) (fun e s' => R (.error e) s') s)
    (fin : ∀ s, T (min items.size items2.size) s → R (.ok (.ret (.bool (items.size == items2.size)))) s) {s : Shared}
    (hl : s.heap.get? l = some { cls := .type "tuple", dict := dd, data := .seq items n, slots := sl }) (hb : s.heap.get? b = some { cls := .type "tuple", dict := dd2, data := .seq items2 n2, slots := sl2 }) (h0 : T 0 s) :
    wpAny (model prog w) A.in1 (Builtin.«tuple.__eq__» ⟨[.ref l, .ref b], []⟩) (GQ.FinOf prog w A R) (fun e s' => R (.error e) s') s := by
  have sub := AutoSeq1.sub_tuple_tuple
  have hZ : (items.toList.zip items2.toList).length = min items.size items2.size := by simp
  have hT := h0
  obtain ⟨hp, g, d, tk, os⟩ := s
  wp_walk using wpAny_loadPart' hl, wpAny_loadPart' hb, wpAny_forIn_list _ (fun rest b s' => b.1 = none ∧ ∃ i, rest = (items.toList.zip items2.toList).drop i ∧ i ≤ min items.size items2.size ∧ T i s') _
  case turn =>
    rintro ⟨y, x⟩ rest b s' ⟨hb', i, hz, hi, hI⟩
    have hlt : i < (items.toList.zip items2.toList).length := by
      rcases Nat.lt_or_ge i (items.toList.zip items2.toList).length with k | k
      · exact k
      · rw [List.drop_of_length_le k] at hz; cases hz
    have hm : i < min items.size items2.size := hZ ▸ hlt
    have h1 : i < items.size := Nat.lt_of_lt_of_le hm (Nat.min_le_left _ _)
    have h2 : i < items2.size := Nat.lt_of_lt_of_le hm (Nat.min_le_right _ _)
    rw [List.drop_eq_getElem_cons hlt] at hz
    injection hz with e1 e2
    obtain rfl : y = items[i] := by simpa using congrArg Prod.fst e1
    obtain rfl : x = items2[i] := by simpa using congrArg Prod.snd e1
    refine wpAny_bind (wpAny_mono (turn i h1 h2 s' hI) (fun r s2 q2 => ?_) fun _ _ x => x)
    cases r with
    | true =>
      wp_walk
      exact ⟨rfl, i + 1, e2, hm, q2.1 rfl⟩
    | false =>
      wp_walk
      exact q2.2 rfl
  case fin =>
    rintro ⟨b1, b2⟩ s' ⟨hb', i, hz, hi, hI⟩
    simp only at hb'
    subst hb'
    have hge : min items.size items2.size ≤ i := by
      rcases Nat.lt_or_ge i (items.toList.zip items2.toList).length with k | k
      · rw [List.drop_eq_getElem_cons k] at hz; cases hz
      · exact hZ ▸ k
    obtain rfl : i = min items.size items2.size := Nat.le_antisymm hi hge
    have q := fin s' hI
    wp_walk
    simpa [Builtin.Tuple.tupleCompareSizes] using q
  case h => exact ⟨rfl, 0, rfl, Nat.zero_le _, hT⟩
end
/-- == of two values gives b, and only makes objects -/
def EqB (X : Cx) (n : Nat) (H : Hp) (x y : V) (b : Bool) : Prop :=
  ∀ (A : Around) (pins : List (Addr × Obj)) (s : Shared) (σ : St) (H1 : Hp) (u v : Value), Sub X n A → Ext H H1 → Inv X pins σ H1 s → RelV x u → RelV y v →
    wpAny (model X.prog X.w) A (eqBool u v) (fun r s' => r = b ∧ LoopI X pins σ H1 s') X.xe s
def RcB (X : Cx) (n : Nat) (H : Hp) (x y : V) (b : Bool) : Prop :=
  ∀ (A : Around) (pins : List (Addr × Obj)) (s : Shared) (σ : St) (H1 : Hp) (u v : Value), Sub X n A → Ext H H1 → Inv X pins σ H1 s → RelV x u → RelV y v →
    wpAny (model X.prog X.w) A (richCompare .Eq u v) (fun r s' => r = .bool b ∧ LoopI X pins σ H1 s') X.xe s
section
variable {X : Cx} {n : Nat} {H : Hp}
theorem EqB.mono {m : Nat} {x y : V} {b : Bool} (h : EqB X n H x y b) (k : n ≤ m) : EqB X m H x y b := fun A pins s σ H1 u v sb => h A pins s σ H1 u v (sb.mono k)
theorem RcB.mono {m : Nat} {x y : V} {b : Bool} (h : RcB X n H x y b) (k : n ≤ m) : RcB X m H x y b := fun A pins s σ H1 u v sb => h A pins s σ H1 u v (sb.mono k)
theorem eqB_flat {x y : V} (fx : flatV x = true) (fy : flatV y = true) : EqB X 0 H x y (eqV x y) := fun A pins s σ H1 u v sb e I rx ry => eqAt_V (A := A) (s := s) rx ry fx fy X.prog X.w X.xe _ ⟨rfl, H1, I, Ext.rfl'⟩
/-- from a rich comparison of two different objects; the same object is equal to itself -/
theorem eqB_ref {a c : Addr} {b : Bool} (h : RcB X n H (.ref a) (.ref c) b) (hs : a = c → b = true) : EqB X n H (.ref a) (.ref c) b := fun A pins s σ H1 u v sb e I rx ry => by
  cases rx
  cases ry
  by_cases hac : a = c
  · subst hac
    exact SeqAt.EqAt.same (A := A) (s := s) (.ref a) X.prog X.w X.xe _ ⟨(hs rfl).symm, H1, I, Ext.rfl'⟩
  · refine GQ.eqBool_refG hac (wpAny_mono (h A pins s σ H1 _ _ sb e I rfl rfl) (fun r s' q => ?_) fun _ _ x => x)
    exact ⟨b, q.1, rfl, q.2⟩
/-- pair by pair, up to the first that differs -/
inductive EqsB (X : Cx) (n : Nat) (H : Hp) : List V → List V → Bool → Prop
  | nil : EqsB X n H [] [] true
  | left {y : V} {ys : List V} : EqsB X n H [] (y :: ys) false
  | right {x : V} {xs : List V} : EqsB X n H (x :: xs) [] false
  | ne {x y : V} {xs ys : List V} : EqB X n H x y false → EqsB X n H (x :: xs) (y :: ys) false
  | eq {x y : V} {xs ys : List V} {b : Bool} : EqB X n H x y true → EqsB X n H xs ys b → EqsB X n H (x :: xs) (y :: ys) b
theorem EqsB.drop {xs ys : List V} {b : Bool} {i : Nat} (h : EqsB X n H (xs.drop i) (ys.drop i) b) {x y : V} (hx : xs[i]? = some x) (hy : ys[i]? = some y) : (b = false ∧ EqB X n H x y false) ∨ (EqB X n H x y true ∧ EqsB X n H (xs.drop (i + 1)) (ys.drop (i + 1)) b) := by
  obtain ⟨h1, rfl⟩ := List.getElem?_eq_some_iff.mp hx
  obtain ⟨h2, rfl⟩ := List.getElem?_eq_some_iff.mp hy
  rw [List.drop_eq_getElem_cons h1, List.drop_eq_getElem_cons h2] at h
  cases h with
  | ne h => exact .inl ⟨rfl, h⟩
  | eq h h' => exact .inr ⟨h, h'⟩
theorem EqsB.fin {xs ys : List V} {b : Bool} {i : Nat} (h : EqsB X n H (xs.drop i) (ys.drop i) b) (hi : i = min xs.length ys.length) : b = (xs.length == ys.length) := by
  have e1 : (xs.drop i).length = xs.length - i := List.length_drop
  have e2 : (ys.drop i).length = ys.length - i := List.length_drop
  generalize xs.drop i = p at *
  generalize ys.drop i = q at *
  cases h with
  | nil =>
    simp only [List.length_nil] at e1 e2
    have : xs.length = ys.length := by omega
    rw [this, beq_self_eq_true]
  | left =>
    simp only [List.length_nil, List.length_cons] at e1 e2
    have : ¬ xs.length = ys.length := by omega
    exact (beq_eq_false_iff_ne.mpr this).symm
  | right =>
    simp only [List.length_nil, List.length_cons] at e1 e2
    have : ¬ xs.length = ys.length := by omega
    exact (beq_eq_false_iff_ne.mpr this).symm
  | ne _ => simp only [List.length_cons] at e1 e2; omega
  | eq _ _ => simp only [List.length_cons] at e1 e2; omega
theorem rcB_tup {a c : Addr} {xs ys : List V} {b : Bool} (ha : H a = some (.tup xs)) (hc : H c = some (.tup ys)) (h : EqsB X n H xs ys b) : RcB X (n + 1) H (.ref a) (.ref c) b := fun A pins s σ H1 u v sb e I rx ry => by
  cases rx
  cases ry
  obtain ⟨its, r, ⟨⟨cls, dd, data, sl⟩, ho, hc1, m, hd⟩, z⟩ := I.tuple (.inl (.inl (e _ _ ha)))
  obtain ⟨its2, r2, ⟨⟨cls2, dd2, data2, sl2⟩, ho2, hc2, m2, hd2⟩, z2⟩ := I.tuple (.inl (.inl (e _ _ hc)))
  simp only at hc1 hd hc2 hd2
  subst hc1 hd hc2 hd2
  refine wpAny_richCompare_same_room (op := .Eq) ⟨_, ho, rfl⟩ ⟨_, ho2, rfl⟩ F.slot_tuple_eq (GQ.call_here F.slot_tuple_eq ⟨_, ho, rfl⟩ F.entry_tuple_eq (F.args_tuple_eq_2 _ _) ?_) sb.room.units0
  refine tup_turns (R := wants (fun v s' => v ≠ .notImplemented ∧ (v = .bool b ∧ LoopI X pins σ H1 s')) X.xe) a c its.toArray its2.toArray m m2 dd dd2 sl sl2 (fun i s' => EqsB X n H (xs.drop i) (ys.drop i) b ∧ LoopI X pins σ H1 s') (fun i h1 h2 s1 t => ?_) (fun s1 t => ?_) ho ho2 ⟨h, H1, I, Ext.rfl'⟩
  · obtain ⟨t, H2, I2, x2⟩ := t
    have h1' : i < its.length := by simpa using h1
    have h2' : i < its2.length := by simpa using h2
    have g1 : its[i]? = some its.toArray[i] := by rw [List.getElem?_eq_getElem h1'] <;> simp
    have g2 : its2[i]? = some its2.toArray[i] := by rw [List.getElem?_eq_getElem h2'] <;> simp
    have k1 : i < xs.length := by rw [r.length]; exact h1'
    have k2 : i < ys.length := by rw [r2.length]; exact h2'
    obtain ⟨u, hu, ru⟩ := r.get (List.getElem?_eq_getElem k1)
    obtain ⟨v, hv, rv⟩ := r2.get (List.getElem?_eq_getElem k2)
    rw [g1] at hu
    rw [g2] at hv
    rw [Option.some.inj hu, Option.some.inj hv]
    rcases t.drop (List.getElem?_eq_getElem k1) (List.getElem?_eq_getElem k2) with ⟨rfl, q⟩ | ⟨q, t'⟩
    · refine wpAny_mono (q A.in1 pins s1 σ H2 u v sb.in1 (e.trans x2) I2 ru rv) (fun r s2 z => ⟨fun hr => ?_, fun hr => ?_⟩) fun _ _ x => x
      · rw [z.1] at hr; cases hr
      · obtain ⟨_, H3, I3, x3⟩ := z
        exact ⟨(fun x => nomatch x), rfl, H3, I3, x2.trans x3⟩
    · refine wpAny_mono (q A.in1 pins s1 σ H2 u v sb.in1 (e.trans x2) I2 ru rv) (fun r s2 z => ⟨fun hr => ?_, fun hr => ?_⟩) fun _ _ x => x
      · obtain ⟨_, H3, I3, x3⟩ := z
        exact ⟨t', H3, I3, x2.trans x3⟩
      · rw [z.1] at hr; cases hr
  · obtain ⟨t, l⟩ := t
    have e1 : its.toArray.size = xs.length := by rw [List.size_toArray, r.length]
    have e2 : its2.toArray.size = ys.length := by rw [List.size_toArray, r2.length]
    refine ⟨(fun x => nomatch x), ?_, l⟩
    rw [e1, e2] at t ⊢
    rw [t.fin rfl]
end
/-! ### by data -/
/-- a fraction -/
abbrev rD (n d : Int) : D := .ins 0 [.int n, .int d]
def flatD : D → Bool
  | .non => true
  | .bl _ => true
  | .int _ => true
  | .str _ => true
  | _ => false
def eqF : D → D → Bool
  | .non, .non => true
  | .bl a, .bl b => a == b
  | .bl a, .int b => (if a then 1 else 0) == b
  | .int a, .bl b => a == (if b then 1 else 0)
  | .int a, .int b => a == b
  | .str a, .str b => a == b
  | _, _ => false
theorem flat_rep {G : Gd} {U : Addr → Prop} {H : Hp} {d : D} {x : V} (h : Rep G U H d x) (f : flatD d = true) : flatV x = true := by
  cases d with
  | non => cases (show x = .non from h); rfl
  | bl b => cases (show x = .bl b from h); rfl
  | int i => cases (show x = .int i from h); rfl
  | str z => obtain ⟨rfl, _⟩ := h; rfl
  | _ => cases f
theorem eqF_rep {G : Gd} {U : Addr → Prop} {H : Hp} {d e : D} {x y : V} (h : Rep G U H d x) (h' : Rep G U H e y) (f : flatD d = true) (f' : flatD e = true) : eqV x y = eqF d e := by
  cases d with
  | non =>
    cases (show x = .non from h)
    cases e with
    | non => cases (show y = .non from h'); rfl
    | bl b => cases (show y = .bl b from h'); rfl
    | int i => cases (show y = .int i from h'); rfl
    | str z => obtain ⟨rfl, _⟩ := h'; rfl
    | _ => cases f'
  | bl b =>
    cases (show x = .bl b from h)
    cases e with
    | non => cases (show y = .non from h'); rfl
    | bl b => cases (show y = .bl b from h'); rfl
    | int i => cases (show y = .int i from h'); rfl
    | str z => obtain ⟨rfl, _⟩ := h'; rfl
    | _ => cases f'
  | int i =>
    cases (show x = .int i from h)
    cases e with
    | non => cases (show y = .non from h'); rfl
    | bl b => cases (show y = .bl b from h'); rfl
    | int i => cases (show y = .int i from h'); rfl
    | str z => obtain ⟨rfl, _⟩ := h'; rfl
    | _ => cases f'
  | str z =>
    obtain ⟨rfl, _⟩ := h
    cases e with
    | non => cases (show y = .non from h'); rfl
    | bl b => cases (show y = .bl b from h'); rfl
    | int i => cases (show y = .int i from h'); rfl
    | str z => obtain ⟨rfl, _⟩ := h'; rfl
    | _ => cases f'
  | _ => cases f
/-- a fraction's own == -/
def qR : D → D → Option Bool
  | .ins 0 [.int n, .int d], .ins 0 [.int n', .int d'] => some (n == n' && d == d')
  | .ins 0 [.int _, .int _], .non => some false
  | .ins 0 [.int _, .int _], .bl _ => some false
  | .ins 0 [.int _, .int _], .int _ => some false
  | .ins 0 [.int _, .int _], .str _ => some false
  | .ins 0 [.int _, .int _], .tup _ => some false
  | .ins 0 [.int _, .int _], .lst _ => some false
  | _, _ => none
def eqvL (f : D → D → Option Bool) : List D → List D → Option Bool
  | [], [] => some true
  | x :: xs, y :: ys => match f x y with
    | some true => eqvL f xs ys
    | some false => some false
    | none => none
  | _, _ => some false
def eqv : Nat → D → D → Option Bool
  | 0, d, e => if (flatD d && flatD e) = true then some (eqF d e) else qR d e
  | n + 1, d, e => if (flatD d && flatD e) = true then some (eqF d e) else match d, e with
    | .tup xs, .tup ys => eqvL (eqv n) xs ys
    | d, e => qR d e
/-- the types beside which an own operator stands -/
def tyNames : List String := ["NoneType", "bool", "int", "str", "tuple", "list"]
/-- a fraction's own ==, as the top has made it -/
structure OwnEq (G : Wd) (m : Mt) : Prop where
  mt : MtD G m
  c0 : m.c = 0
  n2 : m.n = 2
  nm : m.name = "__eq__"
  me : PySem.W.notFirst G.K (G.cl 0) (.ref (G.cl 0)) = true
  ty : ∀ T ∈ tyNames, PySem.W.notFirst G.K (G.cl 0) (.type T) = true
  q : ∀ d e b s, qR d e = some b → m.g [d, e] s = .ok (.bl b) s
theorem Gr.ext {G : Gd} {H H' : Hp} {s : S} (g : Gr G H H') (h : StAt G H s) (h' : StAt G H' s) : Ext H H' := fun a o e => by
  by_cases z : a = G.sa
  · subst z
    rw [show H G.sa = _ from h] at e
    rw [show H' G.sa = _ from h']
    exact e
  · exact g a o z e
theorem Ext.gr {G : Gd} {H H' : Hp} (e : Ext H H') : Gr G H H' := fun a o _ h => e a o h
theorem Ext.pre {G : Gd} {U : Addr → Prop} {H H' : Hp} {s : S} (e : Ext H H') (p : PreH G U H s) : PreH G U H' s := p.stay (Ext.gr e) (e _ _ p.st)
theorem Ext.rep {G : Gd} {U : Addr → Prop} {H H' : Hp} {d : D} {v : V} (e : Ext H H') (r : Rep G U H d v) : Rep G U H' d v := r.stay fun a o _ h => e a o h
theorem qR_ins {d e : D} {b : Bool} (h : qR d e = some b) : ∃ n m, d = rD n m := by
  unfold qR at h
  split at h <;> first | exact ⟨_, _, rfl⟩ | cases h
theorem qR_same {G : Gd} {U : Addr → Prop} {H : Hp} {d e : D} {x : V} {b : Bool} (hq : qR d e = some b) (rd : Rep G U H d x) (re : Rep G U H e x) : b = true := by
  obtain ⟨n, dd, rfl⟩ := qR_ins hq
  obtain ⟨a, dx, vs, rfl, nu, ha, hl, rl⟩ := id rd
  cases e with
  | non => cases (show V.ref a = .non from re)
  | bl _ => cases (show V.ref a = .bl _ from re)
  | int _ => cases (show V.ref a = .int _ from re)
  | str _ => obtain ⟨h, _⟩ := re; cases h
  | tup ys =>
    obtain ⟨c, ws, h, _, hc, _⟩ := re
    cases h
    rw [ha] at hc
    cases hc
  | lst ys =>
    obtain ⟨c, ws, h, _, hc, _⟩ := re
    cases h
    rw [ha] at hc
    cases hc
  | ins c ys =>
    obtain ⟨c2, dy, ws, h, _, hc, hl2, rl2⟩ := re
    cases h
    rw [ha] at hc
    injection hc with hc
    injection hc with h1 h2 h3
    cases c with
    | succ c => cases hq
    | zero =>
      have key : vs = ws := by
        have z1 := congrArg (List.map (·.2)) h3
        rw [List.map_snd_zip (by omega), List.map_snd_zip (by omega)] at z1
        exact z1
      subst key
      obtain ⟨v1, r1, rfl, e1, v2, r2, rfl, e2, e3⟩ := rl
      cases ys with
      | nil => cases hq
      | cons y1 ys =>
        obtain ⟨_, _, h3, g1, g2⟩ := rl2
        cases h3
        cases ys with
        | nil => cases y1 <;> cases hq
        | cons y2 ys =>
          obtain ⟨_, _, h3, g3, g4⟩ := g2
          cases h3
          cases (show v1 = .int n from e1)
          cases (show v2 = .int dd from e2)
          cases ys with
          | cons _ _ => cases y1 <;> cases y2 <;> cases hq
          | nil =>
            cases y1 with
            | int i =>
              cases y2 with
              | int j =>
                cases (show V.int n = .int i from g1)
                cases (show V.int dd = .int j from g3)
                have hq : some (n == n && dd == dd) = some b := hq
                simpa using (Option.some.inj hq).symm
              | _ => cases hq
            | _ => cases hq
  | _ => cases hq
theorem eqV_self {x : V} (f : flatV x = true) : eqV x x = true := by
  cases x with
  | non => rfl
  | bl b => exact beq_self_eq_true b
  | int i => exact beq_self_eq_true i
  | str z => exact beq_self_eq_true z
  | _ => cases f
theorem eqv_same {G : Gd} {U : Addr → Prop} {H : Hp} : ∀ (n : Nat) (d e : D) (x : V) (b : Bool), eqv n d e = some b → Rep G U H d x → Rep G U H e x → b = true
  | 0, d, e, x, b, h, rd, re => by
    unfold eqv at h
    split at h
    · rename_i c
      rw [Bool.and_eq_true] at c
      cases h
      rw [← eqF_rep rd re c.1 c.2]
      exact eqV_self (flat_rep rd c.1)
    · exact qR_same h rd re
  | n + 1, d, e, x, b, h, rd, re => by
    unfold eqv at h
    split at h
    · rename_i c
      rw [Bool.and_eq_true] at c
      cases h
      rw [← eqF_rep rd re c.1 c.2]
      exact eqV_self (flat_rep rd c.1)
    · split at h
      · obtain ⟨a, vs, rfl, _, ha, _, ra⟩ := rd
        obtain ⟨c, ws, h', _, hc, _, rc⟩ := re
        cases h'
        rw [ha] at hc
        cases hc
        have rows : ∀ (xs ys : List D) (vs : List V) (b : Bool), RepL G U H xs vs → RepL G U H ys vs → eqvL (eqv n) xs ys = some b → b = true := by
          intro xs
          induction xs with
          | nil =>
            intro ys vs b r1 r2 h
            cases (show vs = [] from r1)
            cases ys with
            | nil => cases h; rfl
            | cons y ys => obtain ⟨w, r, z, _⟩ := r2; cases z
          | cons x xs ih =>
            intro ys vs b r1 r2 h
            obtain ⟨v, r, rfl, q1, q2⟩ := r1
            cases ys with
            | nil => cases (show _ = [] from r2)
            | cons y ys =>
              obtain ⟨w, r', z, z1, z2⟩ := r2
              cases z
              unfold eqvL at h
              cases e : eqv n x y with
              | none => rw [e] at h; cases h
              | some b' =>
                cases eqv_same n x y v b' e q1 z1
                rw [e] at h
                exact ih ys r b q2 z2 h
        exact rows _ _ vs b ra rc h
      · exact qR_same h rd re
def TyLk (G : Wd) (X : Cx) (h : Heap) (v : Value) : D → Prop
  | .non => PySem.W.Looks (model X.prog X.w) h (typeOf v) (.type "NoneType")
  | .bl _ => PySem.W.Looks (model X.prog X.w) h (typeOf v) (.type "bool")
  | .int _ => PySem.W.Looks (model X.prog X.w) h (typeOf v) (.type "int")
  | .str _ => PySem.W.Looks (model X.prog X.w) h (typeOf v) (.type "str")
  | .tup _ => PySem.W.Looks (model X.prog X.w) h (typeOf v) (.type "tuple")
  | .lst _ => PySem.W.Looks (model X.prog X.w) h (typeOf v) (.type "list")
  | .ins c _ => PySem.W.Looks (model X.prog X.w) h (typeOf v) (.ref (G.cl c))
  | _ => True
/-- the type of what bears a datum -/
theorem rep_ty {G : Wd} {X : Cx} {U : Addr → Prop} {H : Hp} {d : D} {x : V} {v : Value} {pins : List (Addr × Obj)} {σ : St} {s : Shared} (I : Inv X pins σ H s) (r : Rep G.g U H d x) (rv : RelV x v) : TyLk G X s.heap v d := by
  cases d with
  | non => cases (show x = .non from r); cases rv; exact .of_pure rfl
  | bl b => cases (show x = .bl b from r); cases rv; exact .of_pure rfl
  | int i => cases (show x = .int i from r); obtain ⟨t, rfl⟩ := rv; exact .of_pure rfl
  | str z => obtain ⟨rfl, _⟩ := r; obtain ⟨t, rfl⟩ := rv; exact .of_pure rfl
  | tup xs =>
    obtain ⟨a, vs, rfl, _, hl, _, _⟩ := r
    cases rv
    obtain ⟨its, _, ⟨o, ho, hc, _⟩, _⟩ := I.tuple (.inl (.inl hl))
    exact fun A Q E s' k q => wpAny_typeOf_ref (k _ _ ho) (by rw [hc]; exact q)
  | lst xs =>
    obtain ⟨a, vs, rfl, _, hl, _, _⟩ := r
    cases rv
    obtain ⟨its, _, ⟨o, n, ho, hc, _⟩, _⟩ := I.list (.inl (.inl hl))
    exact fun A Q E s' k q => wpAny_typeOf_ref (k _ _ ho) (by rw [hc]; exact q)
  | ins c xs =>
    obtain ⟨a, dx, vs, rfl, _, ha, _, _⟩ := r
    cases rv
    obtain ⟨mA, J, _⟩ := ins_get I.hok ha
    obtain ⟨od, J, _⟩ := J.look
    exact J.type
  | _ => trivial
section
variable {G : Wd} {X : Cx} {W : XK} {N : List Str} {k : Nat} {m : Mt}
theorem rcB_own (hX : XOk G X N W k) (hm : OwnEq G m) {U : Addr → Prop} {H : Hp} {st : S} {d e : D} {x y : V} {b : Bool} (p : PreH G.g U H st) (rd : Rep G.g U H d x) (re : Rep G.g U H e y) (hq : qR d e = some b) : RcB X m.lvl H x y b := fun A pins s σ H1 u v sb ex I rx ry => by
  have g := hm.q d e b st hq
  obtain ⟨n, dd, rfl⟩ := qR_ins hq
  have rd1 := Ext.rep ex rd
  have re1 := Ext.rep ex re
  have p1 := Ext.pre ex p
  have ty := rep_ty (G := G) I re1 ry
  obtain ⟨hn, cl, f, fd, ps, F, me, hb⟩ := hm.mt
  rw [← hX.prog, ← hX.w, ← hX.K, ← hX.mg, ← hX.base] at F
  rw [← hX.K] at cl me hb
  have me1 : PySem.W.findIn X.K (.ref (G.cl 0)) "__eq__" = some (some (.ref f)) := by
    have := me.at_
    rw [hm.nm, hm.c0] at this
    exact this
  obtain ⟨tb, htb, hnf⟩ : ∃ tb, PySem.W.Looks (model X.prog X.w) s.heap (typeOf v) tb ∧ PySem.W.notFirst X.K (G.cl 0) tb = true := by
    rw [hX.K]
    cases e with
    | non => exact ⟨_, ty, hm.ty _ (by decide)⟩
    | bl _ => exact ⟨_, ty, hm.ty _ (by decide)⟩
    | int _ => exact ⟨_, ty, hm.ty _ (by decide)⟩
    | str _ => exact ⟨_, ty, hm.ty _ (by decide)⟩
    | tup _ => exact ⟨_, ty, hm.ty _ (by decide)⟩
    | lst _ => exact ⟨_, ty, hm.ty _ (by decide)⟩
    | ins c xs =>
      cases c with
      | zero => exact ⟨_, ty, hm.me⟩
      | succ c => cases hq
    | _ => cases hq
  obtain ⟨a, dx, vs, rfl, nu, ha, hl, rl⟩ := id rd1
  cases rx
  obtain ⟨mA, J, _⟩ := ins_get I.hok ha
  obtain ⟨od, J, _⟩ := J.look
  obtain ⟨mf, hF⟩ := I.fr
  refine PySem.W.cmp_K (op := .Eq) (tb := tb) sb.room.units0 hF I.ok.mod.kin J htb hnf me1 me.fn ?_
  have hsp : SpD G.g m.n m.g [.ref a, y] H1 (fun v H' => v = .bl b ∧ Ext H1 H') W := by
    refine ⟨by rw [hm.n2]; rfl, [rD n dd, e], st, U, p1, .cons rd1 (.cons re1 .nil), ?_⟩
    rw [g]
    exact fun z H' gr hst rz => ⟨rz, gr.ext p1.st hst⟩
  have e0 : Env0 X.prog X.w X.K X.mg X.base A X.stack s H1 := by
    have e := I.env0
    exact ⟨by rw [sb.fr]; exact e.frames, e.mod, e.bs, e.bsz, e.funs, e.frf, e.hok, e.bare⟩
  have hl := F.len _ _ _ _ hsp
  have r2 : Vals [V.ref a, y] [Value.ref a, v] := .cons rfl (.cons ry .nil)
  refine wpAny_call (codeAny_mono (F.run A X.stack s H1 ⟨[.ref a, v], []⟩ [.ref a, v] [.ref a, y] _ W sb.room e0 (by
    have := hb s [.ref a, v] I.kIn (by simpa using hl)
    simpa using this) r2 hsp) fun r s' hq => ?_)
  cases r with
  | error er => exact hX.passes pins σ H1 s er s' I hq
  | ok fl =>
    cases fl with
    | ret w =>
      obtain ⟨z, H', I', rz, ez, ex'⟩ := I.after hq
      subst ez
      cases rz
      exact ⟨rfl, H', I', ex'⟩
    | next => exact False.elim hq
    | brk => exact False.elim hq
    | cont => exact False.elim hq
theorem eqB_own (hX : XOk G X N W k) (hm : OwnEq G m) {U : Addr → Prop} {H : Hp} {st : S} {d e : D} {x y : V} {b : Bool} (p : PreH G.g U H st) (rd : Rep G.g U H d x) (re : Rep G.g U H e y) (hq : qR d e = some b) : EqB X m.lvl H x y b := by
  have h := rcB_own hX hm p rd re hq
  obtain ⟨n, dd, rfl⟩ := qR_ins hq
  obtain ⟨a, dx, vs, rfl, nu, ha, hl, rl⟩ := id rd
  have other : ∀ z : V, flatV z = true → RcB X m.lvl H (.ref a) z b → EqB X m.lvl H (.ref a) z b := fun z fz h A pins s σ H1 u v sb ex I rx ry => by
    cases rx
    unfold eqBool
    refine wpAny_holding ?_
    refine wpAny_ite_split (fun hab => ?_) (fun _ => ?_)
    · cases z <;> first | cases fz | skip
      · cases ry; cases hab
      · cases ry; cases hab
      · obtain ⟨t, rfl⟩ := ry; cases hab
      · obtain ⟨t, rfl⟩ := ry; cases hab
    · refine wpAny_bind (wpAny_mono (h A pins s σ H1 _ v sb ex I rfl ry) (fun r s' q => ?_) fun _ _ x => x)
      obtain ⟨rfl, q⟩ := q
      exact wpAny_truthy_bool ⟨rfl, q⟩
  cases e with
  | non => cases (show y = .non from re); exact other _ rfl h
  | bl _ => cases (show y = .bl _ from re); exact other _ rfl h
  | int _ => cases (show y = .int _ from re); exact other _ rfl h
  | str _ => obtain ⟨rfl, _⟩ := re; exact other _ rfl h
  | tup ys =>
    obtain ⟨c, ws, rfl, _, hc, _⟩ := re
    exact eqB_ref h fun e => by subst e; rw [ha] at hc; cases hc
  | lst ys =>
    obtain ⟨c, ws, rfl, _, hc, _⟩ := re
    exact eqB_ref h fun e => by subst e; rw [ha] at hc; cases hc
  | ins c ys =>
    have re' := re
    obtain ⟨c2, dy, ws, rfl, _, hc, hl2, rl2⟩ := re
    exact eqB_ref h fun e => by subst e; exact qR_same hq rd re'
  | _ => cases hq
theorem eqv_ok (hX : XOk G X N W k) (hm : OwnEq G m) {U : Addr → Prop} {H : Hp} {st : S} (p : PreH G.g U H st) : ∀ (n : Nat) (d e : D) (x y : V) (b : Bool), Rep G.g U H d x → Rep G.g U H e y → eqv n d e = some b → EqB X (m.lvl + n) H x y b
  | 0, d, e, x, y, b, rd, re, h => by
    unfold eqv at h
    split at h
    · rename_i c
      rw [Bool.and_eq_true] at c
      cases h
      rw [← eqF_rep rd re c.1 c.2]
      exact (eqB_flat (flat_rep rd c.1) (flat_rep re c.2)).mono (Nat.zero_le _)
    · exact eqB_own hX hm p rd re h
  | n + 1, d, e, x, y, b, rd, re, h => by
    unfold eqv at h
    split at h
    · rename_i c
      rw [Bool.and_eq_true] at c
      cases h
      rw [← eqF_rep rd re c.1 c.2]
      exact (eqB_flat (flat_rep rd c.1) (flat_rep re c.2)).mono (Nat.zero_le _)
    · split at h
      · rename_i xs ys
        obtain ⟨a, vs, rfl, _, ha, _, ra⟩ := rd
        obtain ⟨c, ws, rfl, _, hc, _, rc⟩ := re
        have rows : ∀ (xs ys : List D) (vs ws : List V) (b : Bool), RepL G.g U H xs vs → RepL G.g U H ys ws → eqvL (eqv n) xs ys = some b → EqsB X (m.lvl + n) H vs ws b := by
          intro xs
          induction xs with
          | nil =>
            intro ys vs ws b r1 r2 h
            cases (show vs = [] from r1)
            cases ys with
            | nil => cases (show ws = [] from r2); cases h; exact .nil
            | cons y ys => obtain ⟨w, r, rfl, _⟩ := r2; cases h; exact .left
          | cons x xs ih =>
            intro ys vs ws b r1 r2 h
            obtain ⟨v, r, rfl, q1, q2⟩ := r1
            cases ys with
            | nil => cases (show ws = [] from r2); cases h; exact .right
            | cons y ys =>
              obtain ⟨w, r', rfl, z1, z2⟩ := r2
              unfold eqvL at h
              cases e : eqv n x y with
              | none => rw [e] at h; cases h
              | some b' =>
                rw [e] at h
                cases b' with
                | true => exact .eq (eqv_ok hX hm p n x y v w true q1 z1 e) (ih ys r r' b q2 z2 h)
                | false => cases h; exact .ne (eqv_ok hX hm p n x y v w false q1 z1 e)
        have same : ∀ (xs ys : List D) (vs : List V) (b : Bool), RepL G.g U H xs vs → RepL G.g U H ys vs → eqvL (eqv n) xs ys = some b → b = true := by
          intro xs
          induction xs with
          | nil =>
            intro ys vs b r1 r2 h
            cases (show vs = [] from r1)
            cases ys with
            | nil => cases h; rfl
            | cons y ys => obtain ⟨w, r, z, _⟩ := r2; cases z
          | cons x xs ih =>
            intro ys vs b r1 r2 h
            obtain ⟨v, r, rfl, q1, q2⟩ := r1
            cases ys with
            | nil => cases (show _ = [] from r2)
            | cons y ys =>
              obtain ⟨w, r', z, z1, z2⟩ := r2
              cases z
              unfold eqvL at h
              cases e : eqv n x y with
              | none => rw [e] at h; cases h
              | some b' =>
                cases eqv_same n x y v b' e q1 z1
                rw [e] at h
                exact ih ys r b q2 z2 h
        have es := rows _ _ vs ws b ra rc h
        refine eqB_ref (rcB_tup ha hc es) fun e => ?_
        subst e
        rw [ha] at hc
        cases hc
        exact same _ _ vs b ra rc h
      · exact (eqB_own hX hm p rd re h).mono (Nat.le_add_right _ _)
theorem eqvL_ok (hX : XOk G X N W k) (hm : OwnEq G m) {U : Addr → Prop} {H : Hp} {st : S} (p : PreH G.g U H st) (n : Nat) : ∀ {xs ys : List D} {vs ws : List V} {b : Bool}, RepL G.g U H xs vs → RepL G.g U H ys ws → eqvL (eqv n) xs ys = some b → EqsB X (m.lvl + n) H vs ws b
  | [], ys, vs, ws, b, r1, r2, h => by
    cases (show vs = [] from r1)
    cases ys with
    | nil => cases (show ws = [] from r2); cases h; exact .nil
    | cons y ys => obtain ⟨w, r, rfl, _⟩ := r2; cases h; exact .left
  | x :: xs, ys, vs, ws, b, r1, r2, h => by
    obtain ⟨v, r, rfl, q1, q2⟩ := r1
    cases ys with
    | nil => cases (show ws = [] from r2); cases h; exact .right
    | cons y ys =>
      obtain ⟨w, r', rfl, z1, z2⟩ := r2
      unfold eqvL at h
      cases e : eqv n x y with
      | none => rw [e] at h; cases h
      | some b' =>
        rw [e] at h
        cases b' with
        | true => exact .eq (eqv_ok hX hm p n x y v w true q1 z1 e) (eqvL_ok hX hm p n q2 z2 h)
        | false => cases h; exact .ne (eqv_ok hX hm p n x y v w false q1 z1 e)
end
end Dn
/-! DnOp: operators, comparisons, built-ins and isinstance over plain data. -/
namespace Dn
open PySem L2
section
variable {G : Wd} {X : Cx} {W : XK}
/-- an operator, case by case -/
theorem Op2.of {f : Value → Value → Sem Value} {g : D → D → M D}
    (h : ∀ (pins : List (Addr × Obj)) (s : Shared) (σ : St) (H : Hp) (x y : V) (v u : Value) (Q : VK) (U : Addr → Prop) (z : S) (d e : D), Inv X pins σ H s → RelV x v → RelV y u → PreH G.g U H z → Rep G.g U H d x → Rep G.g U H e y → PostD G.g U H W (g d e z) Q →
      wpAny (model X.prog X.w) X.A (f v u) (EP X pins σ Q) X.xe s) : Op2 G X W f g :=
  ⟨fun x y H Q => ∃ U z d e, PreH G.g U H z ∧ Rep G.g U H d x ∧ Rep G.g U H e y ∧ PostD G.g U H W (g d e z) Q, fun pins s σ H x y v u Q I rx ry ⟨U, z, d, e, p, r1, r2, q⟩ => h pins s σ H x y v u Q U z d e I rx ry p r1 r2 q,
    fun U H s d e v u Q p r1 r2 q => ⟨U, s, d, e, p, r1, r2, q⟩⟩
theorem Op1.of {f : Value → Sem Value} {g : D → M D}
    (h : ∀ (pins : List (Addr × Obj)) (s : Shared) (σ : St) (H : Hp) (x : V) (v : Value) (Q : VK) (U : Addr → Prop) (z : S) (d : D), Inv X pins σ H s → RelV x v → PreH G.g U H z → Rep G.g U H d x → PostD G.g U H W (g d z) Q → wpAny (model X.prog X.w) X.A (f v) (EP X pins σ Q) X.xe s) : Op1 G X W f g :=
  ⟨fun x H Q => ∃ U z d, PreH G.g U H z ∧ Rep G.g U H d x ∧ PostD G.g U H W (g d z) Q, fun pins s σ H x v Q I rx ⟨U, z, d, p, r1, q⟩ => h pins s σ H x v Q U z d I rx p r1 q, fun U H s d v Q p r1 q => ⟨U, s, d, p, r1, q⟩⟩
end
/-! ### an own operator -/
/-- an operator that a class defines, as the top has made it -/
structure OwnB (G : Wd) (op : Operator) (m : Mt) : Prop where
  mt : MtD G m
  n2 : m.n = 2
  nm : m.name = PySem.dunder op.info.2
  first : PySem.W.selfFirst G.K (G.cl m.c) = true
  back : ∃ rc, PySem.W.findIn G.K (.ref (G.cl m.c)) (PySem.dunderR op.info.2) = some rc ∧ (rc = none ∨ ∃ g : Addr, rc = some (.ref g))
  ty : ∀ T ∈ tyNames, (∃ fo, PySem.W.findIn G.K (.type T) (PySem.dunder op.info.2) = some fo) ∧ (∃ ro, PySem.W.findIn G.K (.type T) (PySem.dunderR op.info.2) = some ro) ∧ PySem.W.subIn G.K (.type T) (.ref (G.cl m.c)) = some false
def tyD (c : Nat) : D → Bool
  | .non => true
  | .bl _ => true
  | .int _ => true
  | .str _ => true
  | .tup _ => true
  | .lst _ => true
  | .ins c' _ => c' == c
  | _ => false
def ownD (m : Mt) (d e : D) : M D := if (isIns m.c d && tyD m.c e) = true then m.g [d, e] else bad
section
open PySem.W
variable {prog : Program} {w : World} {A : Around} {E : Value → Shared → Prop} {s : Shared} {K : Frag} {x C f L : Addr} {h₀ : Heap} {mg : Str → Option Value} {ox : Obj} {od : Option Obj} {T : String}
/-- an instance and a value of a built-in type -/
theorem own_beside {op : Operator} {b : Value} {fo ro rc : Option Value} {Q : Value → Shared → Prop} (X : K.In s.heap) (I : InstAt s.heap x ox C od) (hb : Looks (model prog w) s.heap (typeOf b) (.type T)) (hc : selfFirst K C = true)
    (hs : findIn K (.ref C) (PySem.dunder op.info.2) = some (some (.ref f))) (hf : isFn K (.ref f) = true) (hr : findIn K (.ref C) (dunderR op.info.2) = some rc) (hp : rc = none ∨ ∃ g : Addr, rc = some (.ref g))
    (h1 : findIn K (.type T) (PySem.dunder op.info.2) = some fo) (h2 : findIn K (.type T) (dunderR op.info.2) = some ro) (hsub : subIn K (.type T) (.ref C) = some false)
    (h : wpAny (model prog w) A (call (.ref f) [.ref x, b]) (CmpBack Q) E s) : wpAny (model prog w) A (binaryOp op (.ref x) b) Q E s := by
  obtain ⟨cd, rest, hcd, hm⟩ := ksp_first hc
  rcases hi : op.info with ⟨sym, nm⟩
  rw [hi] at hs hr h1 h2
  dsimp only at hs hr h1 h2
  have one := ksp_try X I hs hf h
  obtain ⟨hh, g, d, tt, os⟩ := s
  have t1 : Looks (model prog w) hh (typeOf (.ref x)) (.ref C) := I.type
  have t2 : Looks (model prog w) hh (typeOf b) (.type T) := hb
  have t3 : Looks (model prog w) hh (fillsNumberSlot (.ref C) nm) true := fills_K X hcd hm hs
  have t4 := ksp_fillsT (M := model prog w) X h1 h2
  have t5 : Looks (model prog w) hh (isSubtype (.type T) (.ref C)) false := looks_subIn X hsub
  have t6 : Looks (model prog w) hh (numberSlotInPython (.ref C) nm) true := ksp_inPy X hs hr hp
  have t7 : Looks (model prog w) hh (numberSlotInPython (.type T) nm) false := Looks.of_pure rfl
  have t8 : Looks (model prog w) hh (typeLookup (.type T) (dunderR nm)) ro := looks_findIn X h2
  generalize ((fo.isSome && !isSeqSlot fo) || (ro.isSome && !isSeqSlot ro)) = right at t4
  have ne : (Value.ref C == Value.type T) = false := Bool.eq_false_iff.mpr fun q => by cases beq_iff_eq.mp q
  simp only [binaryOp, hi]
  refine wpAny_holding (wpAny_bind ?_)
  unfold binaryOp1
  refine wpAny_bind (t1.at (wpAny_bind (t2.at (wpAny_bind (t3.at ?_)))))
  simp only [ne, Bool.false_eq_true, if_false]
  cases right <;>
    ((repeat ((fail_if_success (with_reducible show wpAny _ _ (tryMethod _ _ _) _ _ _)); lk))
     refine wpAny_mono one (fun r s' hr' => ?_) fun _ _ e => e
     obtain ⟨v, rfl, hq⟩ := hr'
     (repeat ((fail_if_success (with_reducible show wpAny _ _ (tryMethod _ _ _) _ _ _)); lk))
     exact hq)
end
section
variable {G : Wd} {X : Cx} {W : XK} {N : List Str} {k : Nat}
theorem back_of {pins : List (Addr × Obj)} {σ : St} {Q : VK} {v : Value} {s' : Shared} (h : EP X pins σ Q v s') : PySem.W.CmpBack (EP X pins σ Q) v s' := by
  cases v with
  | notImplemented =>
    obtain ⟨z, H, I, r, q⟩ := h
    cases z <;> first | (obtain ⟨t, e⟩ := r; cases e) | cases r
  | _ => exact h
theorem own_bin {op : Operator} {m : Mt} (hX : XOk G X N W k) (hm : OwnB G op m) (hk : m.lvl ≤ k) {pins : List (Addr × Obj)} {s : Shared} {σ : St} {H : Hp} {x y : V} {v u : Value} {Q : VK} {U : Addr → Prop} {z : S} {d e : D} (I : Inv X pins σ H s) (rx : RelV x v) (ry : RelV y u) (p : PreH G.g U H z)
    (r1 : Rep G.g U H d x) (r2 : Rep G.g U H e y) (q : PostD G.g U H W (ownD m d e z) Q) : wpAny (model X.prog X.w) X.A (binaryOp op v u) (EP X pins σ Q) X.xe s := by
  unfold ownD at q
  by_cases hc : (isIns m.c d && tyD m.c e) = true
  · rw [if_pos hc] at q
    obtain ⟨c1, c2⟩ := and_of hc
    have ty := rep_ty (G := G) I r2 ry
    obtain ⟨xs, rfl⟩ := isIns_of c1
    obtain ⟨hn, cl, f, fd, ps, F, me, hb⟩ := hm.mt
    rw [← hX.prog, ← hX.w, ← hX.K, ← hX.mg, ← hX.base] at F
    rw [← hX.K] at cl me hb
    have first := hm.first
    obtain ⟨rc, b1, b2⟩ := hm.back
    have tys := hm.ty
    rw [← hX.K] at first b1 tys
    have me1 : PySem.W.findIn X.K (.ref (G.cl m.c)) (PySem.dunder op.info.2) = some (some (.ref f)) := by
      have := me.at_
      rw [hm.nm] at this
      exact this
    obtain ⟨a, dx, vs, rfl, nu, ha, hl, rl⟩ := id r1
    cases rx
    obtain ⟨mA, J, _⟩ := ins_get I.hok ha
    obtain ⟨od, J, _⟩ := J.look
    obtain ⟨mf, hF⟩ := I.fr
    have run : wpAny (model X.prog X.w) X.A (call (.ref f) [.ref a, u]) (PySem.W.CmpBack (EP X pins σ Q)) X.xe s := by
      refine wpAny_mono (run_fn (us := [.ref a, u]) (vs := [.ref a, y]) F (hX.room.mono hk) hb .nil hX.passes I (.cons rfl (.cons ry .nil)) ?_) (fun v s' h => back_of h) fun _ _ e => e
      refine ⟨by rw [hm.n2]; rfl, [_, e], z, U, p, .cons r1 (.cons r2 .nil), q⟩
    have by_ty : ∀ T ∈ tyNames, PySem.W.Looks (model X.prog X.w) s.heap (typeOf u) (.type T) → wpAny (model X.prog X.w) X.A (binaryOp op (.ref a) u) (EP X pins σ Q) X.xe s := fun T hT hL => by
      obtain ⟨⟨fo, t1⟩, ⟨ro, t2⟩, t3⟩ := tys T hT
      exact own_beside I.kIn J hL first me1 me.fn b1 b2 t1 t2 t3 run
    cases e with
    | non => exact by_ty _ (by decide) ty
    | bl _ => exact by_ty _ (by decide) ty
    | int _ => exact by_ty _ (by decide) ty
    | str _ => exact by_ty _ (by decide) ty
    | tup _ => exact by_ty _ (by decide) ty
    | lst _ => exact by_ty _ (by decide) ty
    | ins c ys =>
      cases eq_of_beq (show (c == m.c) = true from c2)
      exact PySem.W.binop_K hF I.ok.mod.kin J ty first me1 me.fn run
    | _ => cases c2
  · rw [if_neg hc] at q
    exact q.elim
/-- - of an instance -/
structure OwnN (G : Wd) (m : Mt) : Prop where
  mt : MtD G m
  n1 : m.n = 1
  nm : m.name = "__neg__"
theorem own_neg {m : Mt} (hX : XOk G X N W k) (hm : OwnN G m) (hk : m.lvl ≤ k) {pins : List (Addr × Obj)} {s : Shared} {σ : St} {H : Hp} {x : V} {v : Value} {Q : VK} {U : Addr → Prop} {z : S} {d : D} (I : Inv X pins σ H s) (rx : RelV x v) (p : PreH G.g U H z)
    (r1 : Rep G.g U H d x) (hi : isIns m.c d = true) (q : PostD G.g U H W (m.g [d] z) Q) : wpAny (model X.prog X.w) X.A (unaryOp .USub v) (EP X pins σ Q) X.xe s := by
  obtain ⟨xs, rfl⟩ := isIns_of hi
  obtain ⟨hn, cl, f, fd, ps, F, me, hb⟩ := hm.mt
  rw [← hX.prog, ← hX.w, ← hX.K, ← hX.mg, ← hX.base] at F
  rw [← hX.K] at cl me hb
  have me1 : PySem.W.findIn X.K (.ref (G.cl m.c)) "__neg__" = some (some (.ref f)) := by
    have := me.at_
    rw [hm.nm] at this
    exact this
  obtain ⟨a, dx, vs, rfl, nu, ha, hl, rl⟩ := id r1
  cases rx
  obtain ⟨mA, J, _⟩ := ins_get I.hok ha
  obtain ⟨od, J, _⟩ := J.look
  obtain ⟨mf, hF⟩ := I.fr
  exact PySem.W.ksp_neg hF I.ok.mod.kin J me1 me.fn (run_fn (us := [.ref a]) (vs := [.ref a]) F (hX.room.mono hk) hb .nil hX.passes I (.cons rfl .nil) ⟨by rw [hm.n1]; rfl, [_], z, U, p, .cons r1 .nil, q⟩)
end
/-! ### arithmetic -/
def two64 : Nat := 18446744073709551616
def mulOk (i j : Int) : Bool := (decide (i.natAbs < two64) || decide (j.natAbs < two64)) || decide (i.natAbs.log2 + j.natAbs.log2 < 1000000)
def divOk (j : Int) : Bool := decide (j ≠ 0) && decide (j.natAbs.log2 < 9000)
theorem mulOk.ok {i j : Int} (h : mulOk i j = true) : IntMulOk i j := by
  unfold mulOk at h
  rw [Bool.or_eq_true, Bool.or_eq_true] at h
  have e : (2 : Int) ^ 64 = 18446744073709551616 := by decide
  rcases h with (h | h) | h
  · have h : i.natAbs < 18446744073709551616 := of_decide_eq_true h
    exact CMul.ok (.inl ⟨by rw [e]; omega, by rw [e]; omega⟩)
  · have h : j.natAbs < 18446744073709551616 := of_decide_eq_true h
    exact CMul.ok (.inr ⟨by rw [e]; omega, by rw [e]; omega⟩)
  · have h : i.natAbs.log2 + j.natAbs.log2 < 1000000 := of_decide_eq_true h
    exact CMulW.ok h
section
variable {G : Wd} {X : Cx} {W : XK} {N : List Str} {k : Nat}
abbrev Own2 := Option Mt
def ownO (o : Own2) (d e : D) : M D := match o with
  | some m => ownD m d e
  | none => bad
/-- where an own operator is asked for, it keeps its promise -/
def OwnOk (G : Wd) (op : Operator) (o : Own2) (k : Nat) : Prop := ∀ m, o = some m → OwnB G op m ∧ m.lvl ≤ k
theorem own_bin' {op : Operator} {o : Own2} (hX : XOk G X N W k) (hm : OwnOk G op o k) {pins : List (Addr × Obj)} {s : Shared} {σ : St} {H : Hp} {x y : V} {v u : Value} {Q : VK} {U : Addr → Prop} {z : S} {d e : D} (I : Inv X pins σ H s) (rx : RelV x v) (ry : RelV y u) (p : PreH G.g U H z)
    (r1 : Rep G.g U H d x) (r2 : Rep G.g U H e y) (q : PostD G.g U H W (ownO o d e z) Q) : wpAny (model X.prog X.w) X.A (binaryOp op v u) (EP X pins σ Q) X.xe s := by
  cases o with
  | none => exact q.elim
  | some m => exact own_bin hX (hm m rfl).1 (hm m rfl).2 I rx ry p r1 r2 q
/-- under a condition -/
def gd (b : Prop) [Decidable b] (m : M D) : M D := fun s => if b then m s else .bad
theorem gd_of {U : Addr → Prop} {H : Hp} {b : Prop} [Decidable b] {m : M D} {z : S} {Q : VK} (h : PostD G.g U H W (gd b m z) Q) : b ∧ PostD G.g U H W (m z) Q := by
  unfold gd at h
  by_cases hb : b
  · rw [if_pos hb] at h
    exact ⟨hb, h⟩
  · rw [if_neg hb] at h
    exact h.elim
def addD (o : Own2) : D → D → M D
  | .int a, .int b => rt (.int (a + b))
  | .str x, .str y => gd (x.length + y.length ≤ sizeLine) (rt (.str (x ++ y)))
  | .tup xs, .tup ys => gd (xs.length + ys.length ≤ sizeLine) (rt (.tup (xs ++ ys)))
  | .lst xs, .lst ys => gd (xs.length + ys.length ≤ sizeLine) (rt (.lst (xs ++ ys)))
  | .ins c xs, e => ownO o (.ins c xs) e
  | _, _ => bad
def oAdd (o : Own2) : Ob := ⟨.Add, addD o⟩
theorem str_app_len (x y : Str) : (x ++ y).length = x.length + y.length := by
  show (x.cps ++ y.cps).size = x.cps.size + y.cps.size
  simp
theorem oAdd_ok {o : Own2} (h : OwnOk G .Add o k) : (oAdd o).Ok G k := fun X N W hX => .of fun pins s σ H x y v u Q U z d e I rx ry p r1 r2 q => by
  have q : PostD G.g U H W (addD o d e z) Q := q
  show wpAny _ _ (binaryOp .Add v u) _ _ _
  cases d with
  | int a =>
    cases e with
    | int b => cases (show x = .int a from r1); cases (show y = .int b from r2); exact op_add pins s σ H _ _ v u Q I rx ry ⟨_, _, rfl, rfl, PostR.here q p.st rfl⟩
    | _ => exact q.elim
  | str a =>
    cases e with
    | str b =>
      obtain ⟨rfl, z1⟩ := r1
      obtain ⟨rfl, z2⟩ := r2
      obtain ⟨hz, q⟩ := gd_of (b := a.length + b.length ≤ sizeLine) q
      exact op_add_str pins s σ H _ _ v u Q I rx ry ⟨_, _, rfl, rfl, hz, PostR.here q p.st ⟨rfl, by rw [str_app_len]; exact hz⟩⟩
    | _ => exact q.elim
  | tup xs =>
    cases e with
    | tup ys =>
      obtain ⟨hz, q⟩ := gd_of (b := xs.length + ys.length ≤ sizeLine) q
      have r1' := r1
      have r2' := r2
      obtain ⟨a, vs, rfl, n1, ha, z1, ra⟩ := r1
      obtain ⟨b, ws, rfl, n2, hb, z2, rb⟩ := r2
      have l1 := ra.length
      have l2 := rb.length
      refine op_catA pins s σ H _ _ v u Q I rx ry ⟨a, b, vs, ws, rfl, rfl, .inl (.inl ha), .inl (.inl hb), by omega, fun e => ?_, fun e1 e2 => ?_, fun _ _ t nt => ?_⟩
      · refine PostR.here q p.st ?_
        subst e
        cases List.length_eq_zero_iff.mp l1
        exact r2'
      · refine PostR.here q p.st ?_
        subst e2
        cases List.length_eq_zero_iff.mp l2
        rw [List.append_nil]
        exact r1'
      · exact q _ _ (Gr.upd nt) (p.st.upd nt) (Rep.tup_new (ra.append rb) nt (p.free nt) (by rw [List.length_append]; exact hz))
    | _ => exact q.elim
  | lst xs =>
    cases e with
    | lst ys =>
      obtain ⟨hz, q⟩ := gd_of (b := xs.length + ys.length ≤ sizeLine) q
      obtain ⟨a, vs, rfl, n1, ha, z1, ra⟩ := r1
      obtain ⟨b, ws, rfl, n2, hb, z2, rb⟩ := r2
      have l1 := ra.length
      have l2 := rb.length
      refine op_cat pins s σ H _ _ v u Q I rx ry ⟨a, b, vs, ws, rfl, rfl, ha, hb, by omega, fun t nt => ?_⟩
      exact q _ _ (Gr.upd nt) (p.st.upd nt) (Rep.lst_new (ra.append rb) nt (p.free nt) (by rw [List.length_append]; exact hz))
    | _ => exact q.elim
  | ins c xs => exact own_bin' hX h I rx ry p r1 r2 q
  | _ => exact q.elim
def b2 (b : Bool) : Int := if b = true then 1 else 0
def subD (o : Own2) : D → D → M D
  | .int a, .int b => rt (.int (a - b))
  | .bl a, .bl b => rt (.int (b2 a - b2 b))
  | .ins c xs, e => ownO o (.ins c xs) e
  | _, _ => bad
def oSub (o : Own2) : Ob := ⟨.Sub, subD o⟩
theorem oSub_ok {o : Own2} (h : OwnOk G .Sub o k) : (oSub o).Ok G k := fun X N W hX => .of fun pins s σ H x y v u Q U z d e I rx ry p r1 r2 q => by
  have q : PostD G.g U H W (subD o d e z) Q := q
  show wpAny _ _ (binaryOp .Sub v u) _ _ _
  cases d with
  | int a =>
    cases e with
    | int b => cases (show x = .int a from r1); cases (show y = .int b from r2); exact op_sub pins s σ H _ _ v u Q I rx ry ⟨_, _, rfl, rfl, PostR.here q p.st rfl⟩
    | _ => exact q.elim
  | bl a =>
    cases e with
    | bl b =>
      cases (show x = .bl a from r1)
      cases (show y = .bl b from r2)
      cases rx
      cases ry
      exact PyProof.Rows.sub_bool ⟨.int (b2 a - b2 b), H, I.tok _, ⟨_, rfl⟩, PostR.here q p.st rfl⟩
    | _ => exact q.elim
  | ins c xs => exact own_bin' hX h I rx ry p r1 r2 q
  | _ => exact q.elim
def repN {α : Type} (xs : List α) (k : Int) : List α := (List.replicate k.toNat xs).flatten
def two63 : Int := 9223372036854775808
def mulD (o : Own2) : D → D → M D
  | .int a, .int b => gd (mulOk a b = true) (rt (.int (a * b)))
  | .lst xs, .int k => gd (k < two63 ∧ -two63 ≤ k ∧ xs.length * k.toNat ≤ sizeLine) (rt (.lst (repN xs k)))
  | .tup xs, .int k => gd (2 ≤ k ∧ k ≤ 1000 ∧ xs.length ≤ 1000 ∧ xs ≠ []) (rt (.tup (repN xs k)))
  | .str x, .int k => gd (1 < k ∧ x.length * k.toNat ≤ 16777216 ∧ 0 < x.length) (rt (.str (Txt.mul x k)))
  | .ins c xs, e => ownO o (.ins c xs) e
  | _, _ => bad
end
end Dn
/-! DnOp2: more operators, comparisons. -/
namespace Dn
open PySem L2
section
variable {G : Wd} {X : Cx} {W : XK} {N : List Str} {k : Nat}
theorem RepL.flat {G : Gd} {U : Addr → Prop} {H : Hp} {xs : List D} {vs : List V} (h : RepL G U H xs vs) : ∀ n : Nat, RepL G U H (List.replicate n xs).flatten (List.replicate n vs).flatten
  | 0 => RepL.nil
  | n + 1 => by
    rw [List.replicate_succ, List.replicate_succ, List.flatten_cons, List.flatten_cons]
    exact h.append (RepL.flat h n)
theorem flat_len {α : Type} (xs : List α) (n : Nat) : (List.replicate n xs).flatten.length = xs.length * n := by
  induction n with
  | zero => simp
  | succ n ih => rw [List.replicate_succ, List.flatten_cons, List.length_append, ih, Nat.mul_succ, Nat.add_comm]
theorem strMul_ok {x : Str} {k : Int} (h : 1 < k ∧ x.length * k.toNat ≤ 16777216 ∧ 0 < x.length) : MulOk x k := by
  obtain ⟨h1, h2, h3⟩ := h
  have hk : k.toNat ≤ 16777216 := Nat.le_trans (Nat.le_mul_of_pos_left _ h3) h2
  have e : (2 : Int) ^ 63 = 9223372036854775808 := by decide
  refine ⟨?_, fun _ _ => ?_, fun _ _ => ?_⟩
  · rw [e, decide_eq_false (by omega), decide_eq_false (by omega)]
    rfl
  · rw [e]
    have hk2 : k ≤ 16777216 := by omega
    have hx : x.length ≤ 16777216 := Nat.le_trans (Nat.le_mul_of_pos_right _ (by omega)) h2
    have : (16777216 : Int) ≤ (9223372036854775808 - 1) / k := by
      rw [Int.le_ediv_iff_mul_le (by omega)]
      omega
    omega
  · have hs : sizeLine = 16777216 := sizeLine_eq
    unfold PySem.Builtin.Str.tooLong
    first
      | (rw [hs]; exact decide_eq_false (by omega))
      | (exact decide_eq_false (by rw [hs]; omega))
      | (simp; omega)
theorem strMul_len {x : Str} {k : Int} (h : 1 < k ∧ x.length * k.toNat ≤ 16777216 ∧ 0 < x.length) : (Txt.mul x k).length ≤ sizeLine := by
  rw [sizeLine_eq]
  unfold Txt.mul
  split
  · exact Nat.zero_le _
  · split
    · exact Nat.le_trans (Nat.le_mul_of_pos_right _ (by omega)) h.2.1
    · show (List.foldl (· ++ ·) #[] (List.replicate k.toNat x.cps)).size ≤ _
      have key : ∀ (n : Nat) (a : Array Nat), (List.foldl (· ++ ·) a (List.replicate n x.cps)).size = a.size + x.cps.size * n := by
        intro n
        induction n with
        | zero => intro a; simp
        | succ n ih =>
          intro a
          rw [List.replicate_succ, List.foldl_cons, ih, Array.size_append, Nat.mul_succ]
          omega
      rw [key]
      show 0 + x.length * k.toNat ≤ _
      rw [Nat.zero_add]
      exact h.2.1
def oMul (o : Own2) : Ob := ⟨.Mult, mulD o⟩
theorem oMul_ok {o : Own2} (h : OwnOk G .Mult o k) : (oMul o).Ok G k := fun X N W hX => .of fun pins s σ H x y v u Q U z d e I rx ry p r1 r2 q => by
  have q : PostD G.g U H W (mulD o d e z) Q := q
  show wpAny _ _ (binaryOp .Mult v u) _ _ _
  cases d with
  | int a =>
    cases e with
    | int b =>
      obtain ⟨hz, q⟩ := gd_of (b := mulOk a b = true) q
      cases (show x = .int a from r1)
      cases (show y = .int b from r2)
      obtain ⟨t, rfl⟩ := rx
      obtain ⟨t', rfl⟩ := ry
      exact PyProof.Rows.mul_int ⟨.int (a * b), H, I.tok _, ⟨_, rfl⟩, PostR.here q p.st rfl⟩ (mulOk.ok hz)
    | _ => exact q.elim
  | lst xs =>
    cases e with
    | int i =>
      obtain ⟨⟨h1, h2, hz⟩, q⟩ := gd_of (b := i < two63 ∧ -two63 ≤ i ∧ xs.length * i.toNat ≤ sizeLine) q
      obtain ⟨a, vs, rfl, n1, ha, z1, ra⟩ := r1
      cases (show y = .int i from r2)
      have e : (2 : Int) ^ 63 = 9223372036854775808 := by decide
      have h1 : i < 9223372036854775808 := h1
      have h2 : -9223372036854775808 ≤ i := h2
      have l1 := ra.length
      refine op_rep pins s σ H _ _ v u Q I rx ry ⟨a, i, vs, rfl, rfl, ha, by rw [e]; exact h2, by rw [e]; exact h1, by rw [← l1]; exact hz, fun t nt => ?_⟩
      exact q _ _ (Gr.upd nt) (p.st.upd nt) (Rep.lst_new (ra.flat _) nt (p.free nt) (by show (List.replicate i.toNat xs).flatten.length ≤ _; rw [flat_len]; exact hz))
    | _ => exact q.elim
  | tup xs =>
    cases e with
    | int i =>
      obtain ⟨⟨h1, h2, h3, h4⟩, q⟩ := gd_of (b := 2 ≤ i ∧ i ≤ 1000 ∧ xs.length ≤ 1000 ∧ xs ≠ []) q
      obtain ⟨a, vs, rfl, n1, ha, z1, ra⟩ := r1
      cases (show y = .int i from r2)
      have l1 := ra.length
      refine op_repT pins s σ H _ _ v u Q I rx ry ⟨a, i, vs, rfl, rfl, .inl (.inl ha), fun e => ?_, h1, h2, by omega, fun t nt => ?_⟩
      · subst e
        exact h4 (List.length_eq_zero_iff.mp l1)
      · refine q _ _ (Gr.upd nt) (p.st.upd nt) (Rep.tup_new (ra.flat _) nt (p.free nt) ?_)
        show (List.replicate i.toNat xs).flatten.length ≤ _
        rw [flat_len, sizeLine_eq]
        have h5 : i.toNat ≤ 1000 := by omega
        exact Nat.le_trans (Nat.mul_le_mul h3 h5) (by decide)
    | _ => exact q.elim
  | str a =>
    cases e with
    | int i =>
      obtain ⟨hz, q⟩ := gd_of (b := 1 < i ∧ a.length * i.toNat ≤ 16777216 ∧ 0 < a.length) q
      obtain ⟨rfl, z1⟩ := r1
      cases (show y = .int i from r2)
      obtain ⟨t, rfl⟩ := rx
      obtain ⟨t', rfl⟩ := ry
      exact PySem.SB.mul (strMul_ok hz) fun t' j => ⟨.str (Txt.mul a i), H, I.tok _, ⟨_, rfl⟩, PostR.here q p.st ⟨rfl, strMul_len hz⟩⟩
    | _ => exact q.elim
  | ins c xs => exact own_bin' hX h I rx ry p r1 r2 q
  | _ => exact q.elim
def divD : D → D → M D
  | .int a, .int b => gd (divOk b = true) (rt (.int (a.fdiv b)))
  | _, _ => bad
def oDiv : Ob := ⟨.FloorDiv, divD⟩
theorem oDiv_ok : oDiv.Ok G k := fun X N W hX => .of fun pins s σ H x y v u Q U z d e I rx ry p r1 r2 q => by
  have q : PostD G.g U H W (divD d e z) Q := q
  show wpAny _ _ (binaryOp .FloorDiv v u) _ _ _
  cases d with
  | int a =>
    cases e with
    | int b =>
      obtain ⟨hz, q⟩ := gd_of (b := divOk b = true) q
      cases (show x = .int a from r1)
      cases (show y = .int b from r2)
      obtain ⟨t, rfl⟩ := rx
      obtain ⟨t', rfl⟩ := ry
      obtain ⟨h1, h2⟩ := and_of hz
      exact PyProof.Rows.floordiv_int (of_decide_eq_true h1) ⟨.int (a.fdiv b), H, I.tok _, ⟨_, rfl⟩, PostR.here q p.st rfl⟩ (.inl (PyProof.noPylong_of_log2 (of_decide_eq_true h2)))
    | _ => exact q.elim
  | _ => exact q.elim
def modD : D → D → M D
  | .int a, .int b => gd (b ≠ 0) (rt (.int (a.fmod b)))
  | _, _ => bad
def oMod : Ob := ⟨.Mod, modD⟩
theorem oMod_ok : oMod.Ok G k := fun X N W hX => .of fun pins s σ H x y v u Q U z d e I rx ry p r1 r2 q => by
  have q : PostD G.g U H W (modD d e z) Q := q
  show wpAny _ _ (binaryOp .Mod v u) _ _ _
  cases d with
  | int a =>
    cases e with
    | int b =>
      obtain ⟨hz, q⟩ := gd_of (b := b ≠ 0) q
      cases (show x = .int a from r1)
      cases (show y = .int b from r2)
      exact op_modN pins s σ H _ _ v u Q I rx ry ⟨_, _, rfl, rfl, hz, PostR.here q p.st rfl⟩
    | _ => exact q.elim
  | _ => exact q.elim
def negD (o : Own2) : D → M D
  | .int a => rt (.int (-a))
  | .ins c xs => match o with
    | some m => if isIns m.c (.ins c xs) = true then m.g [.ins c xs] else bad
    | none => bad
  | _ => bad
def oNeg (o : Own2) : Ou := ⟨.USub, negD o⟩
theorem oNeg_ok {o : Own2} (h : ∀ m, o = some m → OwnN G m ∧ m.lvl ≤ k) : (oNeg o).Ok G k := fun X N W hX => .of fun pins s σ H x v Q U z d I rx p r1 q => by
  have q : PostD G.g U H W (negD o d z) Q := q
  show wpAny _ _ (unaryOp .USub v) _ _ _
  cases d with
  | int a => cases (show x = .int a from r1); exact un_neg pins s σ H _ v Q I rx ⟨_, rfl, PostR.here q p.st rfl⟩
  | ins c xs =>
    cases o with
    | none => exact q.elim
    | some m =>
      by_cases hc : isIns m.c (.ins c xs) = true
      · have q : PostD G.g U H W ((if isIns m.c (.ins c xs) = true then m.g [.ins c xs] else bad) z) Q := q
        rw [if_pos hc] at q
        exact own_neg hX (h m rfl).1 (h m rfl).2 I rx p r1 hc q
      · have q : PostD G.g U H W ((if isIns m.c (.ins c xs) = true then m.g [.ins c xs] else bad) z) Q := q
        rw [if_neg hc] at q
        exact q.elim
  | _ => exact q.elim
/-! ### order -/
def ordD (f : Int → Int → Bool) : D → D → M D
  | .int a, .int b => rt (.bl (f a b))
  | _, _ => bad
def oLt : Oc := ⟨.Lt, ordD fun a b => decide (a < b)⟩
def oLe : Oc := ⟨.LtE, ordD fun a b => decide (a ≤ b)⟩
def oGt : Oc := ⟨.Gt, ordD fun a b => decide (b < a)⟩
def oGe : Oc := ⟨.GtE, ordD fun a b => decide (b ≤ a)⟩
theorem ord_ok {op : CmpOp} {f : Int → Int → Bool} (h : OpR X (compareOp op) (rI0 fun i j => .bl (f i j))) : Op2 G X W (compareOp op) (ordD f) := .of fun pins s σ H x y v u Q U z d e I rx ry p r1 r2 q => by
  cases d with
  | int a =>
    cases e with
    | int b => cases (show x = .int a from r1); cases (show y = .int b from r2); exact h pins s σ H _ _ v u Q I rx ry ⟨_, _, rfl, rfl, PostR.here q p.st rfl⟩
    | _ => exact q.elim
  | _ => exact q.elim
theorem oLt_ok : oLt.Ok G k := fun X N W hX => ord_ok op_lt
theorem oLe_ok : oLe.Ok G k := fun X N W hX => ord_ok op_le
theorem oGt_ok : oGt.Ok G k := fun X N W hX => ord_ok op_gt
theorem oGe_ok : oGe.Ok G k := fun X N W hX => ord_ok op_ge
/-! ### == -/
mutual
def toPy : D → Option PyData
  | .non => some .none
  | .bl b => some (.bool b)
  | .int i => some (.int i)
  | .str x => some (.str x)
  | .tup xs => (toPyL xs).map .tuple
  | .lst xs => (toPyL xs).map .list
  | _ => none
def toPyL : List D → Option (List PyData)
  | [] => some []
  | d :: ds => match toPy d, toPyL ds with
    | some x, some xs => some (x :: xs)
    | _, _ => none
end
mutual
theorem toPy_dp {G : Gd} {K : PySem.W.Frag} {U : Addr → Prop} {H : Hp} : ∀ {d : D} {v : V} {x : PyData}, Rep G U H d v → toPy d = some x → Dp K H v x
  | .non, _, _, r, e => by cases e; cases (show _ = V.non from r); exact .non
  | .bl b, _, _, r, e => by cases e; cases (show _ = V.bl b from r); exact .bl b
  | .int i, _, _, r, e => by cases e; cases (show _ = V.int i from r); exact .int i
  | .str z, _, _, r, e => by cases e; obtain ⟨rfl, _⟩ := r; exact .str z
  | .tup xs, _, _, r, e => by
    obtain ⟨a, vs, rfl, _, ha, _, ra⟩ := r
    unfold toPy at e
    cases h : toPyL xs with
    | none => rw [h] at e; cases e
    | some ys => rw [h] at e; cases e; exact .tup (.inl (.inl ha)) (toPyL_dp ra h)
  | .lst xs, _, _, r, e => by
    obtain ⟨a, vs, rfl, _, ha, _, ra⟩ := r
    unfold toPy at e
    cases h : toPyL xs with
    | none => rw [h] at e; cases e
    | some ys => rw [h] at e; cases e; exact .lst (.inl (.inl ha)) (toPyL_dp ra h)
  | .dct _ _, _, _, _, e => by cases e
  | .ins _ _, _, _, _, e => by cases e
  | .fn _, _, _, _, e => by cases e
  | .st, _, _, _, e => by cases e
theorem toPyL_dp {G : Gd} {K : PySem.W.Frag} {U : Addr → Prop} {H : Hp} : ∀ {ds : List D} {vs : List V} {xs : List PyData}, RepL G U H ds vs → toPyL ds = some xs → DpAll K H vs xs
  | [], _, _, r, e => by cases e; cases (show _ = [] from r); exact .nil
  | d :: ds, _, _, r, e => by
    obtain ⟨v, r', rfl, h1, h2⟩ := r
    unfold toPyL at e
    cases g : toPy d with
    | none => rw [g] at e; cases e
    | some x =>
      cases g' : toPyL ds with
      | none => rw [g, g'] at e; cases e
      | some xs => rw [g, g'] at e; cases e; exact .cons (toPy_dp h1 g) (toPyL_dp h2 g')
end
def plainEq (d e : D) : Option Bool := match toPy d, toPy e with
  | some x, some y => if (SeqAt.shaped x && SeqAt.shaped y) = true then some (PyData.eqv x y) else none
  | _, _ => none
def mixD : D → D → Bool
  | .bl _, .int _ => true
  | .int _, .bl _ => true
  | _, _ => false
/-- two flat data that == tells apart as they are told apart here -/
def scalD (d e : D) : Bool := (flatD d && flatD e) && !mixD d e
theorem scalD_ok {G : Gd} {U : Addr → Prop} {H : Hp} {d e : D} {x y : V} (h : scalD d e = true) (r1 : Rep G U H d x) (r2 : Rep G U H e y) : scal x y = true ∧ decide (x = y) = eqF d e := by
  obtain ⟨h, hm⟩ := and_of h
  obtain ⟨f1, f2⟩ := and_of h
  cases d with
  | non =>
    cases (show x = .non from r1)
    cases e with
    | non => cases (show y = .non from r2); exact ⟨rfl, by simp [eqF]⟩
    | bl b => cases (show y = .bl b from r2); exact ⟨rfl, by simp [eqF]⟩
    | int b => cases (show y = .int b from r2); exact ⟨rfl, by simp [eqF]⟩
    | str b => obtain ⟨rfl, _⟩ := r2; exact ⟨rfl, by simp [eqF]⟩
    | _ => cases f2
  | bl a =>
    cases (show x = .bl a from r1)
    cases e with
    | non => cases (show y = .non from r2); exact ⟨rfl, by simp [eqF]⟩
    | bl b => cases (show y = .bl b from r2); exact ⟨rfl, dec_bl⟩
    | int b => cases hm
    | str b => obtain ⟨rfl, _⟩ := r2; exact ⟨rfl, by simp [eqF]⟩
    | _ => cases f2
  | int a =>
    cases (show x = .int a from r1)
    cases e with
    | non => cases (show y = .non from r2); exact ⟨rfl, by simp [eqF]⟩
    | bl b => cases hm
    | int b => cases (show y = .int b from r2); exact ⟨rfl, dec_int⟩
    | str b => obtain ⟨rfl, _⟩ := r2; exact ⟨rfl, by simp [eqF]⟩
    | _ => cases f2
  | str a =>
    obtain ⟨rfl, _⟩ := r1
    cases e with
    | non => cases (show y = .non from r2); exact ⟨rfl, by simp [eqF]⟩
    | bl b => cases (show y = .bl b from r2); exact ⟨rfl, by simp [eqF]⟩
    | int b => cases (show y = .int b from r2); exact ⟨rfl, by simp [eqF]⟩
    | str b => obtain ⟨rfl, _⟩ := r2; exact ⟨rfl, dec_str⟩
    | _ => cases f2
  | _ => cases f1
def ownQ : D → D → Option Bool
  | .tup xs, .tup ys => eqvL (eqv 6) xs ys
  | d, e => qR d e
/-- d == e, where it is seen by data alone -/
def eqQ (own : Bool) (d e : D) : Option Bool := if scalD d e = true then some (eqF d e) else
  if own = true then (match ownQ d e with
    | some b => some b
    | none => plainEq d e) else plainEq d e
def eqD (own : Bool) (d e : D) : M D := match eqQ own d e with
  | some b => rt (.bl b)
  | none => bad
def oEq (own : Bool) : Oc := ⟨.Eq, eqD own⟩
theorem plainEq_of {d e : D} {b : Bool} (h : plainEq d e = some b) : ∃ x y, toPy d = some x ∧ toPy e = some y ∧ SeqAt.shaped x = true ∧ SeqAt.shaped y = true ∧ b = PyData.eqv x y := by
  unfold plainEq at h
  cases h1 : toPy d with
  | none => rw [h1] at h; cases h
  | some x =>
    cases h2 : toPy e with
    | none => rw [h1, h2] at h; cases h
    | some y =>
      rw [h1, h2] at h
      dsimp only at h
      split at h
      · rename_i c
        cases h
        exact ⟨x, y, rfl, rfl, (and_of c).1, (and_of c).2, rfl⟩
      · cases h
/-- where a fraction's own == is asked for, it keeps its promise -/
def EqOk (G : Wd) (own : Bool) (k : Nat) : Prop := own = true → ∃ m, OwnEq G m ∧ m.lvl + 8 ≤ k
theorem oEq_ok {own : Bool} (h : EqOk G own k) : (oEq own).Ok G k := fun X N W hX => .of fun pins s σ H x y v u Q U z d e I rx ry p r1 r2 q => by
  have q : PostD G.g U H W (eqD own d e z) Q := q
  show wpAny _ _ (compareOp .Eq v u) _ _ _
  unfold eqD eqQ at q
  have plain : ∀ z', PostD G.g U H W ((match plainEq d e with | some b => (rt (.bl b) : M D) | none => bad) z') Q → StAt G.g H z' → wpAny (model X.prog X.w) X.A (compareOp .Eq v u) (EP X pins σ Q) X.xe s := fun z' q st => by
    cases e1 : plainEq d e with
    | none => rw [e1] at q; exact q.elim
    | some b =>
      rw [e1] at q
      obtain ⟨a, c, h1, h2, h3, h4, rfl⟩ := plainEq_of e1
      exact op_eqD (by have := hX.room.un; omega) pins s σ H x y v u Q I rx ry ⟨a, c, toPy_dp r1 h1, toPy_dp r2 h2, h3, h4, PostR.here q st rfl⟩
  by_cases hs : scalD d e = true
  · rw [if_pos hs] at q
    obtain ⟨s1, s2⟩ := scalD_ok hs r1 r2
    exact op_eq pins s σ H x y v u Q I rx ry ⟨s1, by rw [s2]; exact PostR.here q p.st rfl⟩
  · rw [if_neg hs] at q
    cases own with
    | false => exact plain z q p.st
    | true =>
      rw [if_pos rfl] at q
      obtain ⟨m, hm, hl⟩ := h rfl
      have sb : ∀ {j : Nat}, j ≤ 8 → L2.Sub X (m.lvl + j) X.A := fun hj => ⟨hX.room.mono (by omega), rfl⟩
      have fin : ∀ b, RcB X (m.lvl + 8) H x y b → PostD G.g U H W (rt (.bl b) z) Q → wpAny (model X.prog X.w) X.A (compareOp .Eq v u) (EP X pins σ Q) X.xe s := fun b hr q => by
        show wpAny _ _ (richCompare .Eq v u) _ _ _
        refine wpAny_mono (hr X.A pins s σ H v u (sb (Nat.le_refl _)) Ext.rfl' I rx ry) (fun r s' hh => ?_) fun _ _ x => x
        obtain ⟨rfl, H', I', ex⟩ := hh
        exact ⟨.bl b, H', I', rfl, q _ _ (Ext.gr ex) (ex _ _ p.st) rfl⟩
      cases e1 : ownQ d e with
      | none => rw [e1] at q; exact plain z q p.st
      | some b =>
        rw [e1] at q
        have q : PostD G.g U H W (rt (.bl b) z) Q := q
        unfold ownQ at e1
        split at e1
        · rename_i xs ys
          obtain ⟨a, vs, rfl, _, ha, _, ra⟩ := id r1
          obtain ⟨c, ws, rfl, _, hc, _, rc⟩ := id r2
          exact fin b ((rcB_tup ha hc (eqvL_ok hX hm p 6 ra rc e1)).mono (by omega)) q
        · exact fin b ((rcB_own hX hm p r1 r2 e1).mono (Nat.le_add_right _ _)) q
def neD (d e : D) : M D := match (if scalD d e = true then some (eqF d e) else plainEq d e) with
  | some b => rt (.bl (!b))
  | none => bad
def oNe : Oc := ⟨.NotEq, neD⟩
theorem oNe_ok : oNe.Ok G k := fun X N W hX => .of fun pins s σ H x y v u Q U z d e I rx ry p r1 r2 q => by
  have q : PostD G.g U H W (neD d e z) Q := q
  show wpAny _ _ (compareOp .NotEq v u) _ _ _
  unfold neD at q
  by_cases hs : scalD d e = true
  · rw [if_pos hs] at q
    obtain ⟨s1, s2⟩ := scalD_ok hs r1 r2
    exact op_ne pins s σ H x y v u Q I rx ry ⟨s1, by rw [s2]; exact PostR.here q p.st rfl⟩
  · rw [if_neg hs] at q
    cases e1 : plainEq d e with
    | none => rw [e1] at q; exact q.elim
    | some b =>
      rw [e1] at q
      obtain ⟨a, c, h1, h2, h3, h4, rfl⟩ := plainEq_of e1
      exact op_neD (by have := hX.room.un; omega) pins s σ H x y v u Q I rx ry ⟨a, c, toPy_dp r1 h1, toPy_dp r2 h2, h3, h4, PostR.here q p.st rfl⟩
/-! ### in, is -/
def inD : D → D → M D
  | .str c, .str x => match c.cps.toList with
    | [n] => rt (.bl (decide (n ∈ x.cps.toList)))
    | _ => bad
  | _, _ => bad
def oIn : Oc := ⟨.In, inD⟩
theorem oIn_ok : oIn.Ok G k := fun X N W hX => .of fun pins s σ H x y v u Q U z d e I rx ry p r1 r2 q => by
  have q : PostD G.g U H W (inD d e z) Q := q
  show wpAny _ _ (compareOp .In v u) _ _ _
  cases d with
  | str c =>
    cases e with
    | str x =>
      obtain ⟨rfl, _⟩ := r1
      obtain ⟨rfl, _⟩ := r2
      unfold inD at q
      obtain ⟨⟨l⟩⟩ := c
      cases l with
      | nil => exact q.elim
      | cons n l =>
        cases l with
        | cons _ _ => exact q.elim
        | nil => exact op_in_sign pins s σ H _ _ v u Q I rx ry ⟨n, x, rfl, rfl, PostR.here q p.st rfl⟩
    | _ => exact q.elim
  | _ => exact q.elim
def isNonD : D → Bool
  | .non => true
  | _ => false
def isD (d e : D) : M D := match e with
  | .non => rt (.bl (isNonD d))
  | _ => bad
def isNotD (d e : D) : M D := match e with
  | .non => rt (.bl (!isNonD d))
  | _ => bad
theorem isNonD_ok {G : Gd} {U : Addr → Prop} {H : Hp} {d : D} {x : V} (r : Rep G U H d x) : decide (x = .non) = isNonD d := by
  cases d with
  | non => cases (show x = .non from r); simp [isNonD]
  | bl b => cases (show x = .bl b from r); simp [isNonD]
  | int b => cases (show x = .int b from r); simp [isNonD]
  | str b => obtain ⟨rfl, _⟩ := r; simp [isNonD]
  | tup b => obtain ⟨a, _, rfl, _⟩ := r; simp [isNonD]
  | lst b => obtain ⟨a, _, rfl, _⟩ := r; simp [isNonD]
  | dct b c => obtain ⟨a, _, rfl, _⟩ := r; simp [isNonD]
  | ins b c => obtain ⟨a, _, _, rfl, _⟩ := r; simp [isNonD]
  | fn b => obtain ⟨a, _, rfl⟩ := r; simp [isNonD]
  | st => cases (show x = .ref _ from r); simp [isNonD]
def oIs : Oc := ⟨.Is, isD⟩
def oIsNot : Oc := ⟨.IsNot, isNotD⟩
theorem oIs_ok : oIs.Ok G k := fun X N W hX => .of fun pins s σ H x y v u Q U z d e I rx ry p r1 r2 q => by
  have q : PostD G.g U H W (isD d e z) Q := q
  show wpAny _ _ (compareOp .Is v u) _ _ _
  cases e with
  | non => cases (show y = .non from r2); exact op_isN pins s σ H _ _ v u Q I rx ry ⟨rfl, by rw [isNonD_ok r1]; exact PostR.here q p.st rfl⟩
  | _ => exact q.elim
theorem oIsNot_ok : oIsNot.Ok G k := fun X N W hX => .of fun pins s σ H x y v u Q U z d e I rx ry p r1 r2 q => by
  have q : PostD G.g U H W (isNotD d e z) Q := q
  show wpAny _ _ (compareOp .IsNot v u) _ _ _
  cases e with
  | non => cases (show y = .non from r2); exact op_notN pins s σ H _ _ v u Q I rx ry ⟨rfl, by rw [isNonD_ok r1]; exact PostR.here q p.st rfl⟩
  | _ => exact q.elim
end
end Dn
/-! DnBi: built-ins, methods of texts and numbers, isinstance. -/
namespace Dn
open PySem L2
section
variable {G : Wd} {X : Cx} {W : XK} {N : List Str} {k : Nat}
theorem RepLW.one {G : Gd} {U : Addr → Prop} {H : Hp} {d : D} {vs : List V} (h : RepLW G U H [d] vs) : ∃ v, vs = [v] ∧ RepW G U H d v := by
  obtain ⟨v, r, rfl, h1, h2⟩ := h
  cases (show r = [] from h2)
  exact ⟨v, rfl, h1⟩
theorem RepLW.two {G : Gd} {U : Addr → Prop} {H : Hp} {d e : D} {vs : List V} (h : RepLW G U H [d, e] vs) : ∃ v u, vs = [v, u] ∧ RepW G U H d v ∧ RepW G U H e u := by
  obtain ⟨v, r, rfl, h1, h2⟩ := h
  obtain ⟨u, rfl, h3⟩ := RepLW.one h2
  exact ⟨v, u, rfl, h1, h3⟩
theorem RepW.int {G : Gd} {U : Addr → Prop} {H : Hp} {i : Int} {v : V} (h : RepW G U H (.int i) v) : v = .int i := by
  rcases h with h | ⟨_, _, _, _, h⟩
  · exact h
  · exact h.elim
theorem RepW.bl {G : Gd} {U : Addr → Prop} {H : Hp} {i : Bool} {v : V} (h : RepW G U H (.bl i) v) : v = .bl i := by
  rcases h with h | ⟨_, _, _, _, h⟩
  · exact h
  · exact h.elim
theorem RepW.str {G : Gd} {U : Addr → Prop} {H : Hp} {i : Str} {v : V} (h : RepW G U H (.str i) v) : v = .str i ∧ i.length ≤ sizeLine := by
  rcases h with h | ⟨_, _, _, _, h⟩
  · exact h
  · exact h.elim
theorem RepW.lst {G : Gd} {U : Addr → Prop} {H : Hp} {xs : List D} {v : V} (h : RepW G U H (.lst xs) v) : ∃ a vs, v = .ref a ∧ H a = some (.lst vs) ∧ xs.length ≤ sizeLine ∧ RepL G U H xs vs := by
  rcases h with ⟨a, vs, e, _, h1, h2, h3⟩ | ⟨a, e, _, _, vs, h1, h2, h3⟩
  · exact ⟨a, vs, e, h1, h2, h3⟩
  · exact ⟨a, vs, e, h1, h2, h3⟩
theorem RepW.tup {G : Gd} {U : Addr → Prop} {H : Hp} {xs : List D} {v : V} (h : RepW G U H (.tup xs) v) : Rep G U H (.tup xs) v := by
  rcases h with h | ⟨_, _, _, _, h⟩
  · exact h
  · exact h.elim
/-- a built-in function, case by case -/
def BiF (G : Wd) (X : Cx) (W : XK) (f : Value) (g : List D → M D) : Prop :=
  ∀ (pins : List (Addr × Obj)) (s : Shared) (σ : St) (H : Hp) (vs : List V) (us : List Value) (Q : VK) (U : Addr → Prop) (z : S) (ds : List D), Inv X pins σ H s → Vals vs us → PreH G.g U H z → RepLW G.g U H ds vs → PostD G.g U H W (g ds z) Q →
    wpAny (model X.prog X.w) X.A (call f us) (EP X pins σ Q) X.xe s
theorem BiF.fn {b : Bi} {id : String} (hn : b.name ∈ bltNames) (hb : bootBuiltins b.name = some (.builtin id)) (h : BiF G X W (.builtin id) b.g) : BiOk G X W b :=
  ⟨hn, .inl ⟨fun vs H Q => ∃ U z ds, PreH G.g U H z ∧ RepLW G.g U H ds vs ∧ PostD G.g U H W (b.g ds z) Q, id, fun pins s σ H xs us Q I r ⟨U, z, ds, p, rl, q⟩ => h pins s σ H xs us Q U z ds I r p rl q, hb, fun U H s ds vs Q p r q => ⟨U, s, ds, p, r, q⟩⟩⟩
theorem BiF.ty {b : Bi} {T : String} (hn : b.name ∈ bltNames) (hb : bootBuiltins b.name = some (.type T)) (h : BiF G X W (.type T) b.g) : BiOk G X W b :=
  ⟨hn, .inr ⟨fun vs H Q => ∃ U z ds, PreH G.g U H z ∧ RepLW G.g U H ds vs ∧ PostD G.g U H W (b.g ds z) Q, T, fun pins s σ H xs us Q I r ⟨U, z, ds, p, rl, q⟩ => h pins s σ H xs us Q U z ds I r p rl q, hb, fun U H s ds vs Q p r q => ⟨U, s, ds, p, r, q⟩⟩⟩
def lenD : List D → M D
  | [.str x] => rt (.int x.length)
  | [.tup xs] => rt (.int xs.length)
  | [.lst xs] => rt (.int xs.length)
  | _ => bad
def bLen : Bi := ⟨"len", lenD⟩
theorem bLen_ok : bLen.Ok G k := fun X N W hX => BiF.fn (id := "len") (by show ("len" : Str) ∈ bltNames; decide +kernel) (by show bootBuiltins ("len" : Str) = _; decide +kernel) fun pins s σ H vs us Q U z ds I r p rl q => by
  have q : PostD G.g U H W (lenD ds z) Q := q
  unfold lenD at q
  split at q
  · obtain ⟨v, rfl, h⟩ := rl.one
    obtain ⟨rfl, hz⟩ := h.str
    exact call_len pins s σ H _ us Q I r ⟨_, _, rfl, ⟨hz, rfl⟩, PostR.here q p.st rfl⟩
  · obtain ⟨v, rfl, h⟩ := rl.one
    obtain ⟨a, ws, rfl, _, h1, _, h2⟩ := h.tup
    refine call_len pins s σ H _ us Q I r ⟨_, _, rfl, .inr ⟨ws, .inl (.inl h1), rfl⟩, ?_⟩
    rw [← h2.length]
    exact PostR.here q p.st rfl
  · obtain ⟨v, rfl, h⟩ := rl.one
    obtain ⟨a, ws, rfl, h1, _, h2⟩ := h.lst
    refine call_len pins s σ H _ us Q I r ⟨_, _, rfl, .inl ⟨ws, .inl (.inl h1), rfl⟩, ?_⟩
    rw [← h2.length]
    exact PostR.here q p.st rfl
  · exact q.elim
def absD : List D → M D
  | [.int i] => rt (.int (if i < 0 then -i else i))
  | _ => bad
def bAbs : Bi := ⟨"abs", absD⟩
theorem bAbs_ok : bAbs.Ok G k := fun X N W hX => BiF.fn (id := "abs") (by show ("abs" : Str) ∈ bltNames; decide +kernel) (by show bootBuiltins ("abs" : Str) = _; decide +kernel) fun pins s σ H vs us Q U z ds I r p rl q => by
  have q : PostD G.g U H W (absD ds z) Q := q
  unfold absD at q
  split at q
  · obtain ⟨v, rfl, h⟩ := rl.one
    cases h.int
    exact call_abs pins s σ H _ us Q I r ⟨_, rfl, PostR.here q p.st rfl⟩
  · exact q.elim
def maxD : List D → M D
  | [.int i, .int j] => rt (.int (if j > i then j else i))
  | _ => bad
def bMax : Bi := ⟨"max", maxD⟩
theorem bMax_ok : bMax.Ok G k := fun X N W hX => BiF.fn (id := "max") (by show ("max" : Str) ∈ bltNames; decide +kernel) (by show bootBuiltins ("max" : Str) = _; decide +kernel) fun pins s σ H vs us Q U z ds I r p rl q => by
  have q : PostD G.g U H W (maxD ds z) Q := q
  unfold maxD at q
  split at q
  · obtain ⟨v, u, rfl, h, h'⟩ := rl.two
    cases h.int
    cases h'.int
    exact call_max2 hX.calm pins s σ H _ us Q I r ⟨_, _, rfl, PostR.here q p.st rfl⟩
  · exact q.elim
def minD : List D → M D
  | [.int i, .int j] => rt (.int (if j < i then j else i))
  | _ => bad
def bMin : Bi := ⟨"min", minD⟩
theorem bMin_ok : bMin.Ok G k := fun X N W hX => BiF.fn (id := "min") (by show ("min" : Str) ∈ bltNames; decide +kernel) (by show bootBuiltins ("min" : Str) = _; decide +kernel) fun pins s σ H vs us Q U z ds I r p rl q => by
  have q : PostD G.g U H W (minD ds z) Q := q
  unfold minD at q
  split at q
  · obtain ⟨v, u, rfl, h, h'⟩ := rl.two
    cases h.int
    cases h'.int
    exact call_min2 hX.calm pins s σ H _ us Q I r ⟨_, _, rfl, PostR.here q p.st rfl⟩
  · exact q.elim
def tupleD : List D → M D
  | [.lst xs] => rt (.tup xs)
  | [.tup xs] => rt (.tup xs)
  | _ => bad
def bTuple : Bi := ⟨"tuple", tupleD⟩
theorem bTuple_ok : bTuple.Ok G k := fun X N W hX => BiF.ty (T := "tuple") (by show ("tuple" : Str) ∈ bltNames; decide +kernel) (by show bootBuiltins ("tuple" : Str) = _; decide +kernel) fun pins s σ H vs us Q U z ds I r p rl q => by
  have q : PostD G.g U H W (tupleD ds z) Q := q
  unfold tupleD at q
  split at q
  · obtain ⟨v, rfl, h⟩ := rl.one
    obtain ⟨a, ws, rfl, h1, h3, h2⟩ := h.lst
    exact call_tuple_of pins s σ H _ us Q I r ⟨a, ws, rfl, .inl ⟨.inl (.inl h1), fun l nl => q _ _ (Gr.upd nl) (p.st.upd nl) (Rep.tup_new h2 nl (p.free nl) h3)⟩⟩
  · obtain ⟨v, rfl, h⟩ := rl.one
    have h := h.tup
    obtain ⟨a, ws, rfl, _, h1, h3, h2⟩ := id h
    exact call_tuple_of pins s σ H _ us Q I r ⟨a, ws, rfl, .inr ⟨.inl (.inl h1), PostR.here q p.st h⟩⟩
  · exact q.elim
def listD : List D → M D
  | [.lst xs] => rt (.lst xs)
  | [.tup xs] => rt (.lst xs)
  | _ => bad
def bList : Bi := ⟨"list", listD⟩
theorem bList_ok : bList.Ok G k := fun X N W hX => BiF.ty (T := "list") (by show ("list" : Str) ∈ bltNames; decide +kernel) (by show bootBuiltins ("list" : Str) = _; decide +kernel) fun pins s σ H vs us Q U z ds I r p rl q => by
  have q : PostD G.g U H W (listD ds z) Q := q
  unfold listD at q
  split at q
  · obtain ⟨v, rfl, h⟩ := rl.one
    obtain ⟨a, ws, rfl, h1, h3, h2⟩ := h.lst
    exact call_list_of pins s σ H _ us Q I r ⟨a, ws, rfl, .inl (.inl (.inl h1)), fun l nl => q _ _ (Gr.upd nl) (p.st.upd nl) (Rep.lst_new h2 nl (p.free nl) h3)⟩
  · obtain ⟨v, rfl, h⟩ := rl.one
    obtain ⟨a, ws, rfl, _, h1, h3, h2⟩ := h.tup
    exact call_list_of pins s σ H _ us Q I r ⟨a, ws, rfl, .inr (.inl (.inl h1)), fun l nl => q _ _ (Gr.upd nl) (p.st.upd nl) (Rep.lst_new h2 nl (p.free nl) h3)⟩
  · exact q.elim
/-- a row of truth values -/
def blsOf : List D → Option (List Bool)
  | [] => some []
  | .bl b :: ds => (blsOf ds).map (b :: ·)
  | _ => none
theorem blsOf_rep {G : Gd} {U : Addr → Prop} {H : Hp} : ∀ {ds : List D} {vs : List V} {bs : List Bool}, RepL G U H ds vs → blsOf ds = some bs → vs = bs.map V.bl
  | [], _, _, h, e => by cases e; exact h
  | d :: ds, _, bs, h, e => by
    obtain ⟨v, r, rfl, h1, h2⟩ := h
    cases d with
    | bl b =>
      cases (show v = .bl b from h1)
      unfold blsOf at e
      cases g : blsOf ds with
      | none => rw [g] at e; cases e
      | some cs => rw [g] at e; cases e; rw [blsOf_rep h2 g]; rfl
    | _ => cases e
def intsOf : List D → Option (List Int)
  | [] => some []
  | .int b :: ds => (intsOf ds).map (b :: ·)
  | _ => none
theorem intsOf_rep {G : Gd} {U : Addr → Prop} {H : Hp} : ∀ {ds : List D} {vs : List V} {bs : List Int}, RepL G U H ds vs → intsOf ds = some bs → vs = bs.map V.int
  | [], _, _, h, e => by cases e; exact h
  | d :: ds, _, bs, h, e => by
    obtain ⟨v, r, rfl, h1, h2⟩ := h
    cases d with
    | int b =>
      cases (show v = .int b from h1)
      unfold intsOf at e
      cases g : intsOf ds with
      | none => rw [g] at e; cases e
      | some cs => rw [g] at e; cases e; rw [intsOf_rep h2 g]; rfl
    | _ => cases e
def quD (f : List Bool → Bool) : List D → M D
  | [.lst xs] => match blsOf xs with
    | some bs => rt (.bl (f bs))
    | none => bad
  | _ => bad
def bAll : Bi := ⟨"all", quD fun bs => bs.all id⟩
def bAny : Bi := ⟨"any", quD fun bs => bs.any id⟩
theorem bAll_ok : bAll.Ok G k := fun X N W hX => BiF.fn (id := "all") (by show ("all" : Str) ∈ bltNames; decide +kernel) (by show bootBuiltins ("all" : Str) = _; decide +kernel) fun pins s σ H vs us Q U z ds I r p rl q => by
  have q : PostD G.g U H W (quD (fun bs => bs.all id) ds z) Q := q
  unfold quD at q
  split at q
  · rename_i xs q0
    obtain ⟨v, rfl, h⟩ := rl.one
    obtain ⟨a, ws, rfl, h1, h3, h2⟩ := h.lst
    cases g : blsOf xs with
    | none => rw [g] at q; exact q.elim
    | some bs =>
      rw [g] at q
      cases blsOf_rep h2 g
      exact cr_all hX.calm pins s σ H _ us Q I r ⟨a, bs, rfl, .inl (.inl h1), PostR.here q p.st rfl⟩
  · exact q.elim
theorem bAny_ok : bAny.Ok G k := fun X N W hX => BiF.fn (id := "any") (by show ("any" : Str) ∈ bltNames; decide +kernel) (by show bootBuiltins ("any" : Str) = _; decide +kernel) fun pins s σ H vs us Q U z ds I r p rl q => by
  have q : PostD G.g U H W (quD (fun bs => bs.any id) ds z) Q := q
  unfold quD at q
  split at q
  · rename_i xs q0
    obtain ⟨v, rfl, h⟩ := rl.one
    obtain ⟨a, ws, rfl, h1, h3, h2⟩ := h.lst
    cases g : blsOf xs with
    | none => rw [g] at q; exact q.elim
    | some bs =>
      rw [g] at q
      cases blsOf_rep h2 g
      exact cr_any hX.calm pins s σ H _ us Q I r ⟨a, bs, rfl, .inl (.inl h1), PostR.here q p.st rfl⟩
  · exact q.elim
def sumD : List D → M D
  | [.lst xs] => match intsOf xs with
    | some bs => rt (.int bs.sum)
    | none => bad
  | _ => bad
def bSum : Bi := ⟨"sum", sumD⟩
theorem bSum_ok : bSum.Ok G k := fun X N W hX => BiF.fn (id := "sum") (by show ("sum" : Str) ∈ bltNames; decide +kernel) (by show bootBuiltins ("sum" : Str) = _; decide +kernel) fun pins s σ H vs us Q U z ds I r p rl q => by
  have q : PostD G.g U H W (sumD ds z) Q := q
  unfold sumD at q
  split at q
  · rename_i xs q0
    obtain ⟨v, rfl, h⟩ := rl.one
    obtain ⟨a, ws, rfl, h1, h3, h2⟩ := h.lst
    cases g : intsOf xs with
    | none => rw [g] at q; exact q.elim
    | some bs =>
      rw [g] at q
      cases intsOf_rep h2 g
      exact cr_sum hX.calm pins s σ H _ us Q I r ⟨a, bs, rfl, .inl (.inl h1), PostR.here q p.st rfl⟩
  · exact q.elim
/-! ### methods of texts and numbers -/
theorem BmF {m : Bm} {T id : String} (h1 : PlainAttrs T) (h2 : Slot T m.name id) (h3 : typeOf (.builtin id) = pure (.type "method_descriptor")) (ht : ∀ (U : Addr → Prop) (H : Hp) (d : D) (v : V), RepW G.g U H d v → m.ty d = true → tyV X.K T v H)
    (h : ∀ (pins : List (Addr × Obj)) (s : Shared) (σ : St) (H : Hp) (x : V) (v : Value) (vs : List V) (us : List Value) (Q : VK) (U : Addr → Prop) (z : S) (d : D) (ds : List D), Inv X pins σ H s → RelV x v → Vals vs us → PreH G.g U H z → RepW G.g U H d x → m.ty d = true → RepLW G.g U H ds vs → PostD G.g U H W (m.g d ds z) Q →
      wpAny (model X.prog X.w) X.A (call (.builtin id) (v :: us)) (EP X pins σ Q) X.xe s) : BmOk G X W m :=
  ⟨T, id, fun x vs H Q => ∃ U z d ds, PreH G.g U H z ∧ RepW G.g U H d x ∧ m.ty d = true ∧ RepLW G.g U H ds vs ∧ PostD G.g U H W (m.g d ds z) Q, h1, h2, h3, fun pins s σ H x xs v us Q I rx rs ⟨U, z, d, ds, p, r1, r2, r3, q⟩ => h pins s σ H x v xs us Q U z d ds I rx rs p r1 r2 r3 q, ht,
    fun U H s d v ds vs Q p r1 r2 r3 q => ⟨U, s, d, ds, p, r1, r2, r3, q⟩⟩
def isStrD : D → Bool
  | .str _ => true
  | _ => false
def isIntD : D → Bool
  | .int _ => true
  | _ => false
def partD : D → List D → M D
  | .str x, [.str y] => gd ((y.length == 0) = false ∧ (Txt.partition x y).1.length ≤ sizeLine ∧ (Txt.partition x y).2.1.length ≤ sizeLine ∧ (Txt.partition x y).2.2.length ≤ sizeLine)
    (rt (.tup [.str (Txt.partition x y).1, .str (Txt.partition x y).2.1, .str (Txt.partition x y).2.2]))
  | _, _ => bad
def mPart : Bm := ⟨"partition", isStrD, partD⟩
theorem mPart_ok : mPart.Ok G k := fun X N W hX => BmF (T := "str") (id := "str.partition") PySem.F.plainAttrs_str PySem.F.slot_str_partition PySem.F.type_str_partition (fun U H d v r h => by
    cases d with
    | str x => cases r.str.1; rfl
    | _ => cases h) fun pins s σ H x v vs us Q U z d ds I rx rs p r1 r2 r3 q => by
  have q : PostD G.g U H W (partD d ds z) Q := q
  unfold partD at q
  split at q
  · rename_i a b q0
    obtain ⟨⟨h1, h2, h3, h4⟩, q⟩ := gd_of q
    obtain ⟨rfl, z1⟩ := r1.str
    obtain ⟨y, rfl, h⟩ := r3.one
    obtain ⟨rfl, z2⟩ := h.str
    refine mt_partition pins s σ H _ _ v us Q I rx rs ⟨a, b, rfl, rfl, h1, z1, fun t nt => ?_⟩
    exact q _ _ (Gr.upd nt) (p.st.upd nt) (Rep.tup_new (.cons ⟨rfl, h2⟩ (.cons ⟨rfl, h3⟩ (.cons ⟨rfl, h4⟩ .nil))) nt (p.free nt) (by rw [sizeLine_eq]; show 3 ≤ 16777216; omega))
  · exact q.elim
def bitsD : D → List D → M D
  | .int i, [] => rt (.int (Builtin.Int.intBits i : Nat))
  | _, _ => bad
def mBits : Bm := ⟨"bit_length", isIntD, bitsD⟩
theorem mBits_ok : mBits.Ok G k := fun X N W hX => BmF (T := "int") (id := "int.bit_length") PySem.F.plainAttrs_int PyProof.Rows.slot_int_bit_length PyProof.Rows.type_int_bit_length (fun U H d v r h => by
    cases d with
    | int x => cases r.int; rfl
    | _ => cases h) fun pins s σ H x v vs us Q U z d ds I rx rs p r1 r2 r3 q => by
  have q : PostD G.g U H W (bitsD d ds z) Q := q
  unfold bitsD at q
  split at q
  · cases r1.int
    cases (show vs = [] from r3)
    cases rs
    obtain ⟨t, rfl⟩ := rx
    exact PyProof.Rows.call_int_bit_length ⟨.int _, H, I.tok _, ⟨_, rfl⟩, PostR.here q p.st rfl⟩
  · exact q.elim
/-! ### isinstance -/
def kindB (T : String) : D → Option Bool
  | .non => some false
  | .bl _ => some (T == "bool" || T == "int")
  | .int _ => some (T == "int")
  | .str _ => some (T == "str")
  | .tup _ => some (T == "tuple")
  | .lst _ => some (T == "list")
  | .ins _ _ => some false
  | _ => none
def isTyD (T : String) (d : D) : M D := match kindB T d with
  | some b => rt (.bl b)
  | none => bad
def isIcD (c : Nat) (d : D) : M D := match d with
  | .ins c' _ => rt (.bl (c' == c))
  | d => match kindB "int" d with
    | some _ => rt (.bl false)
    | none => bad
/-- of what classes cs instances are looked at -/
def insIn (cs : List Nat) : D → Bool
  | .ins c _ => cs.contains c
  | _ => true
def isTy (T : String) (p : Pos) (cs : List Nat) : Ic := ⟨.Name (Str.ofString T) p, [Str.ofString T], fun d => if insIn cs d = true then isTyD T d else bad⟩
def isIc (c : Nat) (x : Str) (p : Pos) (cs : List Nat) : Ic := ⟨.Name x p, [x], fun d => if insIn cs d = true then isIcD c d else bad⟩
/-- a class as the top has made it, for isinstance -/
structure IcF (G : Wd) (c : Nat) : Prop where
  cl : Cls G.K (G.cl c)
  ha : PySem.W.findIn G.K (.ref (G.cl c)) "__class__" = some (some (.builtin "object.__class__"))
  hm : PySem.W.mroIn G.K (G.cl c) (.type "object") = some true
  tys : ∀ T ∈ ["int", "bool", "str", "tuple", "list", "dict"], PySem.W.kitOne G.K (.ref (G.cl c)) (.type T) = some false
/-- what is asked of the loader's part -/
structure BaseF (G : Wd) : Prop where
  hn : PySem.W.specialIn G.K (.builtin "object.__class__") "__get__" = some (some (.builtin "getset_descriptor.__get__"))
  htk : PySem.W.takesIn G.K (.builtin "object.__class__") = some true
/-- all classes of which instances are made -/
def ClsAll (G : Wd) (cs : List Nat) : Prop := BaseF G ∧ ∀ c ∈ cs, IcF G c
theorem tyX_of {G : Wd} {K : PySem.W.Frag} {cs : List Nat} (hK : K = G.K) (A : ClsAll G cs) {U : Addr → Prop} {H : Hp} {d : D} {x : V} (r : Rep G.g U H d x) : (match d with
    | .non => TyX K H x (.type "NoneType")
    | .bl _ => TyX K H x (.type "bool")
    | .int _ => TyX K H x (.type "int")
    | .str _ => TyX K H x (.type "str")
    | .tup _ => TyX K H x (.type "tuple")
    | .lst _ => TyX K H x (.type "list")
    | .ins c _ => c ∈ cs → TyX K H x (.ref (G.cl c))
    | _ => True : Prop) := by
  subst hK
  cases d with
  | non => cases (show x = .non from r); exact .base .non
  | bl b => cases (show x = .bl b from r); exact .base (.bl _)
  | int i => cases (show x = .int i from r); exact .base (.int _)
  | str z => obtain ⟨rfl, _⟩ := r; exact .base (.str _)
  | tup xs => obtain ⟨a, vs, rfl, _, h, _⟩ := r; exact .base (.tup h)
  | lst xs => obtain ⟨a, vs, rfl, _, h, _⟩ := r; exact .base (.lst h)
  | ins c xs =>
    intro hc
    obtain ⟨a, dx, vs, rfl, _, h, _⟩ := r
    have f := A.2 c hc
    exact .base (.ins h f.cl f.ha A.1.hn A.1.htk f.hm)
  | _ => trivial
/-- what the library's types tell of each other -/
structure TyF (T : String) : Prop where
  mem : T ∈ ["int", "bool", "str", "tuple", "list", "dict"]
  blt : Str.ofString T ∈ bltNames
  boot : bootBuiltins (Str.ofString T) = some (.type T)
  non : kitB "NoneType" T = some false
  bl : kitB "bool" T = some (T == "bool" || T == "int")
  int : kitB "int" T = some (T == "int")
  str : kitB "str" T = some (T == "str")
  tup : kitB "tuple" T = some (T == "tuple")
  lst : kitB "list" T = some (T == "list")
theorem tyF_int : TyF "int" := ⟨by decide +kernel, by decide +kernel, by decide +kernel, by decide +kernel, by decide +kernel, by decide +kernel, by decide +kernel, by decide +kernel, by decide +kernel⟩
theorem tyF_bool : TyF "bool" := ⟨by decide +kernel, by decide +kernel, by decide +kernel, by decide +kernel, by decide +kernel, by decide +kernel, by decide +kernel, by decide +kernel, by decide +kernel⟩
theorem tyF_str : TyF "str" := ⟨by decide +kernel, by decide +kernel, by decide +kernel, by decide +kernel, by decide +kernel, by decide +kernel, by decide +kernel, by decide +kernel, by decide +kernel⟩
theorem tyF_tuple : TyF "tuple" := ⟨by decide +kernel, by decide +kernel, by decide +kernel, by decide +kernel, by decide +kernel, by decide +kernel, by decide +kernel, by decide +kernel, by decide +kernel⟩
theorem tyF_list : TyF "list" := ⟨by decide +kernel, by decide +kernel, by decide +kernel, by decide +kernel, by decide +kernel, by decide +kernel, by decide +kernel, by decide +kernel, by decide +kernel⟩
theorem tyF_dict : TyF "dict" := ⟨by decide +kernel, by decide +kernel, by decide +kernel, by decide +kernel, by decide +kernel, by decide +kernel, by decide +kernel, by decide +kernel, by decide +kernel⟩
theorem isTy_ok {T : String} {p : Pos} {cs : List Nat} (F : TyF T) (A : ClsAll G cs) : (isTy T p cs).Ok G k := ⟨fun _ _ => rfl, fun X N W hX hg => by
  have hn := blt_ne _ F.blt
  have gl := Sc.gl (hg (Str.ofString T) List.mem_cons_self)
  refine ⟨_, pe_bltn (v := .ty T) gl.1 (hX.bl _ F.blt) F.boot rfl hn.1 hn.2, rIsi X.K, call_isi, fun U σ H s d v Q p' r q => ?_⟩
  show rIsi X.K [v, .ty T] H Q
  have q : PostD G.g U H W ((if insIn cs d = true then isTyD T d else bad) s) Q := q
  by_cases hc : insIn cs d = true
  · rw [if_pos hc] at q
    have ty := tyX_of hX.K A r
    have fin : ∀ (t : Value) (b : Bool), TyX X.K H v t → PySem.W.kitOne X.K t (.type T) = some b → PostD G.g U H W (.ok (.bl b) s) Q → rIsi X.K [v, .ty T] H Q := fun t b h1 h2 h3 => ⟨v, .ty T, t, .type T, b, rfl, .ty T, h1, h2, PostR.here h3 p'.st rfl⟩
    cases d with
    | non => exact fin _ _ ty (kit_ty F.non) q
    | bl b => exact fin _ _ ty (kit_ty F.bl) q
    | int b => exact fin _ _ ty (kit_ty F.int) q
    | str b => exact fin _ _ ty (kit_ty F.str) q
    | tup b => exact fin _ _ ty (kit_ty F.tup) q
    | lst b => exact fin _ _ ty (kit_ty F.lst) q
    | ins c xs =>
      have hc : c ∈ cs := List.contains_iff_mem.mp hc
      have f := (A.2 c hc).tys T F.mem
      rw [← hX.K] at f
      exact fin _ _ (ty hc) f q
    | _ => exact q.elim
  · rw [if_neg hc] at q
    exact q.elim⟩
/-- a class as the second argument of isinstance -/
structure IcO (G : Wd) (c : Nat) (x : Str) (cs : List Nat) : Prop where
  at_ : G.mg x = some (.ref (G.cl c))
  tys : ∀ T ∈ ["NoneType", "int", "bool", "str", "tuple", "list"], PySem.W.kitOne G.K (.type T) (.ref (G.cl c)) = some false
  own : ∀ c' ∈ cs, PySem.W.kitOne G.K (.ref (G.cl c')) (.ref (G.cl c)) = some (c' == c)
theorem isIc_ok {c : Nat} {x : Str} {p : Pos} {cs : List Nat} (F : IcO G c x cs) (A : ClsAll G cs) : (isIc c x p cs).Ok G k := ⟨fun _ _ => rfl, fun X N W hX hg => by
  have gl := Sc.gl (hg x List.mem_cons_self)
  refine ⟨_, pe_glob (v := .ref (G.cl c)) gl.1 (by rw [hX.mg]; exact F.at_) rfl gl.2, rIsi X.K, call_isi, fun U σ H s d v Q p' r q => ?_⟩
  show rIsi X.K [v, .ref (G.cl c)] H Q
  have q : PostD G.g U H W ((if insIn cs d = true then isIcD c d else bad) s) Q := q
  by_cases hc : insIn cs d = true
  · rw [if_pos hc] at q
    have ty := tyX_of hX.K A r
    have tys := F.tys
    have own := F.own
    rw [← hX.K] at tys own
    have fin : ∀ (t : Value) (b : Bool), TyX X.K H v t → PySem.W.kitOne X.K t (.ref (G.cl c)) = some b → PostD G.g U H W (.ok (.bl b) s) Q → rIsi X.K [v, .ref (G.cl c)] H Q := fun t b h1 h2 h3 => ⟨v, .ref (G.cl c), t, .ref (G.cl c), b, rfl, .own _, h1, h2, PostR.here h3 p'.st rfl⟩
    cases d with
    | non => exact fin _ _ ty (tys _ (by decide)) q
    | bl b => exact fin _ _ ty (tys _ (by decide)) q
    | int b => exact fin _ _ ty (tys _ (by decide)) q
    | str b => exact fin _ _ ty (tys _ (by decide)) q
    | tup b => exact fin _ _ ty (tys _ (by decide)) q
    | lst b => exact fin _ _ ty (tys _ (by decide)) q
    | ins c' xs =>
      have hc : c' ∈ cs := List.contains_iff_mem.mp hc
      exact fin _ _ (ty hc) (own c' hc) q
    | _ => exact q.elim
  · rw [if_neg hc] at q
    exact q.elim⟩
end
end Dn
/-! DnTxt: int(text) and str(int) up to 4300 digits. -/
namespace Dn
open PySem L2 PySem.NumText
/-- the loader has set no limit for digits -/
def NoDig (K : PySem.W.Frag) : Prop := PySem.W.nsIn K cStatics "sys.int_max_str_digits" = some none
section
variable {X : Cx} {pins : List (Addr × Obj)} {σ : St} {H : Hp} {s : Shared}
theorem ns_none {K : PySem.W.Frag} {h : Heap} {a : Addr} {m : Str → Option Value} {n : Str} (x : K.In h) (g : h.Ns a m) (e : PySem.W.nsIn K a n = some none) : m n = none := by
  obtain ⟨o, es, ep, ho, hd, _, hf⟩ := g
  unfold PySem.W.nsIn at e
  split at e
  · rename_i q
    have t := x _ _ q
    rw [ho] at t
    cases t
    cases hd
    split at e
    · cases e
    · rename_i he
      rw [← hf]
      unfold nsFind findBy
      rw [← Array.find?_toList, he]
      rfl
  · cases e
theorem noDig (I : Inv X pins σ H s) (hz : NoDig X.K) : s.heap.NoDigits := by
  obtain ⟨m, hm, _⟩ := I.nolimit
  exact ⟨m, hm, ns_none I.kIn hm hz⟩
theorem intText_len {x : PySem.Str} (hx : x.length ≤ sizeLine) {n : Int} (hn : PySem.intText? x = some n) :
    (int_private% "readNumeral") (numLimitOf x) 10 (numSeenOf x) = (int_private% "Numeral.value") n ∧ ((numSeenOf x).length == (numTextOf x).length) = true := by
  rcases readAny x hx with ⟨m, h1, h2, h3⟩ | ⟨h1, _⟩
  · rw [hn] at h1
    cases h1
    exact ⟨h3, h2⟩
  · rw [hn] at h1
    cases h1
theorem wp_long {M : Model} {A : Around} {E : Value → Shared → Prop} {s : Shared} {Q : Value → Shared → Prop} {v : Value} {text : List Nat} {n : Int} (hd : s.heap.NoDigits) (hs : ¬ (text.takeWhile (· != 0)).length ≤ 640)
    (hr : (int_private% "readNumeral") 4300 10 (text.takeWhile (· != 0)) = (int_private% "Numeral.value") n) (ha : ((text.takeWhile (· != 0)).length == text.length) = true) (h : Q (.int n s.toks) { s with toks := s.toks + 1 }) :
    wpAny M A ((int_private% "intFromText") v text 10) Q E s := by
  obtain ⟨mc, hns, hnone⟩ := hd
  have lim : ∀ {Q : Nat → Shared → Prop}, Q 4300 s → wpAny M A Builtin.intMaxStrDigits Q E s := fun {Q} q => by
    unfold Builtin.intMaxStrDigits
    refine wpAny_bind (wpAny_nsGet hns ?_)
    rw [hnone]
    exact wpAny_pure q
  obtain ⟨hp, g, d, tk, os⟩ := s
  repeat (any_goals (first
    | assumption
    | (with_reducible refine wpAny_ite_false (decide_eq_false hs) ?_)
    | (with_reducible refine wpAny_ite_true (decide_eq_true ha) ?_)
    | ((with_reducible show wpAny _ _ Builtin.intMaxStrDigits _ _ _); refine lim ?_)
    | wp_step))
  all_goals (try rw [hr])
  all_goals (try dsimp only)
  repeat (any_goals (first
    | assumption
    | (with_reducible refine wpAny_ite_false (decide_eq_false hs) ?_)
    | (with_reducible refine wpAny_ite_true (decide_eq_true ha) ?_)
    | wp_step))
theorem new_text {x : PySem.Str} {u : Tok} {n : Int} (hx : x.length ≤ sizeLine) (hn : PySem.intText? x = some n) :
    Meets (Builtin.«int.__new__» ⟨[.type "int", .str x u], []⟩) (fun _ R s => s.heap.NoDigits ∧ R (.ok (.ret (.int n s.toks))) { s with toks := s.toks + 1 }) :=
  .of_wp fun prog w A R s h => by
    have key : PySem.W.KIN.Hid (∀ (A : Around) (E : Value → Shared → Prop) (Q : Value → Shared → Prop) (v : Value), Q (.int n s.toks) { s with toks := s.toks + 1 } → wpAny (model prog w) A ((int_private% "intFromText") v (numTextOf x) 10) Q E s) := ⟨fun A E Q v q => by
      have hr := intText_len hx hn
      by_cases hs : (numSeenOf x).length ≤ 640
      · rw [show numLimitOf x = 0 from if_pos hs] at hr
        exact PySem.W.KIN.wp_text hs hr.1 hr.2 q
      · rw [show numLimitOf x = 4300 from if_neg hs] at hr
        exact wp_long h.1 hs hr.1 hr.2 q⟩
    have h := h.2
    clear hn hx
    obtain ⟨hp, g, d, tk, os⟩ := s
    have f1 := F.conv_sub_int
    have f2 := F.madeHere_int
    have f3 := PySem.W.KIN.str_int
    have f4 := PySem.W.KIN.str_idx
    have f5 := PySem.W.KIN.str_trunc
    have f6 : typeOf (.str x u) = pure (.type "str") := rfl
    repeat (any_goals (first
      | assumption
      | ((with_reducible show wpAny _ _ ((int_private% "intFromText") _ _ _) _ _ _); refine key.out _ _ _ _ ?_)
      | wp_step))
    all_goals first | exact ⟨_, rfl, h⟩ | skip
theorem int_text {prog : Program} {w : World} {A : Around} {E : Value → Shared → Prop} {s : Shared} {x : PySem.Str} {u : Tok} {n : Int} {Q : Value → Shared → Prop} (hd : s.heap.NoDigits) (hx : x.length ≤ sizeLine) (hn : PySem.intText? x = some n) (h : Q (.int n s.toks) { s with toks := s.toks + 1 }) :
    wpAny (model prog w) A (call (.type "int") [.str x u]) Q E s := PySem.call_int_1 (new_text hx hn) ⟨hd, rfl, h⟩
end
section
variable {G : Wd} {k : Nat}
def intD : List D → M D
  | [.int i] => rt (.int i)
  | [.bl b] => rt (.int (if b = true then 1 else 0))
  | [.str x] => match PySem.intText? x with
    | some n => rt (.int n)
    | none => bad
  | _ => bad
def bInt : Bi := ⟨"int", intD⟩
theorem bInt_ok (hz : NoDig G.K) : bInt.Ok G k := fun X N W hX => BiF.ty (T := "int") (by show ("int" : Str) ∈ bltNames; decide +kernel) (by show bootBuiltins ("int" : Str) = _; decide +kernel) fun pins s σ H vs us Q U z ds I r p rl q => by
  have q : PostD G.g U H W (intD ds z) Q := q
  unfold intD at q
  split at q
  · obtain ⟨v, rfl, h⟩ := rl.one
    cases h.int
    exact call_int1 pins s σ H _ us Q I r (.inl ⟨_, rfl, PostR.here q p.st rfl⟩)
  · obtain ⟨v, rfl, h⟩ := rl.one
    cases h.bl
    exact call_int1 pins s σ H _ us Q I r (.inr ⟨_, rfl, PostR.here q p.st rfl⟩)
  · rename_i x q0
    obtain ⟨v, rfl, h⟩ := rl.one
    obtain ⟨rfl, hx⟩ := h.str
    cases e : PySem.intText? x with
    | none => rw [e] at q; exact q.elim
    | some n =>
      rw [e] at q
      obtain ⟨u, rfl, t, rfl⟩ := vals1 r
      exact int_text (noDig I (by rw [hX.K]; exact hz)) hx e ⟨.int n, H, I.tok _, ⟨_, rfl⟩, PostR.here q p.st rfl⟩
  · exact q.elim
/-- great numbers are written only where it is asked -/
def ten4000 : Nat := 10 ^ 4300
def strD : List D → M D
  | [.int i] => if i.natAbs.log2 < 12900 ∧ (Str.ofString (toString i)).length ≤ sizeLine then rt (.str (Str.ofString (toString i))) else bad
  | [.str x] => rt (.str x)
  | _ => bad
def bStr : Bi := ⟨"str", strD⟩
theorem lt_4300 {n : Nat} (h : n.log2 < 12900) : n < 10 ^ 4300 := Nat.lt_of_lt_of_le (PyProof.Rows.lt_of_log2 h) PyProof.Rows.pow_lo
theorem bStr_ok (hz : NoDig G.K) : bStr.Ok G k := fun X N W hX => BiF.ty (T := "str") (by show ("str" : Str) ∈ bltNames; decide +kernel) (by show bootBuiltins ("str" : Str) = _; decide +kernel) fun pins s σ H vs us Q U z ds I r p rl q => by
  have q : PostD G.g U H W (strD ds z) Q := q
  unfold strD at q
  split at q
  · rename_i i q0
    obtain ⟨v, rfl, h⟩ := rl.one
    cases h.int
    by_cases hc : i.natAbs.log2 < 12900 ∧ (Str.ofString (toString i)).length ≤ sizeLine
    · rw [if_pos hc] at q
      obtain ⟨u, rfl, t, rfl⟩ := vals1 r
      refine PyProof.Rows.str_of_int_or hX.room.hd (noDig I (by rw [hX.K]; exact hz)) (fun hl => ?_) (fun hl => absurd (lt_4300 hc.1) (Nat.not_lt.mpr hl))
      exact ⟨.str _, H, I.tok _, ⟨_, rfl⟩, PostR.here q p.st ⟨rfl, hc.2⟩⟩
    · rw [if_neg hc] at q
      exact q.elim
  · obtain ⟨v, rfl, h⟩ := rl.one
    obtain ⟨rfl, hx⟩ := h.str
    exact SkE.call_str_str pins s σ H _ us Q I r ⟨_, rfl, PostR.here q p.st ⟨rfl, hx⟩⟩
  · exact q.elim
end
end Dn
/-! DnEx: exceptions of own classes over an own class over Exception, made by an own __init__. -/
namespace Dn
section
open PySem PySem.W PySem.Calls PyProof.Rows PySem.HandSPX Builtin Builtin.ObjectAttr
abbrev exEnd : List Value := [.type "Exception", .type "BaseException", .type "object"]
/-- own classes, then what Exception stands on -/
def refsX : List Value → Bool
  | .ref _ :: r => refsX r
  | l => l == exEnd
theorem refsX_two {l : List Value} (h : refsX l = true) : (∃ c r, l = .ref c :: r ∧ refsX r = true) ∨ l = exEnd := by
  cases l with
  | nil => exact .inr (beq_iff_eq.mp h)
  | cons a r =>
    cases a with
    | ref c => exact .inl ⟨c, r, rfl, h⟩
    | _ => exact .inr (beq_iff_eq.mp h)
theorem refsX_ind {p : List Value → Prop} (h0 : p exEnd) (h1 : ∀ c r, p r → p (.ref c :: r)) : ∀ l : List Value, refsX l = true → p l
  | [], h => by cases h
  | a :: r, h => by
    rcases refsX_two h with ⟨c, r', e, k⟩ | e
    · obtain ⟨rfl, rfl⟩ := List.cons.inj e
      exact h1 c r (refsX_ind h0 h1 r k)
    · rw [e]
      exact h0
theorem refsX_pass (self : Value) (l : List Value) (h : refsX l = true) : refuseLoop self "__setattr__" l = pure () := by
  refine refsX_ind (p := fun l => refuseLoop self "__setattr__" l = pure ()) (F.store_Exception.passes self) (fun c r k => ?_) l h
  rw [refuseLoop_ref]
  exact k
theorem refsX_has (X : String) (l : List Value) (h : refsX l = true) : l.contains (.type X) = exEnd.contains (.type X) := by
  refine refsX_ind (p := fun l => l.contains (.type X) = exEnd.contains (.type X)) rfl (fun c r k => ?_) l h
  rw [List.contains_cons, k]
  rfl
theorem refsX_ne {l : List Value} (h : refsX l = true) : l.isEmpty = false := by
  cases l with
  | nil => cases h
  | cons _ _ => rfl
variable {prog : Program} {w : World} {A : Around} {R : Result → Shared → Prop} {hp : Heap} {g : Array GenState} {d : Drawn} {t : Nat} {os : OsState}
/-- self.name = v, the first one -/
theorem set_first {K : W.Frag} {name : Str} {tk : Tok} {v : Value} {x C : Addr} {fv : Array Value} {cd : ClassData} (X : K.In hp) (hx : hp.get? x = some { cls := .ref C, data := .fields fv }) (hcd : W.clsIn K C = some cd) (hm : refsX cd.mro = true)
    (hh : cd.hasDict = true) (ha : W.findIn K (.ref C) name = some none)
    (hq : ∀ h' tk' dx, (∀ b o, b ≠ x → hp.get? b = some o → h'.get? b = some o) → hp.objs.size ≤ dx → dx ≠ x → h'.get? x = some { cls := .ref C, dict := some dx, data := .fields fv } →
      h'.Ns1 dx (fun y => if y = name then some v else none) → R (.ok (.ret .none)) ⟨h', g, d, tk', os⟩) :
    codeAny (model prog w) A (.call (.builtin "object.__setattr__") ⟨[.ref x, .str name tk, v], []⟩) R ⟨hp, g, d, t, os⟩ := by
  have inst : W.InstAt hp x { cls := .ref C, data := .fields fv } C none := ⟨hx, rfl, rfl, trivial⟩
  have st := F.store_object
  have ne := refsX_ne hm
  have obj : cd.mro.contains (.type "object") = true := (refsX_has "object" _ hm).trans (by decide +kernel)
  have far : x ≠ hp.objs.size := Nat.ne_of_lt (Heap.lt_size hx)
  have sub : W.Looks (model prog w) hp (isInstance (.ref x) (.type "object")) true :=
    inst.type.andThen (W.looks_mroIn X (by
      unfold W.mroIn
      rw [hcd, Option.bind_some, if_neg (by rw [ne]; decide), obj]))
  refine codeAny_call_builtin st.slot.plain st.entry
    (@W.check_slot (model prog w) _ _ ⟨hp, g, d, t, os⟩ "object.__setattr__" "object" "__setattr__" (.ref x) [.str name tk, v] [] _
      st.kind st.split sub (st.args (.ref x) (.str name tk) v) ?_)
  have l1 : W.Looks (model prog w) hp (mroOf (.ref C)) cd.mro := (W.looks_clsIn X hcd).andThen .now
  have l2 : W.Looks (model prog w) hp (storeTaker? none) none := .now
  have l3 : W.Looks (model prog w) hp (classData C) cd := W.looks_clsIn X hcd
  rw [W.osa_eq, refuse_eq]
  refine wpAny_bind (wpAny_bind (inst.type.at (wpAny_bind (l1.at ?_))))
  rw [refsX_pass _ _ hm]
  refine wpAny_pure (wpAny_bind (inst.type.at (wpAny_bind
    ((W.looks_findIn X ha).at (wpAny_bind (l2.at ?_))))))
  show wpAny _ _ (storeInOwnDict (.ref x) (.ref C) (.str name tk) name v false) _ _ _
  obtain ⟨nm, bs, mro, ns, qn, hd, sn, sb, ab, col, del⟩ := cd
  dsimp only at hh
  subst hh
  unfold storeInOwnDict ownDictForStores
  repeat (first
    | with_reducible refine store_in_new ?_ ?_
    | with_reducible refine wpAny_loadPart_at hx ?_
    | with_reducible refine l3.at ?_
    | wp_step)
  · exact ⟨_, #[], _, (Heap.get?_update_ne _ _ _ _ far.symm).trans
      (Heap.get?_push_at rfl rfl), rfl, fun e he => absurd he (by simp), fun _ => rfl⟩
  · intro h' tk' hn' hs
    have hx1 : (hp.push { cls := .type "dict", data := .dict #[] }).get? x = some { cls := .ref C, data := .fields fv } := Heap.get?_push_of_some _ hx
    refine hq h' tk' hp.objs.size (fun b o hb ho => ?_) (Nat.le_refl _) far.symm ?_ hn'
    · exact (hs.2 b (Nat.ne_of_lt (Heap.lt_size ho))).trans
        ((Heap.get?_update_ne _ _ _ _ hb).trans (Heap.get?_push_of_some _ ho))
    · exact (hs.2 x far).trans (Heap.get?_update_self _ hx1 rfl)
end
open PySem L2
/-- such a class, as the top has made it -/
structure XcC (K : PySem.W.Frag) (C : Addr) : Prop where
  cls : ∃ nm q N bs bm sn sub ab col dd k0 k1 k2 k3 k5, K.lookup C = some (excClassObj nm q C N bs bm true sn sub ab col dd k0 k1 k2 k3 k5 "Exception.__new__") ∧ refsX bm = true
  sa : PySem.W.findIn K (.ref C) "__setattr__" = some (some (.builtin "object.__setattr__"))
  exC : PySem.W.subIn K (.ref C) (.type "BaseException") = some true
  tyC : PySem.W.typeIn K (.ref C) = some (.type "type")
  kC : PySem.W.keepIn K (.ref C) = true
/-- the class between, whose __init__ is Exception's -/
structure XcB (K : PySem.W.Frag) (F : Addr) : Prop where
  ga : PySem.W.specialIn K (.ref F) "__getattribute__" = some (some (.builtin "type.__getattribute__"))
  rd : PySem.W.readsIn K F (.type "type") = true
  at_ : PySem.W.findCls K (.ref F) (.type "type") "__init__" = some (.val (.builtin "Exception.__init__"))
section
variable {X : Cx} {pins : List (Addr × Obj)} {σ : St} {H : Hp} {s : Shared} {a C dx : Addr} {f : Str} {y : V} {u : Value} {fs : List (Str × V)} {Q : Unit → Shared → Prop} {E : Value → Shared → Prop} {A : Around}
/-- self.f = y, the first one -/
theorem set_self (T : XcC X.K C) (I : Inv X pins σ H s) (e : H a = some (exo a C none)) (hno : PySem.W.findIn X.K (.ref C) f = some none) (ry : RelV y u)
    (h : ∀ dx s', H dx = none → dx ≠ a → Inv X pins σ (upd (upd H dx (exd dx [(f, y)])) a (exo a C (some dx))) s' → Q () s') : wpAny (model X.prog X.w) A (setAttr (.ref a) f u) Q E s := by
  obtain ⟨nm, q, N, bs, bm, sn, sub, ab, col, dd, k0, k1, k2, k3, k5, hC, hbm⟩ := T.cls
  have hcl : PySem.W.clsIn X.K C = some { name := nm, bases := bs, mro := .ref C :: bm, ns := N, qualname := q, hasDict := true, slotNames := sn, subclasses := sub, abstract := ab, collection := col, hasDel := false } := by unfold PySem.W.clsIn; rw [hC] <;> rfl
  obtain ⟨t1, ho⟩ := exo_at I.hok e
  obtain ⟨hp, g, d, t, os⟩ := s
  refine PySem.W.set_plain I.kIn (ox := { cls := .ref C, dict := none, data := .fields #[.ref t1, .none, .none, .none, .bool false, .none] }) (od := none) ⟨ho, rfl, rfl, trivial⟩ T.sa ?_
  refine set_first I.kIn ho hcl (show refsX (.ref C :: bm) = true from hbm) rfl hno (fun h' tk' dx k dn dne hx hn => ?_)
  have hnd : H dx = none := I.hok.fresh dn
  have nd : ∀ {b : Addr} {o : Obj}, hp.get? b = some o → b ≠ dx := fun {b o} q => Nat.ne_of_lt (Nat.lt_of_lt_of_le (Heap.lt_size q) dn)
  have na : ∀ {b : Addr}, H b = none → b ≠ a := fun {b} n z => by
    rw [z, e] at n
    cases n
  have Un1 : Un X.fs [] H (upd (upd H dx (exd dx [(f, y)])) a (exo a C (some dx))) hp h' := {
    keep := fun b o q n _ _ => k b o (na n) q
    slot := fun b o q n _ _ => ⟨o.slots, k b o (na n) q⟩
    free := fun b o q n _ => by rw [upd_ne (na n), upd_ne (nd q)]; exact n
    there := fun b o q _ => by
      by_cases hb : b = a
      · exact ⟨_, by rw [hb]; exact hx⟩
      · exact ⟨o, k b o hb q⟩
    tups := fun b xs q => by rw [upd_ne (at_ne e q exo_tup), upd_ne (ne_of_none q hnd)]; exact q
    frzs := fun b o v q => by rw [upd_ne (at_ne e q exo_frz), upd_ne (ne_of_none q hnd)]; exact q
    tbls := fun b ps q => ⟨#[], by rw [upd_ne (at_ne e q exo_tbl), upd_ne (ne_of_none q hnd), q]; simp⟩ }
  refine h dx _ hnd dne (I.un (t' := tk') Un1 fun b o q => ?_)
  by_cases hb : b = a
  · subst hb
    rw [upd_same] at q
    cases q
    exact exo_ok hx
  · rw [upd_ne hb] at q
    by_cases hd : b = dx
    · subst hd
      rw [upd_same] at q
      cases q
      exact exd_ok hn (relO_put (fs := []) ry fun g => True.intro)
    · rw [upd_ne hd] at q
      exact (I.hok b o q).stay (fun c v hc z => k c v (by
          rcases hc with hc | hc
          · rw [hc]
            exact hb
          · exact at_ne e hc exo_own) z)
        (fun c hc => by rw [upd_ne (at_ne e hc exo_own), upd_ne (ne_of_none hc hnd)]; exact hc) (fun c xs hc => by rw [upd_ne (at_ne e hc exo_tup), upd_ne (ne_of_none hc hnd)]; exact hc)
/-- Exception.__init__(self, ..): nothing of it is told -/
theorem init_self {us : List Value} {Q : Value → Shared → Prop} (T : XcC X.K C) (I : Inv X pins σ H s) (e : H a = some (exo a C none)) (hl : us.length ≤ sizeLine) (h : ∀ s', Inv X pins σ H s' → Q .none s') :
    wpAny (model X.prog X.w) A (call (.builtin "Exception.__init__") (.ref a :: us)) Q E s := by
  obtain ⟨nm, q, N, bs, bm, sn, sub, ab, col, dd, k0, k1, k2, k3, k5, hC, hbm⟩ := T.cls
  obtain ⟨t1, ho⟩ := exo_at I.hok e
  obtain ⟨hp, g, d, t, os⟩ := s
  refine wpAny_call (PySem.HandSPX.init_base F.excBase_Exception (fun Y => refsX_has Y bm hbm) (I.kIn _ _ hC) ho hl fun h' t2 k hx => ?_)
  have J := I.write (t' := t) (x := a) (e := a) (o := exo a C none) (by rw [e]; exact True.intro) (.inl rfl) k ⟨_, hx⟩ (exo_ok hx)
  have eu : upd H a (exo a C none) = H := by
    funext b
    by_cases hb : b = a
    · rw [hb, upd_same, e]
    · rw [upd_ne hb]
  rw [eu] at J
  exact h _ J
end
/-! ### the rules of such an __init__ -/
def tBaseI (K : PySem.W.Frag) (ta : TA) : TE := fun σ H Q => ta σ H fun vs H1 => ∃ (a C : Addr) (ws : List V), vs = .ref a :: ws ∧ ws.length ≤ 1000 ∧ XcC K C ∧ H1 a = some (exo a C none) ∧ Q .non H1
def tSelf (K : PySem.W.Frag) (f : Str) (to te : TE) : TS := fun D σ H => te σ H fun y H1 => to σ H1 fun x H2 => ∃ a C : Addr, x = .ref a ∧ XcC K C ∧ PySem.W.findIn K (.ref C) f = some none ∧
  H2 a = some (exo a C none) ∧ ∀ dx, H2 dx = none → dx ≠ a → D.nx σ (upd (upd H2 dx (exd dx [(f, y)])) a (exo a C (some dx)))
section
variable {X : Cx} {o e : Expr} {es : List Expr} {to te : TE} {ta : TA} {f x : Str} {F : Addr} {p p' p1 p2 pos : Pos}
/-- F.__init__(self, ..), F an own class that has none of its own -/
theorem pe_baseinit {pl : Sem Bool} (hg : Gl X x) (hm : X.mg x = some (.ref F)) (hb : XcB X.K F) (hdb : (x == ("__debug__" : Str)) = false) (ha : PA X (e :: es) ta) (hc : eval (.Call (.Attribute (.Name x p1) "__init__" p2) (e :: es) [] pos) X.env = (do
      let cls ← eval (.Name x p1) X.env
      standAt p2.atName
      let (fn, more) ← holding [cls] (getMethod cls "__init__" pl)
      callWith pos fn more (backTo pos (starEach (e :: es) X.env))
        (backToKw pos (keywordEach [] X.env))) := by rfl)
    (he : starEach (e :: es) X.env = (false, eval e X.env) :: starEach es X.env := by rfl) (hpl : (backTo pos (starEach es X.env)).any (·.1) = false := by rfl) : PE X (.Call (.Attribute (.Name x p1) "__init__" p2) (e :: es) [] pos) (tBaseI X.K ta) := by
  refine ⟨fun pins s σ H Q I h => ?_⟩
  refine PySem.W.methodCall_KW (ld_glob I hg hm ?_ hdb) hc
  refine PySem.W.method_cls I.kIn hb.ga (PySem.W.cls_read I.kIn hb.rd hb.at_ ?_)
  refine wpAny_pure (PySem.W.handed_on (by decide +kernel) ?_)
  show wpAny _ _ (callWith pos (Value.builtin "Exception.__init__") [] (backTo pos (starEach (e :: es) X.env)) []) _ _ _
  refine PyProof.Rows.callWith_method1 (thn (ha.run pos pins _ σ H _ (I.tok _) h) fun us s1 ⟨vs, H1, I1, r1, a, C, ws, ev, hl, T, ea, q⟩ => ?_) he hpl
  subst ev
  cases r1 with
  | @cons _ u0 _ ur ra rw' =>
    obtain rfl : u0 = Value.ref a := ra
    have few : ur.length ≤ sizeLine := by
      rw [← Paired.length rw', sizeLine_eq]
      omega
    exact init_self T I1 ea few fun s' J => ⟨.non, H1, J, rfl, q⟩
theorem ps_self (ho : PE X o to) (he : PE X e te) (hs : swapsWith e (some (.Attribute o f p')) pos.line X.env = pure false := by rfl) : PS X (.Assign [.Attribute o f p'] e pos) (tSelf X.K f to te) := by
  refine ⟨fun pins s σ H D I h => ?_⟩
  refine plainObj_wpAny_Assign_Attribute (thn (he.run pins s σ H _ I h) fun v s1 ⟨y, H1, I1, r1, q1⟩ => thn (ho.run pins s1 σ H1 _ I1 q1) fun u s2 ⟨x, H2, I2, r2, a, C, ex, T, hno, ea, q⟩ => ?_) hs
  subst ex
  obtain rfl : u = Value.ref a := r2
  exact set_self T I2 ea hno r1 fun dx s' n ne J => ⟨σ, _, J, q dx n ne⟩
/-- what such an __init__ promises -/
def spX (C : Addr) (f : Str) : Sp := fun vs H Q _ => ∃ (a : Addr) (y : V), vs = [.ref a, y] ∧ H a = some (exo a C none) ∧ ∀ dx, H dx = none → dx ≠ a → Q .non (upd (upd H dx (exd dx [(f, y)])) a (exo a C (some dx)))
end
/-- the __init__'s own text -/
structure XcI (st : Stmt) (base f : Str) : Prop where
  body : ∃ q0 q1 q2 q3 q4 q5 q6 q7 q8 q9, defBody st = [.Expr (.Call (.Attribute (.Name base q0) "__init__" q1) [.Name "self" q2, .Name f q3] [] q4) q5, .Assign [.Attribute (.Name "self" q6) f q7] (.Name f q8) q9] ∧ (q1.endLine == q4.line) = true
  sc : FnScope ["self", f] ["self", f] (defScope st)
  gl : glB (defScope st) base = true
  v0 : nmB ["self", f] (defScope st) 0 "self" = true
  v1 : nmB ["self", f] (defScope st) 1 f = true
theorem init_ok {P : Program} {w : World} {K : PySem.W.Frag} {mg : Str → Option Value} {base : Heap} {qual b f : Str} {st : Stmt} {fI C F : Addr} {fd : FuncData} (I : XcI st b f) (Fn : Fun K "__init__" qual st fI fd) (hm : mg b = some (.ref F)) (hb : XcB K F) (T : XcC K C) (hno : PySem.W.findIn K (.ref C) f = some none) :
    FnOk P w K mg base CX0 1 fI fd ["self", f] (spX C f) := by
  refine Fn.ok I.sc (fun vs H Q E h => ?_) (fun cdv A outer s H vs Q E hr h => ?_)
  · obtain ⟨a, y, rfl, _⟩ := h
    rfl
  · obtain ⟨a, y, rfl, ha, k⟩ := h
    obtain ⟨q0, q1, q2, q3, q4, q5, q6, q7, q8, q9, e, hline⟩ := I.body
    rw [e]
    have g := Sc.gl (X := (cxOf CX0 P w K mg base ["self", f] qual (defScope st) fI cdv A outer s H E).nox) I.gl
    obtain ⟨n1, n2, n3, n4⟩ := nmB_of (X := (cxOf CX0 P w K mg base ["self", f] qual (defScope st) fI cdv A outer s H E).nox) rfl I.v0
    obtain ⟨m1, m2, m3, m4⟩ := nmB_of (X := (cxOf CX0 P w K mg base ["self", f] qual (defScope st) fI cdv A outer s H E).nox) rfl I.v1
    refine ⟨_, pss_cons (ps_expr (pe_baseinit g.1 hm hb g.2 (pa_cons (pe_var n1 n2 n3 n4) (pa_cons (pe_var m1 m2 m3 m4) pa_nil))
      (mt_form (.glo b .non q0) "__init__" q1 q4 _ (.cons (.var 0 "self" q2) (.cons (.var 1 f q3) .nil)) (by show 2 < 29; decide) hline))) (pss_one (ps_self (pe_var n1 n2 n3 n4) (pe_var m1 m2 m3 m4))), ?_⟩
    refine ⟨_, rfl, _, rfl, a, C, [y], rfl, by show 1 ≤ 1000; decide, T, ha, ?_⟩
    refine ⟨_, rfl, _, rfl, a, C, rfl, T, hno, ha, fun dx hd ne => ?_⟩
    exact k dx hd ne
/-! ### raise -/
section
variable {X : Cx} {e : Expr} {es : List Expr} {ta : TA} {p pos : Pos}
/-- C(e, ..) for a raise, C's own __init__ keeping sp -/
theorem pmk_text {CX : CXT} {x : Str} {C fI : Addr} {k : Nat} {fd : FuncData} {ps : List Str} {sp : Sp} {R : XK → List V → Hp → Prop} (T : XcC X.K C) (iC : PySem.W.findIn X.K (.ref C) "__init__" = some (some (.ref fI))) (tI : PySem.W.typeIn X.K (.ref fI) = some (.type "function"))
    (F1 : FnOk X.prog X.w X.K X.mg X.base CX k fI fd ps sp) (hr : Room (k + 1) X.A) (hb : Binds X.K fd ps []) (hx : Passes CX X (fun _ _ _ => False)) (hg : Gl X x) (hm : X.mg x = some (.ref C)) (ha : PA X (e :: es) ta)
    (hdb : (x == ("__debug__" : Str)) = false) (he : starEach (e :: es) X.env = (false, eval e X.env) :: starEach es X.env) (hpl : (backTo pos (starEach es X.env)).any (·.1) = false)
    (hR : ∀ Q vs H1, R Q vs H1 → vs.length ≤ 1000 ∧ ∀ a, H1 a = none → sp (.ref a :: vs) (upd H1 a (exo a C none))
      (fun v H2 => v = .non ∧ ∃ (d : Addr) (fs : List (Str × V)), H2 a = some (exo a C (some d)) ∧ H2 d = some (exd d fs) ∧ H1 d = none ∧ Q (.ref C) (some d) (upd (del H2 a) d (.xd fs))) (fun _ _ _ => False)) :
    PMk X (.Call (.Name x p) (e :: es) [] pos) (fun σ H Q => ta σ H (R Q)) := by
  intro pins s σ H Q I h
  obtain ⟨nm, q, N, bs, bm, sn, sub, ab, col, dd, k0, k1, k2, k3, k5, hC, hbm⟩ := T.cls
  refine wpAny_Call_Name_kw (ld_glob I hg hm ?_ hdb)
  refine PySem.W.callWith_K (h₀ := X.base) I.ok.mod.kin T.kC
    (thn (ha.run pos pins s σ H _ I h) fun us s1 ⟨vs, H1, I1, r1, q0⟩ => ⟨I1.kIn, ?_⟩) he hpl
  obtain ⟨hz, q1⟩ := hR _ _ _ q0
  show wpAny _ _ (call (.ref C) us) _ _ _
  obtain ⟨hp, g, dr, tk, os⟩ := s1
  have hsz : hp.objs.size ≤ hp.objs.size + 1 := Nat.le_succ _
  have hn : H1 (hp.objs.size + 1) = none := I1.hok.fresh hsz
  have hq := q1 (hp.objs.size + 1) hn
  have hget : ((hp.push (PySem.W.kdv_tup us)).push (PySem.HandSPX.excO C hp.objs.size)).get? (hp.objs.size + 1) = some (PySem.HandSPX.excO C hp.objs.size) := by heap_get
  have kk : ∀ b o, hp.get? b = some o → ((hp.push (PySem.W.kdv_tup us)).push (PySem.HandSPX.excO C hp.objs.size)).get? b = some o :=
    fun b o e => Heap.get?_push_of_some _ (Heap.get?_push_of_some _ e)
  generalize hE : ((hp.push (PySem.W.kdv_tup us)).push (PySem.HandSPX.excO C hp.objs.size)) = hG at hget kk
  have I2 : Inv X pins σ (upd H1 (hp.objs.size + 1) (exo (hp.objs.size + 1) C none)) ⟨hG, g, dr, tk, os⟩ :=
    I1.laid (t' := tk) (a := hp.objs.size + 1) (o := exo (hp.objs.size + 1) C none) (h' := hG) kk hsz (exo_ok hget)
  have r2 : Vals (V.ref (hp.objs.size + 1) :: vs) (Value.ref (hp.objs.size + 1) :: us) := .cons rfl r1
  have hl : (Value.ref (hp.objs.size + 1) :: us).length = ps.length := by
    have e := r2.length
    rw [F1.len _ _ _ _ hq] at e
    exact e.symm
  have hb1 := hb ⟨hG, g, dr, tk, os⟩ (Value.ref (hp.objs.size + 1) :: us) I2.kIn (by rw [List.append_nil]; exact hl)
  rw [List.append_nil] at hb1
  have hus : us.length ≤ sizeLine := by
    rw [← Paired.length r1, sizeLine_eq]
    omega
  refine wpAny_call (PySem.HandSPX.call_own F.excBase_Exception (fun Y => refsX_has Y bm hbm) (I1.kIn _ _ hC) (PySem.W.looks_findIn I1.kIn iC) (fun self => PySem.W.bind_fn I1.kIn self tI) hus ?_)
  rw [hE]
  refine codeAny_mono (F1.run _ X.stack _ _ ⟨Value.ref (hp.objs.size + 1) :: us, []⟩ (Value.ref (hp.objs.size + 1) :: us) _ _ (fun _ _ _ => False) (hr.make C us [])
    (I2.env0.make C us []) hb1 r2 hq) fun r s' hq' => ?_
  cases r with
  | error er => exact hx pins σ _ _ er s' I2 hq'
  | ok fl =>
    cases fl with
    | ret u =>
      obtain ⟨v, H2, os2, bare2, un2, hok2, rv, ev, d, fs, ea, ed, hd1, q2⟩ := hq'
      subst ev
      obtain ⟨h2, g2, d2, t2, os'⟩ := s'
      exact ⟨rv, mk_end (raises_own T.exC T.tyC) I1 hsz kk un2 hok2 os2 bare2 ea ed hd1 q2⟩
    | next => exact False.elim hq'
    | brk => exact False.elim hq'
    | cont => exact False.elim hq'
end
/-- an exception class of the text -/
structure XcF (G : Wd) (c : Nat) (name f : Str) (fI : Addr) (fd : FuncData) : Prop where
  cls : XcC G.K (G.cl c)
  at_ : G.mg name = some (.ref (G.cl c))
  ini : PySem.W.findIn G.K (.ref (G.cl c)) "__init__" = some (some (.ref fI))
  ty : PySem.W.typeIn G.K (.ref fI) = some (.type "function")
  fn : FnOk G.P G.w G.K G.mg G.base CX0 1 fI fd ["self", f] (spX (G.cl c) f)
  bd : Binds G.K fd ["self", f] []
  fld : fldsOf c = [f]
  nd : (name == ("__debug__" : Str)) = false
theorem rz_ok {G : Wd} {c k : Nat} {name f : Str} {fI : Addr} {fd : FuncData} (F : XcF G c name f fI fd) (hk : 2 ≤ k) : RzOk G c f name k := fun X N W hX => by
  have T := F.cls
  have ini := F.ini
  have ty := F.ty
  have fn := F.fn
  have bd := F.bd
  have at_ := F.at_
  rw [← hX.K] at T ini ty bd
  rw [← hX.mg] at at_
  rw [← hX.prog, ← hX.w, ← hX.K, ← hX.mg, ← hX.base] at fn
  refine ⟨F.fld, fun e te q pos hg pe hs => ?_⟩
  have he : starEach [e] X.env = (false, eval e X.env) :: starEach [] X.env := hs
  exact pmk_text (p := q) (pos := pos) (R := fun Q vs H1 => match vs with
      | [v] => ∀ d, H1 d = none → Q (.ref (G.cl c)) (some d) (upd H1 d (.xd [(f, v)]))
      | _ => False) T ini ty fn (hX.room.mono hk) bd (fun _ _ _ _ _ _ _ h => h.elim) hg at_ (pa_cons pe pa_nil he) F.nd he rfl fun Q vs H1 h => by
    match vs, h with
    | [v], h =>
      refine ⟨by show 1 ≤ 1000; decide, fun a ha => ⟨a, v, rfl, upd_same, fun dx hd ne => ⟨rfl, dx, [(f, v)], upd_same, ?_, ?_, ?_⟩⟩⟩
      · rw [upd_ne ne, upd_same]
      · rw [upd_ne ne] at hd
        exact hd
      · rw [upd_ne ne] at hd
        have e : upd (del (upd (upd (upd H1 a (exo a (G.cl c) none)) dx (exd dx [(f, v)])) a (exo a (G.cl c) (some dx))) a) dx (.xd [(f, v)]) = upd H1 dx (.xd [(f, v)]) := by
          funext b
          by_cases hb : b = dx
          · rw [hb, upd_same, upd_same]
          · rw [upd_ne hb, upd_ne hb]
            by_cases hba : b = a
            · rw [hba, del_same, ha]
            · rw [del_ne hba, upd_ne hba, upd_ne hb, upd_ne hba]
        rw [e]
        exact h dx hd
end Dn
/-! DnTry: defs called while an exception is handled; try with several clauses, named or not. -/
namespace Dn
open PySem L2
/-! ### defs that may be called whatever is handled -/
structure FnQ (P : Program) (w : World) (K : PySem.W.Frag) (mg : Str → Option Value) (base : Heap) (CX : CXT) (k : Nat) (f : Addr) (fd : FuncData) (ps : List Str) (sp : Sp) : Prop where
  len : ∀ vs H Q E, sp vs H Q E → vs.length = ps.length
  run : ∀ (A : Around) (outer : List Env) (s : Shared) (H : Hp) (args : Args) (us : List Value) (vs : List V) (Q : VK) (E : XK), L2H.RoomH k A → Env0 P w K mg base A outer s H → BindsTo s fd args (ps.zip us) → Vals vs us → sp vs H Q E → codeAny (model P w) A (.call (.ref f) args) (CR CX outer P w H s Q E) s
/-- the context of such a def's body -/
def cxQ (CX : CXT) (P : Program) (w : World) (K : PySem.W.Frag) (mg : Str → Option Value) (base : Heap) (N : List Str) (qual : Str) (scope : Scope) (f : Addr) (cd : Value) (A : Around) (outer : List Env) (s : Shared) (H : Hp) (E : XK) : Cx := { cxOf CX P w K mg base N qual scope f cd A outer s H E with calm := false }
/-- with nothing handled -/
def still (A : Around) : Around := { A with handled := none }
theorem env0_still {P : Program} {w : World} {K : PySem.W.Frag} {mg : Str → Option Value} {base : Heap} {A : Around} {outer : List Env} {s : Shared} {H : Hp} (e : Env0 P w K mg base A outer s H) : Env0 P w K mg base (still A) outer s H := ⟨e.frames, e.mod, e.bs, e.bsz, e.funs, e.frf, e.hok, e.bare⟩
theorem inv_q {CX : CXT} {P : Program} {w : World} {K : PySem.W.Frag} {mg : Str → Option Value} {base : Heap} {N : List Str} {qual : Str} {scope : Scope} {f : Addr} {cd : Value} {A : Around} {outer : List Env} {s s1 : Shared} {H : Hp} {E : XK} {σ : St}
    (hfr : A.frames = some outer) (I : Inv (cxOf CX P w K mg base N qual scope f cd (still A) outer s H E) [] σ H s1) : Inv (cxQ CX P w K mg base N qual scope f cd A outer s H E) [] σ H s1 :=
  ⟨⟨I.ok.mod, I.ok.kind, I.ok.glob, I.ok.blt, I.ok.above, I.ok.inj, I.ok.has, I.ok.cab, fun z => Bool.noConfusion (show false = true from z), Around.frames_deeper hfr, I.ok.stk, I.ok.exf, I.ok.bs, I.ok.bsz, I.ok.noex, I.ok.exfs, I.ok.funs, I.ok.frf⟩,
    I.os, I.bare, I.base, I.loc, I.cell, I.free, I.freeC, I.pin, I.hok, I.len⟩
theorem fn_q {CX : CXT} {P : Program} {w : World} {K : PySem.W.Frag} {mg : Str → Option Value} {base : Heap} {k : Nat} {f : Addr} {x qual : Str} {st : Stmt} {fd : FuncData} {N ps : List Str} {sp : Sp} (F : Fun K x qual st f fd) (S : FnScope N ps (defScope st)) (len : ∀ vs H Q E, sp vs H Q E → vs.length = ps.length)
    (hbody : ∀ (cdv : Value) (A : Around) (outer : List Env) (s : Shared) (H : Hp) (vs : List V) (Q : VK) (E : XK), L2H.RoomH k (A.deeper (PyProof.Rows.envOfC qual (defScope st) s.heap.objs.size f cdv)) → sp vs H Q E →
      ∃ t, PSs (cxQ CX P w K mg base N qual (defScope st) f cdv A outer s H E) (defBody st) t ∧ t { nx := fun _ H' => Q .non H', rt := Q } (start N vs) H) :
    FnQ P w K mg base CX (k + 1) f fd ps sp := by
  obtain ⟨oc, od, kV, doc, pm, an, cdv, ct, osl, rfl, lk, hcd⟩ := F.ex
  refine ⟨len, fun A outer s H args us vs Q E hr e0 hb r hsp => ?_⟩
  have hl := len _ _ _ _ hsp
  have hK : K.In s.heap := e0.mod.kin.keeps fun b o e => (e0.bs b o e).1
  have lim : s.heap.NoLimit := e0.mod.nolimit.keeps fun b o e => (e0.bs b o e).1
  have kinds : ∀ y ∈ ps.zip us, (defScope st).names.lookup y.1 = some .local ∨
      ((defScope st).names.lookup y.1 = some .cell ∧ ((cellsFrom (s.heap.objs.size + 1) (defScope st).names []).lookup y.1).isSome = true) := fun ⟨n, v⟩ hy =>
    (S.par n (List.of_mem_zip hy).1).imp id fun q => ⟨q, PySem.W.cellsFrom_some _ _ _ (.inl q)⟩
  refine codeAny_call_function hr.depth (hK _ _ lk) rfl S.co S.gen rfl (PySem.W.codeRec_of hK hcd) (hb _ _ _ _ ?_)
  refine wpAny_newFunctionEnv_cells S.kind kinds fun env he s1 x => ?_
  subst he
  refine ⟨lim.keeps x.toInCall.keep, codeAny_func ?_⟩
  obtain ⟨t, ht, hq⟩ := hbody cdv A outer s H vs Q E (hr.deeper _) hsp
  have I : Inv (cxQ CX P w K mg base N qual (defScope st) f cdv A outer s H E) [] (start N vs) H s1 := inv_q e0.frames (inv_start S rfl (env0_still e0) hl r x)
  refine wpAny_mono (ht.run [] s1 (start N vs) H _ I hq) (fun fl s' hs => ?_) fun e s' hs => hs
  have fin : ∀ {σ' : St} {H' : Hp} {v : V} {u : Value}, Inv (cxQ CX P w K mg base N qual (defScope st) f cdv A outer s H E) [] σ' H' s' → RelV v u → Q v H' → CE outer P w H s Q u s' :=
    fun {σ' H' v u} J rv q => ⟨v, H', J.os, J.bare, J.base, J.hok, rv, q⟩
  cases fl with
  | ret u =>
    obtain ⟨v, σ', H', J, rv, q⟩ := hs
    exact fin J rv q
  | next =>
    obtain ⟨σ', H', J, q⟩ := hs
    exact fin (v := V.non) (u := Value.none) J rfl q
  | brk => obtain ⟨_, _, _, q⟩ := hs; exact False.elim q
  | cont => obtain ⟨_, _, _, q⟩ := hs; exact False.elim q
section
variable {X : Cx} {CX : CXT} {k : Nat} {f : Addr} {fd : FuncData} {ps : List Str} {sp : Sp} {E : XK} {x : Str} {q pos : Pos} {e : Expr} {es : List Expr} {t : TA}
theorem run_q {pins : List (Addr × Obj)} {σ : St} {H : Hp} {s : Shared} {Q : VK} {us : List Value} {vs : List V} (F : FnQ X.prog X.w X.K X.mg X.base CX k f fd ps sp) (hr : L2H.RoomH k X.A) (hb : Binds X.K fd ps []) (hx : Passes CX X E)
    (I : Inv X pins σ H s) (r : Vals vs us) (h : sp vs H Q E) : wpAny (model X.prog X.w) X.A (call (.ref f) us) (EP X pins σ Q) X.xe s := by
  have hl : us.length = ps.length := by rw [← r.length]; exact F.len _ _ _ _ h
  have b := hb s us I.kIn (by rw [List.append_nil]; exact hl)
  rw [List.append_nil] at b
  refine wpAny_call (codeAny_mono (F.run X.A X.stack s H ⟨us, []⟩ us vs Q E hr I.env0 b r h) fun r s' hq => ?_)
  cases r with
  | error e => exact hx pins σ H s e s' I hq
  | ok fl =>
    cases fl with
    | ret u => exact I.after hq
    | next => exact False.elim hq
    | brk => exact False.elim hq
    | cont => exact False.elim hq
theorem pe_callQ (F : FnQ X.prog X.w X.K X.mg X.base CX k f fd ps sp) (hr : L2H.RoomH k X.A) (hg : Gl X x) (hm : X.mg x = some (.ref f)) (hk : PySem.W.keepIn X.K (.ref f) = true) (hb : Binds X.K fd ps []) (hx : Passes CX X E)
    (ha : PA X (e :: es) t) (hdb : (x == ("__debug__" : Str)) = false) (he : starEach (e :: es) X.env = (false, eval e X.env) :: starEach es X.env) (hpl : (backTo pos (starEach es X.env)).any (·.1) = false) :
    PE X (.Call (.Name x q) (e :: es) [] pos) (fun σ H Q => t σ H fun vs H1 => sp vs H1 Q E) := by
  refine ⟨fun pins s σ H Q I h => ?_⟩
  refine wpAny_Call_Name_kw (ld_glob I hg hm ?_ hdb)
  refine PySem.W.callWith_K (h₀ := X.base) I.ok.mod.kin hk (thn (ha.run pos pins s σ H _ I h) fun us s1 ⟨vs, H1, I1, r, q⟩ => ⟨I1.kIn, ?_⟩) he hpl
  exact run_q F hr hb hx I1 r q
end
/-! ### try: several clauses, each with a name or without -/
/-- a clause: its class, the slot of its name, what its suite does -/
abbrev Cl := Value × Option Nat × (Addr → Value → Option Addr → TS)
def endsAt (o : Option Nat) (D : Ends) : Ends := match o with
  | none => D
  | some i => { nx := fun σ' H' => D.nx (σ'.set i none) H', rt := D.rt, bk := fun σ' H' => D.bk (σ'.set i none) H', ct := fun σ' H' => D.ct (σ'.set i none) H' }
def setAt (o : Option Nat) (a : Addr) (σ : St) : St := match o with
  | none => σ
  | some i => σ.set i (some (.ref a))
/-- what the clauses wish of an exception of the body, one after the other -/
def wMix (K : PySem.W.Frag) (Wout : WX) (D : Ends) : List Cl → WX
  | [] => Wout
  | (c, o, ts) :: r => fun cls d σ H => ∃ b, PySem.W.exmOne K cls c = some b ∧ (b = true → ∀ a, H a = none → ts a cls d (endsAt o D) (setAt o a σ) H) ∧ (b = false → wMix K Wout D r cls d σ H)
inductive MixOk (X : Cx) : List ExceptHandler → List Cl → Prop
  | nil : MixOk X [] []
  | cons {x : Str} {c : Value} {ts : Addr → Value → Option Addr → TS} {b₀ : Stmt} {suite : List Stmt} {np pos' : Pos} {hds : List ExceptHandler} {l : List Cl} (hc : Names X x c)
      (hsu : ∀ (a : Addr) (oe : Obj) (cls : Value) (d : Option Addr) (pn : List (Addr × Obj)), Zc cls d oe → (∃ vs, oe.data = .fields vs) → PSs (X.suite a ((a, oe) :: pn)) (b₀ :: suite) (ts a cls d)) (r : MixOk X hds l) :
      MixOk X (.ExceptHandler (some (.Name x np)) none (b₀ :: suite) pos' :: hds) ((c, none, ts) :: l)
  | named {x n : Str} {i : Nat} {c : Value} {ts : Addr → Value → Option Addr → TS} {b₀ : Stmt} {suite : List Stmt} {np pos' : Pos} {hds : List ExceptHandler} {l : List Cl} (hc : Names X x c) (hi : X.N[i]? = some n) (hln : X.env.kindOf n = some .local)
      (hsu : ∀ (a : Addr) (oe : Obj) (cls : Value) (d : Option Addr) (pn : List (Addr × Obj)), Zc cls d oe → (∃ vs, oe.data = .fields vs) → PSs (X.suite a ((a, oe) :: pn)) (b₀ :: suite) (ts a cls d)) (r : MixOk X hds l) :
      MixOk X (.ExceptHandler (some (.Name x np)) (some n) (b₀ :: suite) pos' :: hds) ((c, some i, ts) :: l)
section
variable {X : Cx} {body : List Stmt} {h₀ : ExceptHandler} {hds : List ExceptHandler} {l : List Cl} {pos : Pos} {tb : WX → TS} {Wout : WX}
theorem ps_try_mix (hs : X.stack = X.env :: X.outer) (hf : X.env.frame = some X.env.locals) (hN : X.N.Nodup) (tk : Takes X Wout)
    (hb : ∀ (W : WX) (pn : List (Addr × Obj)) (xe : Value → Shared → Prop), Takes (X.tr pn xe) W → PassesOwn (model X.prog X.w) X.A X.env xe → PSs (X.tr pn xe) body (tb W)) (hh : MixOk X (h₀ :: hds) l) :
    PS X (.Try body (h₀ :: hds) [] [] pos) (fun D σ H => tb (wMix X.K Wout D l) D σ H) := by
  refine ⟨fun pins s σ H D I h => ?_⟩
  have ok := I.ok
  have hfr : X.A.frames = some (X.env :: X.outer) := by
    rw [ok.frames, hs]
  refine wpAny_Try_except ?_
  have run := (hb (wMix X.K Wout D l) (X.pn ++ pins) (fun e s₁ => wpAny (model X.prog X.w) X.A (noteFrame e X.env) (fun _ s₂ => wpAny (model X.prog X.w) X.A (setFlight e none)
    (fun _ s₃ => wpAny (model X.prog X.w) X.A (handleBy e X.env (h₀ :: hds)) (SP X pins D) X.xe s₃) X.xe s₂) X.xe s₁) (fun u s' xx => ?_) PassesOwn.looking).run [] s σ H D (I.toTry _) h
  · refine wpAny_mono run (fun f s1 hsp => ?_) (fun e s1 he => he)
    cases f with
    | next => obtain ⟨σ', H', J', q⟩ := hsp; exact wpAny_execs_nil ⟨σ', H', J'.ofTry ok, q⟩
    | brk => obtain ⟨σ', H', J', q⟩ := hsp; exact ⟨σ', H', J'.ofTry ok, q⟩
    | cont => obtain ⟨σ', H', J', q⟩ := hsp; exact ⟨σ', H', J'.ofTry ok, q⟩
    | ret u => obtain ⟨v, σ', H', J', r, q⟩ := hsp; exact ⟨v, σ', H', J'.ofTry ok, r, q⟩
  · obtain ⟨a, B, sI, pins', σ', H', cls, d, rfl, J', nb, up, sky, na, os, ag, w⟩ := xx
    have J : Inv X pins σ' H' sI := J'.ofTry ok
    have sky' : Sky B (X.env :: X.outer) a (Zc cls d) X.env.locals s'.heap := by
      rw [← hs]
      exact sky
    show wpAny (model X.prog X.w) X.A (noteFrame (.ref a) X.env) _ _ _
    refine Sky.land Zc.steady hfr hf sky' fun h3 fl3 up3 => ?_
    have J3 : Inv X pins σ' H' { s' with heap := h3 } := J.landed nb fl3.1 (up.trans up3) os ag
    obtain ⟨oe3, vs3, he3, hz3, hd3⟩ := fl3.there
    have far : a ∉ frs (X.env :: X.outer) := fun hm => by
      obtain ⟨_, o', e', hnf⟩ := fl3.2.2.1.mem hm
      rw [he3] at e'
      cases e'
      exact hnf _ hd3
    have nL : a ≠ X.env.locals := fun z => far (List.mem_filterMap.mpr ⟨X.env, List.mem_cons_self, by rw [hf, z]⟩)
    have nF : a ∉ X.fs := fun hm => by
      obtain ⟨e, he, q⟩ := List.mem_filterMap.mp hm
      exact far (List.mem_filterMap.mpr ⟨e, List.mem_cons_of_mem _ he, q⟩)
    have S3 := J3.suite he3 hd3 na nL nF
    have LT : PySem.W.Looks (model X.prog X.w) h3 (typeOf (.ref a)) cls := fun A Q E s k q => wpAny_typeOf_ref (k _ _ he3) (by rw [hz3.1]; exact q)
    have test : ∀ {x : Str} {c : Value} {np : Pos} (hc : Names X x c) {Q : Value → Shared → Prop} {E : Value → Shared → Prop}, Q c { s' with heap := h3 } → wpAny (model X.prog X.w) (X.A.mark (some (.ref a))) (eval (.Name x np) X.env) Q E { s' with heap := h3 } := by
      intro x c np hc Q E q
      obtain ⟨hg, hdbg, hm | ⟨hm, hv, hnn⟩⟩ := hc
      · exact ld_glob (X := X.suite a ((a, oe3) :: (X.pn ++ pins))) S3 hg hm q hdbg
      · exact ld_blt (X := X.suite a ((a, oe3) :: (X.pn ++ pins))) S3 hg hm hv q hnn hdbg
    have go : ∀ {hds' : List ExceptHandler} {l' : List Cl}, MixOk X hds' l' → wMix X.K Wout D l' cls d σ' H' → wpAny (model X.prog X.w) X.A (handleBy (.ref a) X.env hds') (SP X pins D) X.xe { s' with heap := h3 } := by
      intro hds' l' hk
      induction hk with
      | nil =>
        intro w
        refine wpAny_handleBy_nil ?_
        obtain ⟨k1, k2, k3, oe, vs, T, oT, ts', he, hz, hd, h1, hr⟩ := id fl3
        unfold PySem.passOn
        refine wpAny_bind (wpAny_field he hd h1 ?_)
        rw [if_neg (show ¬ ((Value.ref T == Value.none) = true) from by simp)]
        have last : wpAny (model X.prog X.w) X.A (setFlight (.ref a) X.env.frame) (fun _ s4 => wpAny (model X.prog X.w) X.A (throw (.ref a) : Sem Flow) (SP X pins D) X.xe s4) X.xe { s' with heap := h3 } := by
          rw [hf]
          refine HandSPX.setFlight_upZ fl3 fun h4 hh4 up4 => wpAny_throw (tk _ _ ?_)
          exact ⟨a, B, sI, pins, σ', H', cls, d, rfl, J, nb, (up.trans up3).trans up4, .inr (.inr (by rw [hs]; exact hh4)), na, os, ag, w⟩
        first
          | exact wpAny_bind (wpAny_pure (wpAny_bind last))
          | exact wpAny_bind last
      | @cons x c ts b₀ suite np pos' hds2 l2 hc hsu r ih =>
        intro w
        obtain ⟨b, hb1, hyes, hno⟩ := w
        refine wpAny_handleBy_cons (codeAny_handlers_test ?_) (by intro q; cases q)
        refine test hc ((PySem.W.exm_one (M := model X.prog X.w) (J3.kIn) LT hb1).here ?_)
        cases b with
        | true =>
          refine codeAny_handlers_suite ?_
          refine HandSPX.lands_againZ fl3 fun h4 fl4 up4 => ?_
          have J4 : Inv X pins σ' H' { s' with heap := h4 } := J.landed nb fl4.1 ((up.trans up3).trans up4) os ag
          obtain ⟨oe4, vs4, he4, hz4, hd4⟩ := fl4.there
          have S4 := J4.suite he4 hd4 na nL nF
          refine wpAny_mono ((hsu a oe4 cls d (X.pn ++ pins) hz4 ⟨_, hd4⟩).run [] _ _ H' _ S4 (hyes rfl a na)) (fun f s6 hsp => ?_) (fun _ _ z => False.elim z)
          cases f with
          | ret u => obtain ⟨v6, σ6, H6, S6, r6, q6⟩ := hsp; exact ⟨_, _, _, S6.unsuite ok, r6, q6⟩
          | next => obtain ⟨σ6, H6, S6, q6⟩ := hsp; exact ⟨_, _, S6.unsuite ok, q6⟩
          | brk => obtain ⟨σ6, H6, S6, q6⟩ := hsp; exact ⟨_, _, S6.unsuite ok, q6⟩
          | cont => obtain ⟨σ6, H6, S6, q6⟩ := hsp; exact ⟨_, _, S6.unsuite ok, q6⟩
        | false =>
          show wpAny _ X.A (handleBy (.ref a) X.env hds2) _ _ _
          exact ih (hno rfl)
      | @named x n i c ts b₀ suite np pos' hds2 l2 hc hi hln hsu r ih =>
        intro w
        obtain ⟨b, hb1, hyes, hno⟩ := w
        refine wpAny_handleBy_cons (codeAny_handlers_test ?_) (by intro q; cases q)
        refine test hc ((PySem.W.exm_one (M := model X.prog X.w) (J3.kIn) LT hb1).here ?_)
        cases b with
        | true =>
          refine codeAny_handlers_suite_as ?_
          refine HandSPX.lands_againZ fl3 fun h4 fl4 up4 => ?_
          have J4 : Inv X pins σ' H' { s' with heap := h4 } := J.landed nb fl4.1 ((up.trans up3).trans up4) os ag
          obtain ⟨oe4, vs4, he4, hz4, hd4⟩ := fl4.there
          have S4 := J4.suite he4 hd4 na nL nF
          refine store_ok (X := X.suite a ((a, oe4) :: (X.pn ++ pins))) (v := .ref a) S4 hN hi (.inl hln) rfl (fun s5 S5 => ?_) (.inr hln)
          refine wpAny_mono ((hsu a oe4 cls d (X.pn ++ pins) hz4 ⟨_, hd4⟩).run [] s5 _ H' _ S5 (hyes rfl a na)) (fun f s6 hsp => ?_) (fun _ _ z => False.elim z)
          have over : ∀ {σ6 : St} {H6 : Hp} {Q : Shared → Prop}, Inv (X.suite a ((a, oe4) :: (X.pn ++ pins))) [] σ6 H6 s6 → (∀ s7, Inv X pins (σ6.set i none) H6 s7 → Q s7) →
              wpAny (model X.prog X.w) X.A (do bindName X.env n .none; unbindBehindTheSuite X.env n pos') (fun _ s7 => Q s7) X.xe s6 := fun {σ6 H6 Q} S6 hq => gone_ok (S6.unsuite ok) hN hi hln hq
          cases f with
          | ret u => obtain ⟨v6, σ6, H6, S6, r6, q6⟩ := hsp; exact over S6 fun s7 J7 => ⟨_, _, _, J7, r6, q6⟩
          | next => obtain ⟨σ6, H6, S6, q6⟩ := hsp; exact over S6 fun s7 J7 => ⟨_, _, J7, q6⟩
          | brk => obtain ⟨σ6, H6, S6, q6⟩ := hsp; exact over S6 fun s7 J7 => ⟨_, _, J7, q6⟩
          | cont => obtain ⟨σ6, H6, S6, q6⟩ := hsp; exact over S6 fun s7 J7 => ⟨_, _, J7, q6⟩
        | false =>
          show wpAny _ X.A (handleBy (.ref a) X.env hds2) _ _ _
          exact ih (hno rfl)
    exact go hh w
end
end Dn
/-! DnTold: what a call tells or raises, as the laws write it down. -/
namespace Dn
open PySem L2
/-- a whole number that is no truth value, where that is seen -/
def whD : D → Option Bool
  | .int _ => some true
  | .bl _ => some false
  | .non => some false
  | .str _ => some false
  | .tup _ => some false
  | .lst _ => some false
  | _ => none
/-! ### _law_is_whole while an exception is handled -/
def spWh (G : Gd) : Sp := fun vs H Q _ => ∃ (U : Addr → Prop) (d : D) (v : V) (b : Bool), vs = [v] ∧ Rep G U H d v ∧ whD d = some b ∧ Q (.bl b) H
structure WhT (st : Stmt) (f : Str) : Prop where
  body : ∃ q0 q1 q2 q3 q4 q5 q6 q7 q8 q9 q10, defBody st = [.Return (some (.BoolOp .And [.Call (.Name "isinstance" q0) [.Name f q1, .Name "int" q2] [] q3, .UnaryOp .Not (.Call (.Name "isinstance" q4) [.Name f q5, .Name "bool" q6] [] q7) q8] q9)) q10]
  sc : FnScope [f] [f] (defScope st)
  g0 : glB (defScope st) "isinstance" = true
  g1 : glB (defScope st) "int" = true
  g2 : glB (defScope st) "bool" = true
  v0 : nmB [f] (defScope st) 0 f = true
def iD : D → Bool
  | .int _ => true
  | .bl _ => true
  | _ => false
def bD' : D → Bool
  | .bl _ => true
  | _ => false
theorem rIsi_of {G : Gd} {K : PySem.W.Frag} {U : Addr → Prop} {H : Hp} {d : D} {v : V} {b : Bool} (r : Rep G U H d v) (h : whD d = some b) :
    (∀ Q : VK, Q (.bl (iD d)) H → rIsi K [v, .ty "int"] H Q) ∧ (∀ Q : VK, Q (.bl (bD' d)) H → rIsi K [v, .ty "bool"] H Q) := by
  have fin : ∀ (T : String) (t : Value) (b : Bool) (Q : VK), TyX K H v t → PySem.W.kitOne K t (.type T) = some b → Q (.bl b) H → rIsi K [v, .ty T] H Q := fun T t b Q h1 h2 h3 => ⟨v, .ty T, t, .type T, b, rfl, .ty T, h1, h2, h3⟩
  cases d with
  | non => cases (show v = .non from r); exact ⟨fun Q q => fin _ _ _ Q (.base .non) (kit_ty tyF_int.non) q, fun Q q => fin _ _ _ Q (.base .non) (kit_ty tyF_bool.non) q⟩
  | bl x => cases (show v = .bl x from r); exact ⟨fun Q q => fin _ _ _ Q (.base (.bl _)) (kit_ty tyF_int.bl) q, fun Q q => fin _ _ _ Q (.base (.bl _)) (kit_ty tyF_bool.bl) q⟩
  | int i => cases (show v = .int i from r); exact ⟨fun Q q => fin _ _ _ Q (.base (.int _)) (kit_ty tyF_int.int) q, fun Q q => fin _ _ _ Q (.base (.int _)) (kit_ty tyF_bool.int) q⟩
  | str x => obtain ⟨rfl, _⟩ := r; exact ⟨fun Q q => fin _ _ _ Q (.base (.str _)) (kit_ty tyF_int.str) q, fun Q q => fin _ _ _ Q (.base (.str _)) (kit_ty tyF_bool.str) q⟩
  | tup xs => obtain ⟨a, vs, rfl, _, e, _⟩ := r; exact ⟨fun Q q => fin _ _ _ Q (.base (.tup e)) (kit_ty tyF_int.tup) q, fun Q q => fin _ _ _ Q (.base (.tup e)) (kit_ty tyF_bool.tup) q⟩
  | lst xs => obtain ⟨a, vs, rfl, _, e, _⟩ := r; exact ⟨fun Q q => fin _ _ _ Q (.base (.lst e)) (kit_ty tyF_int.lst) q, fun Q q => fin _ _ _ Q (.base (.lst e)) (kit_ty tyF_bool.lst) q⟩
  | _ => cases h
theorem wh_ok {G : Wd} {x f : Str} {qual : Str} {st : Stmt} {a : Addr} {fd : FuncData} (T : WhT st f) (F : Fun G.K x qual st a fd) (hbl : ∀ y ∈ bltNames, G.mg y = none) : FnQ G.P G.w G.K G.mg G.base (L2.CX G.P G.w) 1 a fd [f] (spWh G.g) := by
  refine fn_q F T.sc (fun vs H Q E h => ?_) (fun cdv A outer s H vs Q E hr h => ?_)
  · obtain ⟨_, _, v, _, rfl, _⟩ := h
    rfl
  · obtain ⟨U, d, v, b, rfl, rv, hb, q⟩ := h
    obtain ⟨q0, q1, q2, q3, q4, q5, q6, q7, q8, q9, q10, e⟩ := T.body
    rw [e]
    generalize hX : cxQ (L2.CX G.P G.w) G.P G.w G.K G.mg G.base [f] qual (defScope st) a cdv A outer s H E = X
    have hs : X.env.scope = defScope st := by rw [← hX]; rfl
    have hm : X.mg = G.mg := by rw [← hX]; rfl
    have hN : X.N = [f] := by rw [← hX]; rfl
    have i0 := Sc.gl (X := X) (by rw [hs]; exact T.g0)
    have i1 := Sc.gl (X := X) (by rw [hs]; exact T.g1)
    have i2 := Sc.gl (X := X) (by rw [hs]; exact T.g2)
    obtain ⟨n1, n2, n3, n4⟩ := nmB_of (X := X) hN (by rw [hs]; exact T.v0)
    have m0 : X.mg "isinstance" = none := by rw [hm]; exact hbl _ (by decide +kernel)
    have m1 : X.mg "int" = none := by rw [hm]; exact hbl _ tyF_int.blt
    have m2 : X.mg "bool" = none := by rw [hm]; exact hbl _ tyF_bool.blt
    have ask : ∀ (T : String) (p p1 p2 p3 : Pos), Gl X (Str.ofString T) → X.mg (Str.ofString T) = none → bootBuiltins (Str.ofString T) = some (.type T) → Str.ofString T ≠ "__name__" → (Str.ofString T == ("__debug__" : Str)) = false →
        PE X (.Call (.Name "isinstance" p) [.Name f p1, .Name (Str.ofString T) p2] [] p3) (tCB (rIsi X.K) (tCons (tVar 0) (tCons (tC (.ty T)) tNil))) := fun T p p1 p2 p3 hg hm hv hn hd =>
      pe_callB (id := "isinstance") call_isi i0.1 m0 (by decide +kernel) (pa_cons (pe_var n1 n2 n3 n4) (pa_cons (pe_bltn hg hm hv rfl hn hd) pa_nil)) (by decide) (by decide)
    have a1 := ask "int" q0 q1 q2 q3 i1.1 m1 tyF_int.boot (by decide) i1.2
    have a2 := ask "bool" q4 q5 q6 q7 i2.1 m2 tyF_bool.boot (by decide) i2.2
    refine ⟨_, pss_one (ps_ret (pe_and a1 (pe_one (pe_not a2)))), ?_⟩
    obtain ⟨k1, k2⟩ := rIsi_of (K := X.K) rv hb
    have second : ∀ {b : Bool}, b = bD' d → Q (.bl (!b)) H → tNotV (tCB (rIsi X.K) (tCons (tVar 0) (tCons (tC (.ty "bool")) tNil))) (start [f] [v]) H Q := fun {b} e q => by
      have k := k2 (fun x H1 => ∃ c, x = V.bl c ∧ Q (.bl (!c)) H1) ⟨b, congrArg V.bl e.symm, q⟩
      exact ⟨v, rfl, k⟩
    have k := k1 (fun x H1 => ∃ c, x = V.bl c ∧ if c = true then tNotV (tCB (rIsi X.K) (tCons (tVar 0) (tCons (tC (.ty "bool")) tNil))) (start [f] [v]) H1 Q else Q (.bl false) H1) ⟨_, rfl, ?_⟩
    · exact ⟨v, rfl, k⟩
    cases d with
    | int i => cases hb; exact iteT (second (b := false) rfl q)
    | bl i => cases hb; exact iteT (second (b := true) rfl q)
    | non => cases hb; exact iteF q
    | str _ => cases hb; exact iteF q
    | tup _ => cases hb; exact iteF q
    | lst _ => cases hb; exact iteF q
    | _ => cases hb
/-! ### the exception that a suite holds -/
/-- an exception's attribute is read from its dict -/
structure XcA (K : PySem.W.Frag) (C : Addr) (f : Str) : Prop where
  ga : PySem.W.findIn K (.ref C) "__getattribute__" = some (some (.builtin "BaseException.__getattribute__"))
  gg : PySem.W.findIn K (.ref C) "__getattr__" = some none
  no : PySem.W.findIn K (.ref C) f = some none
  hd : PySem.W.hasDictIn K C = true
  exC : PySem.W.subIn K (.ref C) (.type "BaseException") = some true
section
variable {X : Cx} {C : Addr} {f : Str}
theorem pe_atX {a : Addr} {oe : Obj} {cls : Value} {d : Option Addr} {pn : List (Addr × Obj)} {e : Expr} {te : TE} {pos : Pos} (T : XcA X.K C f) (hz : Zc cls d oe) (hf : ∃ vs, oe.data = .fields vs) (he : PE (X.suite a ((a, oe) :: pn)) e te)
    (hb : attributeBase e f X.env (eval e X.env) = eval e X.env) :
    PE (X.suite a ((a, oe) :: pn)) (.Attribute e f pos) (fun σ H Q => te σ H fun x H1 => x = .ref a ∧ cls = .ref C ∧ ∃ (dd : Addr) (v : V), d = some dd ∧ H1 dd = some (.xd [(f, v)]) ∧ Q v H1) := by
  refine ⟨fun pins s σ H Q I h => ?_⟩
  refine attr_of hb (thn (he.run pins s σ H _ I h) fun u s1 hh => ?_)
  obtain ⟨x, H1, I1, rx, ex, ec, dd, v, ed, ea, q⟩ := hh
  subst ex
  obtain rfl : u = Value.ref a := rx
  subst ec
  subst ed
  obtain ⟨ha, _⟩ := I1.pin (a, oe) (List.mem_append_left _ List.mem_cons_self)
  obtain ⟨vs, hd⟩ := hf
  have hx : ObjOk X.prog X.w H1 s1.heap dd (.xd [(f, v)]) := I1.hok dd _ ea
  obtain ⟨mA, hns, hr⟩ := hx
  obtain ⟨od, ho, hl⟩ := lookIn_ns hns
  have l : List.lookup f [(f, v)] = some v := by simp [List.lookup]
  obtain ⟨u, hu, ru⟩ := RelO.some_of (v := v) (o := mA f) (by rw [← l]; exact hr f)
  have J : PySem.W.InstAt s1.heap a oe C (some od) := ⟨ha, hz.1, by unfold PySem.W.notCls; rw [hd] <;> rfl, by rw [hz.2]; exact ho⟩
  exact HandSPX.exc_get I1.kIn J T.ga T.gg T.exC (PySem.W.findObj_own T.hd T.no rfl (by rw [hl, hu])) (handed_of ru) ⟨v, H1, I1.tok _, ru, q⟩
end
/-! ### the def -/
def toldX (c : Nat) (a : D) (s : S) : O := if c = 2 then .rt (.tup [.str "malformed", .non]) s else
  if c = 4 then (match whD a with
    | some k => .rt (.tup [.str (if k = true then "text" else "raised"), .non]) s
    | none => .bad) else
  if c = 3 then .rt (.tup [.str "refused", a]) s else .bad
def Told (b : MS) : MS := fun env s => match b env s with
  | .er e s => toldX e.c e.a s
  | o => o
def outR : O → R D
  | .nx _ s => .ok .non s
  | .rt d s => .ok d s
  | .er e s => .err e s
  | .bad => .bad
/-- what the text's exceptions and the question for a whole number must be -/
structure ToldF (G : Wd) : Prop where
  n2 : G.mg "Malformed" = some (.ref (G.cl 2))
  n3 : G.mg "Refused" = some (.ref (G.cl 3))
  n4 : G.mg "NoText" = some (.ref (G.cl 4))
  exm : ∀ c ∈ [2, 3, 4], ∀ c' ∈ [2, 3, 4], PySem.W.exmOne G.K (.ref (G.cl c)) (.ref (G.cl c')) = some (c == c')
  a3 : XcA G.K (G.cl 3) "reason"
  a4 : XcA G.K (G.cl 4) "at"
  wh : ∃ (a : Addr) (fd : FuncData) (f : Str), FnQ G.P G.w G.K G.mg G.base (L2.CX G.P G.w) 1 a fd [f] (spWh G.g) ∧ G.mg "_law_is_whole" = some (.ref a) ∧ PySem.W.keepIn G.K (.ref a) = true ∧ Binds G.K fd [f] []
abbrev tN : List Str := ["act", "given", "wrong", "refused"]
/-- the text of _law_told -/
structure ToldT (st : Stmt) (b : Sb) : Prop where
  body : ∃ (q : Fin 40 → Pos) (k : Fin 20 → Nat), defBody st = [.Try b.ast [
    .ExceptHandler (some (.Name "Malformed" (q 0))) none [.Return (some (.Tuple [.Constant (.str "malformed") (k 0) (q 1), .Constant .none (k 1) (q 2)] (k 2) (q 3))) (q 4)] (q 5),
    .ExceptHandler (some (.Name "NoText" (q 6))) (some "wrong") [.Return (some (.IfExp (.Call (.Name "_law_is_whole" (q 7)) [.Attribute (.Name "wrong" (q 8)) "at" (q 9)] [] (q 10))
      (.Tuple [.Constant (.str "text") (k 3) (q 11), .Constant .none (k 4) (q 12)] (k 5) (q 13)) (.Tuple [.Constant (.str "raised") (k 6) (q 14), .Constant .none (k 7) (q 15)] (k 8) (q 16)) (q 17))) (q 18)] (q 19),
    .ExceptHandler (some (.Name "Refused" (q 20))) (some "refused") [.Return (some (.Tuple [.Constant (.str "refused") (k 9) (q 21), .Attribute (.Name "refused" (q 22)) "reason" (q 23)] (k 10) (q 24))) (q 25)] (q 26)] [] [] (q 27)]
  sc : FnScope tN ["act", "given"] (defScope st)
  gl : ∀ x ∈ (["Malformed", "NoText", "Refused", "_law_is_whole"] : List Str), glB (defScope st) x = true
  v2 : nmB tN (defScope st) 2 "wrong" = true
  v3 : nmB tN (defScope st) 3 "refused" = true
  l2 : (defScope st).names.lookup ("wrong" : Str) = some .local
  l3 : (defScope st).names.lookup ("refused" : Str) = some .local
/-- what a suite gives: a new tuple -/
def tNew (xs : List V) : TS := fun D _ H => ∀ t, H t = none → D.rt (.ref t) (upd H t (.tup xs))
theorem suite_pair {X : Cx} {x : Str} {k1 k2 k3 : Nat} {p1 p2 p3 p4 : Pos} : PSs X [.Return (some (.Tuple [.Constant (.str x) k1 p1, .Constant .none k2 p2] k3 p3)) p4] (tNew [.str x, .non]) :=
  ⟨fun pins s σ H D I h => (pss_one (ps_ret (pe_tup (pa_cons pe_str (pa_cons pe_non pa_nil))))).run pins s σ H D I ⟨by rw [sizeLine_eq]; show 2 ≤ 16777216; omega, h⟩⟩
section
variable {G : Wd} {X : Cx} {k : Nat} {W : XK}
theorem Told.set2 {σ : St} {a : Addr} {i : Nat} (hl : i < σ.length) : (σ.set i (some (.ref a)))[i]? = some (some (.ref a)) := by
  rw [List.getElem?_set, if_pos rfl, if_pos hl]
def tAt (G : Wd) (a : Addr) (cls : Value) (d : Option Addr) : TS := fun Z σ H => ∃ (dd : Addr) (v : V) (U : Addr → Prop) (d0 : D) (b : Bool), σ[2]? = some (some (.ref a)) ∧ cls = .ref (G.cl 4) ∧ d = some dd ∧ H dd = some (.xd [("at", v)]) ∧ Rep G.g U H d0 v ∧ whD d0 = some b ∧
  tNew [.str (if b = true then "text" else "raised"), .non] Z σ H
def tReason (G : Wd) (a : Addr) (cls : Value) (d : Option Addr) : TS := fun D σ H => ∃ (dd : Addr) (v : V), σ[3]? = some (some (.ref a)) ∧ cls = .ref (G.cl 3) ∧ d = some dd ∧ H dd = some (.xd [("reason", v)]) ∧ tNew [.str "refused", v] D σ H
theorem suite_at {N : List Str} {q0 q1 q2 q3 q4 q5 q6 q7 q8 q9 q10 q11 : Pos} {k0 k1 k2 k3 k4 k5 : Nat} (hX : XOk G X tN W k) (h1 : 1 ≤ k) (F : ToldF G) (g : glB X.env.scope "_law_is_whole" = true) (v2 : nmB tN X.env.scope 2 "wrong" = true)
    (a : Addr) (oe : Obj) (cls : Value) (d : Option Addr) (pn : List (Addr × Obj)) (hz : Zc cls d oe) (hf : ∃ vs, oe.data = .fields vs) :
    PSs (X.suite a ((a, oe) :: pn)) [.Return (some (.IfExp (.Call (.Name "_law_is_whole" q0) [.Attribute (.Name "wrong" q1) "at" q2] [] q3) (.Tuple [.Constant (.str "text") k0 q4, .Constant .none k1 q5] k2 q6) (.Tuple [.Constant (.str "raised") k3 q7, .Constant .none k4 q8] k5 q9) q10)) q11] (tAt G a cls d) := by
  obtain ⟨w, fd, f, Fq, hm, hk, hb⟩ := F.wh
  rw [← hX.prog, ← hX.w, ← hX.K, ← hX.mg, ← hX.base] at Fq
  rw [← hX.mg] at hm
  rw [← hX.K] at hk hb
  have T := F.a4
  rw [← hX.K] at T
  have gl := Sc.gl (X := X) g
  obtain ⟨n1, n2, n3, n4⟩ := nmB_of (X := X) hX.names v2
  have r := hX.room.mono h1
  refine ⟨fun pins s σ H D I h => ?_⟩
  obtain ⟨dd, v, U, d0, b, e1, e2, e3, e4, e5, e6, e7⟩ := h
  have call := pe_callQ (X := X.suite a ((a, oe) :: pn)) (E := fun _ _ _ => False) (q := q0) (pos := q3) Fq ⟨r.dp, r.un⟩ gl.1 hm hk hb (passes_call takes_none5 fun _ _ _ _ z => z)
    (pa_cons (pe_atX (pos := q2) (pn := pn) T hz hf (pe_var (X := X.suite a ((a, oe) :: pn)) (i := 2) (pos := q1) n1 n2 n3 n4) rfl) pa_nil) gl.2 rfl rfl
  refine (pss_one (ps_ret (pe_ifExp (pt_val call) (pe_tup (pa_cons pe_str (pa_cons pe_non pa_nil))) (pe_tup (pa_cons pe_str (pa_cons pe_non pa_nil)))))).run pins s σ H D I ?_
  refine ⟨_, e1, rfl, e2, dd, v, e3, e4, U, d0, v, b, rfl, e5, e6, b, rfl, ?_⟩
  have z2 : 2 ≤ sizeLine := by rw [sizeLine_eq]; omega
  cases b with
  | true => exact iteT ⟨z2, e7⟩
  | false => exact iteF ⟨z2, e7⟩
theorem suite_reason {q1 q2 q3 q4 q5 : Pos} {k0 k1 : Nat} (hX : XOk G X tN W k) (F : ToldF G) (v3 : nmB tN X.env.scope 3 "refused" = true)
    (a : Addr) (oe : Obj) (cls : Value) (d : Option Addr) (pn : List (Addr × Obj)) (hz : Zc cls d oe) (hf : ∃ vs, oe.data = .fields vs) :
    PSs (X.suite a ((a, oe) :: pn)) [.Return (some (.Tuple [.Constant (.str "refused") k0 q1, .Attribute (.Name "refused" q2) "reason" q3] k1 q4)) q5] (tReason G a cls d) := by
  have T := F.a3
  rw [← hX.K] at T
  obtain ⟨n1, n2, n3, n4⟩ := nmB_of (X := X) hX.names v3
  refine ⟨fun pins s σ H D I h => ?_⟩
  obtain ⟨dd, v, e1, e2, e3, e4, e7⟩ := h
  have z2 : 2 ≤ sizeLine := by rw [sizeLine_eq]; omega
  exact (pss_one (ps_ret (pe_tup (pa_cons pe_str (pa_cons (pe_atX (pos := q3) (pn := pn) T hz hf (pe_var (X := X.suite a ((a, oe) :: pn)) (i := 3) (pos := q2) n1 n2 n3 n4) rfl) pa_nil))))).run pins s σ H D I ⟨_, e1, rfl, e2, dd, v, e3, e4, z2, e7⟩
/-- an exception of the body, whatever the frame holds then -/
def wAll (n : Nat) (W : WX) : XK := fun c d H => ∀ σ : St, σ.length = n → W c d σ H
theorem wAll_takes {X : Cx} {Wx : WX} (tk : Takes X Wx) : Takes X (fun c d _ H => wAll X.N.length Wx c d H) := fun u s' ⟨a, B, sI, pins, σ, H, cls, d, e, I, nb, up, sky, na, os, ag, w⟩ =>
  tk u s' ⟨a, B, sI, pins, σ, H, cls, d, e, I, nb, up, sky, na, os, ag, w σ I.len⟩
theorem told_sound {x qual : Str} {st : Stmt} {f : Addr} {fd : FuncData} {b : Sb} (T : ToldT st b) (F : ToldF G) (hbl : ∀ x ∈ bltNames, G.mg x = none) (Fn : Fun G.K x qual st f fd) (h1 : 1 ≤ k) (hw : b.wf tN (defScope st) = true) (ho : b.Ok G k) :
    FnOk G.P G.w G.K G.mg G.base (L2.CX G.P G.w) (k + 1) f fd ["act", "given"] (SpD G.g 2 (runB 4 (Told b.den))) := by
  refine Fn.okX T.sc (fun vs H Q E h => h.1) fun cdv A outer s H vs Q E hr h => ?_
  obtain ⟨hl, ds, st0, U, p, r, q⟩ := h
  obtain ⟨pq, pk, e⟩ := T.body
  rw [e]
  generalize hXe : cxOf (L2.CX G.P G.w) G.P G.w G.K G.mg G.base tN qual (defScope st) f cdv A outer s H E = X
  have hs : X.env.scope = defScope st := by rw [← hXe]; rfl
  have hstack : X.stack = X.env :: X.outer := by rw [← hXe]; rfl
  have hframe : X.env.frame = some X.env.locals := by rw [← hXe]; rfl
  have hfn : X.fn = fun _ => true := by rw [← hXe]; rfl
  have hX : XOk G X tN E k := by
    subst hXe
    exact ⟨rfl, rfl, rfl, rfl, rfl, rfl, rfl, T.sc.nd, hr, takes_of rfl rfl rfl rfl, passes_of rfl, hbl⟩
  have gl : ∀ x ∈ (["Malformed", "NoText", "Refused", "_law_is_whole"] : List Str), glB X.env.scope x = true := by rw [hs]; exact T.gl
  have nm : ∀ (c : Nat) (y : Str), y ∈ (["Malformed", "NoText", "Refused", "_law_is_whole"] : List Str) → G.mg y = some (.ref (G.cl c)) → Names X y (.ref (G.cl c)) := fun c y hy hm => ⟨(Sc.gl (gl y hy)).1, (Sc.gl (gl y hy)).2, .inl (by rw [hX.mg]; exact hm)⟩
  have hN : X.N.Nodup := by rw [hX.names]; exact hX.nd
  refine ⟨_, pss_one (ps_try_mix (X := X) (pos := pq 27) (Wout := fun c d _ H => E c d H) hstack hframe hN hX.tk (tb := fun W' => tS G.g (wAll X.N.length W') b.den) (fun W' pn xe tk own => by
    have hX' : XOk G (X.tr pn xe) tN (wAll X.N.length W') k := ⟨hX.prog, hX.w, hX.K, hX.mg, hX.base, hX.calm, hX.names, hX.nd, hX.room, wAll_takes (X := X.tr pn xe) tk, own, hX.bl⟩
    exact b.sound (X.tr pn xe) tN _ k hX' (by show X.env.scope.kind = _; rw [hs]; exact T.sc.kind) hfn (by show b.wf tN X.env.scope = true; rw [hs]; exact hw) ho)
    (.cons (np := pq 0) (pos' := pq 5) (nm 2 "Malformed" (by decide) F.n2) (fun a oe cls d pn hz hf => suite_pair)
    (.named (i := 2) (np := pq 6) (pos' := pq 19) (nm 4 "NoText" (by decide) F.n4) (by rw [hX.names]; rfl) (by show X.env.scope.names.lookup _ = _; rw [hs]; exact T.l2) (suite_at (N := tN) hX h1 F (gl _ (by decide)) (by rw [hs]; exact T.v2))
    (.named (i := 3) (np := pq 20) (pos' := pq 26) (nm 3 "Refused" (by decide) F.n3) (by rw [hX.names]; rfl) (by show X.env.scope.names.lookup _ = _; rw [hs]; exact T.l3) (suite_reason hX F (by rw [hs]; exact T.v3)) .nil)))), ?_⟩
  have lr := r.length
  have hlen : tN.length = 4 := rfl
  have ud : ∀ {H' : Hp} {s' : S}, Stay (fun a => a = G.g.sa ∨ False) H H' → StAt G.g H' s' → ∀ t, H' t = none → ¬ U t := by
    intro H' s' x st' t nt hu
    by_cases z : t = G.g.sa
    · rw [z] at nt
      rw [show H' G.g.sa = _ from st'] at nt
      cases nt
    · obtain ⟨o, ho⟩ := p.ud t hu
      rw [x t o (fun y => y.elim z id) ho] at nt
      cases nt
  have wk : ∀ {H' : Hp}, Stay (fun a => a = G.g.sa ∨ False) H H' → Gr G.g H H' := fun {_} x => Stay.mono x fun a e => e.elim id False.elim
  refine ⟨U, (fun _ => False), none, H, ds.map Sl.fz ++ List.replicate (4 - ds.length) Sl.un, st0, ⟨p.usa, fun a h => h.elim, p.ud, Stay.refl _ _, p.st, ?_, fun i y e => ?_, fun i d a e _ => ?_, fun i j d e a h1 _ _ _ => ?_, fun x hx => by cases hx⟩, ?_⟩
  · unfold L2.start
    simp only [List.length_append, List.length_map, List.length_replicate, lr]
    rfl
  · rcases fz_get e with rfl | ⟨d, hd, rfl⟩
    · trivial
    · obtain ⟨v, hv, rv⟩ := r.get hd
      refine ⟨v, start_get hv, Rep.weak (fun a h => h.elim id fun ⟨j, d', e1, _⟩ => ?_) rv⟩
      rcases fz_get e1 with z | ⟨_, _, z⟩ <;> cases z
  · rcases fz_get e with z | ⟨_, _, z⟩ <;> cases z
  · rcases fz_get h1 with z | ⟨_, _, z⟩ <;> cases z
  · unfold runB Told at q
    cases e : b.den (ds.map Sl.fz ++ List.replicate (4 - ds.length) Sl.un) st0 with
    | nx env s1 =>
      rw [e] at q
      exact fun σ H1 p1 => q .non H1 (wk p1.gr) p1.st rfl
    | rt d s1 =>
      rw [e] at q
      exact fun v H1 g1 st1 r1 => q v H1 (wk g1) st1 r1
    | bad => rw [e] at q; exact q
    | er x s1 =>
      rw [e] at q
      intro c dx H1 g1 st1 r1 σ1 hσ
      obtain ⟨rfl, dd, fl, v, rfl, hfl, hdd, rv⟩ := r1
      have new : ∀ (xs : List D) (vs : List V), PostD G.g U H E (.ok (.tup xs) s1) Q → RepL G.g U H1 xs vs → xs.length ≤ 1000 → ∀ t, H1 t = none → Q (.ref t) (upd H1 t (.tup vs)) := fun xs vs q r hz t nt =>
        q _ _ ((wk g1).trans (Gr.upd nt)) (st1.upd nt) (Rep.tup_new r nt (ud g1 st1 t nt) (by rw [sizeLine_eq]; omega))
      obtain ⟨c, a⟩ := x
      have hK := hX.K
      have len4 : σ1.length = 4 := by rw [hσ, hX.names]; rfl
      have exm : ∀ c' ∈ [2, 3, 4], ∀ c'' ∈ [2, 3, 4], PySem.W.exmOne X.K (.ref (G.g.cl c')) (.ref (G.cl c'')) = some (c' == c'') := by rw [hK]; exact F.exm
      have q : PostD G.g U H E (outR (toldX c a s1)) Q := q
      unfold toldX at q
      by_cases h2 : c = 2
      · subst h2
        rw [if_pos rfl] at q
        exact ⟨true, exm 2 (by decide) 2 (by decide), fun _ a0 na t nt => new _ _ q (.cons ⟨rfl, by rw [sizeLine_eq]; decide⟩ (.cons rfl .nil)) (by decide) t nt, fun z => by cases z⟩
      · rw [if_neg h2] at q
        by_cases h4 : c = 4
        · subst h4
          rw [if_pos rfl] at q
          refine ⟨false, exm 4 (by decide) 2 (by decide), (fun z => by cases z), fun _ => ⟨true, exm 4 (by decide) 4 (by decide), fun _ a0 na => ?_, fun z => by cases z⟩⟩
          cases e5 : whD a with
          | none => rw [e5] at q; exact q.elim
          | some k0 =>
            rw [e5] at q
            cases (show [("at" : Str)] = [fl] from hfl)
            refine ⟨dd, v, U, a, k0, Told.set2 (by omega), rfl, rfl, hdd, rv, e5, fun t nt => ?_⟩
            refine new _ _ q (.cons ⟨rfl, ?_⟩ (.cons rfl .nil)) (by show 2 ≤ 1000; decide) t nt
            cases k0 <;> (rw [sizeLine_eq]; decide)
        · rw [if_neg h4] at q
          by_cases h3 : c = 3
          · subst h3
            rw [if_pos rfl] at q
            refine ⟨false, exm 3 (by decide) 2 (by decide), (fun z => by cases z), fun _ => ⟨false, exm 3 (by decide) 4 (by decide), (fun z => by cases z), fun _ => ⟨true, exm 3 (by decide) 3 (by decide), fun _ a0 na => ?_, fun z => by cases z⟩⟩⟩
            cases (show [("reason" : Str)] = [fl] from hfl)
            exact ⟨dd, v, Told.set2 (by omega), rfl, rfl, hdd, fun t nt => new _ _ q (.cons ⟨rfl, by rw [sizeLine_eq]; decide⟩ (.cons rv .nil)) (by show 2 ≤ 1000; decide) t nt⟩
          · rw [if_neg h3] at q
            exact q.elim
end
end Dn
/-! DnAt: what a text's defs and classes must be behind its top. -/
namespace Dn
open PySem L2
structure DefAt (G : Wd) (x : Str) (st : Stmt) (ps : List Str) : Prop where
  ex : ∃ (f : Addr) (fd : FuncData), Fun G.K x x st f fd ∧ G.mg x = some (.ref f) ∧ PySem.W.keepIn G.K (.ref f) = true ∧ Binds G.K fd ps []
structure MethAt (G : Wd) (c : Nat) (x qual : Str) (st : Stmt) (ps : List Str) : Prop where
  ex : ∃ (f : Addr) (fd : FuncData), Fun G.K x qual st f fd ∧ Meth G.K (G.cl c) x f ∧ Binds G.K fd ps []
/-- a class's __init__, called with all arguments or so that the defaults dd stand in -/
structure InitAt (G : Wd) (c : Nat) (name qual : Str) (st : Stmt) (ps : List Str) (dd : List D) : Prop where
  ex : ∃ (f : Addr) (fd : FuncData) (dus : List Value) (dvs : List V), DefV G.K "__init__" qual st f fd ∧ Mk G.K (G.cl c) f ∧ G.mg name = some (.ref (G.cl c)) ∧ Binds G.K fd ps dus ∧ Vals dvs dus ∧ ∀ U H, RepL G.g U H dd dvs
section
variable {G : Wd} {k n : Nat}
theorem fnD_of {x : Str} {st : Stmt} {N ps : List Str} (A : DefAt G x st ps) (hbl : ∀ y ∈ bltNames, G.mg y = none) (b : Sb) (e : defBody st = b.ast) (S : FnScope N ps (defScope st)) (hn : ps.length = n) (hN : ps.length ≤ N.length) (hw : b.wf N (defScope st) = true) (ho : b.Ok G k) : FnD G ⟨x, n, k + 1, runB N.length b.den⟩ := by
  obtain ⟨f, fd, F, hm, hk, hb⟩ := A.ex
  exact ⟨f, fd, ps, b.fn e hbl (.of F) S hn hN hw ho, hm, hk, hb⟩
theorem mtD_of {c : Nat} {x qual : Str} {st : Stmt} {N ps : List Str} (A : MethAt G c x qual st ps) (hbl : ∀ y ∈ bltNames, G.mg y = none) (hc : Cls G.K (G.cl c)) (hx : x ∉ fldsOf c) (b : Sb) (e : defBody st = b.ast) (S : FnScope N ps (defScope st)) (hn : ps.length = n) (hN : ps.length ≤ N.length)
    (hw : b.wf N (defScope st) = true) (ho : b.Ok G k) : MtD G ⟨c, x, n, k + 1, runB N.length b.den⟩ := by
  obtain ⟨f, fd, F, me, hb⟩ := A.ex
  exact ⟨hx, hc, f, fd, ps, b.fn e hbl (.of F) S hn hN hw ho, me, hb⟩
theorem mkD_of {c : Nat} {x qual : Str} {st : Stmt} {N ps : List Str} {dd : List D} (A : InitAt G c x qual st ps dd) (hbl : ∀ y ∈ bltNames, G.mg y = none) (b : Sb) (e : defBody st = b.ast) (S : FnScope N ps (defScope st)) (hn : ps.length = n + dd.length + 1) (hN : ps.length ≤ N.length)
    (hw : b.wf N (defScope st) = true) (ho : b.Ok G k) : MkD G ⟨c, x, n, k + 1, initB c N.length b.den⟩ dd := by
  obtain ⟨f, fd, dus, dvs, F, mk, hm, hb, hv, hr⟩ := A.ex
  exact ⟨f, fd, ps, dus, dvs, b.init e hbl F S hn hN hw ho, mk, hm, hb, hv, hr⟩
theorem glo_fn {x : Str} {st : Stmt} {ps : List Str} (A : DefAt G x st ps) : GloOk G x (.fn x) := by
  obtain ⟨f, fd, F, hm, hk, hb⟩ := A.ex
  exact ⟨_, .ref f, hm, rfl, fun U H => ⟨f, hm, rfl⟩⟩
/-- a constant of the module -/
theorem glo_str {x z : Str} {t : Tok} (h : G.mg x = some (.str z t)) (hz : z.length ≤ sizeLine) : GloOk G x (.str z) := ⟨_, .str z, h, ⟨t, rfl⟩, fun U H => ⟨rfl, hz⟩⟩
theorem glo_int {x : Str} {i : Int} {t : Tok} (h : G.mg x = some (.int i t)) : GloOk G x (.int i) := ⟨_, .int i, h, ⟨t, rfl⟩, fun U H => rfl⟩
/-! ### own operators -/
structure OpsF (G : Wd) (c : Nat) (op : Operator) : Prop where
  back : ∃ rc, PySem.W.findIn G.K (.ref (G.cl c)) (PySem.dunderR op.info.2) = some rc ∧ (rc = none ∨ ∃ g : Addr, rc = some (.ref g))
  ty : ∀ T ∈ tyNames, (∃ fo, PySem.W.findIn G.K (.type T) (PySem.dunder op.info.2) = some fo) ∧ (∃ ro, PySem.W.findIn G.K (.type T) (PySem.dunderR op.info.2) = some ro)
structure OwnF (G : Wd) (c : Nat) : Prop where
  first : PySem.W.selfFirst G.K (G.cl c) = true
  sub : ∀ T ∈ tyNames, PySem.W.subIn G.K (.type T) (.ref (G.cl c)) = some false
  me : PySem.W.notFirst G.K (G.cl c) (.ref (G.cl c)) = true
  ty : ∀ T ∈ tyNames, PySem.W.notFirst G.K (G.cl c) (.type T) = true
theorem ownB_of {op : Operator} {m : Mt} (d : MtD G m) (n2 : m.n = 2) (nm : m.name = PySem.dunder op.info.2) (F : OwnF G m.c) (O : OpsF G m.c op) : OwnB G op m := ⟨d, n2, nm, F.first, O.back, fun T h => ⟨(O.ty T h).1, (O.ty T h).2, F.sub T h⟩⟩
theorem own_ok {op : Operator} {m : Mt} (o : OwnB G op m) (h : m.lvl ≤ k) : OwnOk G op (some m) k := fun m' e => by
  cases e
  exact ⟨o, h⟩
theorem own_none {op : Operator} : OwnOk G op none k := fun m e => by cases e
theorem neg_ok {m : Mt} (o : OwnN G m) (h : m.lvl ≤ k) : ∀ m', some m = some m' → OwnN G m' ∧ m'.lvl ≤ k := fun m' e => by
  cases e
  exact ⟨o, h⟩
theorem neg_none : ∀ m : Mt, none = some m → OwnN G m ∧ m.lvl ≤ k := fun m e => by cases e
theorem eq_own {m : Mt} (o : OwnEq G m) (h : m.lvl + 8 ≤ k) : EqOk G true k := fun _ => ⟨m, o, h⟩
theorem eq_none : EqOk G false k := fun e => by cases e
/-- a slot's whole number -/
def natAt (i : Nat) (env : DEnv) : Nat := match env[i]? with
  | some (.fz (.int n)) => n.natAbs + 2
  | _ => 0
/-- a def that is not to be called -/
theorem fnD_bad {x : Str} {st : Stmt} {ps : List Str} (A : DefAt G x st ps) (hn : ps.length = n) : FnD G ⟨x, n, k, fun _ => bad⟩ := by
  obtain ⟨f, fd, F, hm, hk, hb⟩ := A.ex
  refine ⟨f, fd, ps, ⟨fun vs H Q E h => h.1.trans hn.symm, fun A outer s H args us vs Q E _ _ _ _ h => ?_⟩, hm, hk, hb⟩
  obtain ⟨_, ds, st, U, _, _, q⟩ := h
  exact q.elim
end
/-- what the text's exceptions must be for _law_told -/
structure ToldB (G : Wd) : Prop where
  n2 : G.mg "Malformed" = some (.ref (G.cl 2))
  n3 : G.mg "Refused" = some (.ref (G.cl 3))
  n4 : G.mg "NoText" = some (.ref (G.cl 4))
  exm : ∀ c ∈ [2, 3, 4], ∀ c' ∈ [2, 3, 4], PySem.W.exmOne G.K (.ref (G.cl c)) (.ref (G.cl c')) = some (c == c')
  a3 : XcA G.K (G.cl 3) "reason"
  a4 : XcA G.K (G.cl 4) "at"
end Dn
/-! DnLaw: _law_state, and a law whose first statement draws its state. -/
namespace Dn
open PySem L2
abbrev sN : List Str := ["script", "seed", "total", "cell"]
/-- the text of _law_state -/
structure StT (st : Stmt) : Prop where
  body : ∃ (q : Nat → Pos) (k : Nat → Nat), defBody st = [.Assign [.Name "seed" (q 0)] (.Constant (.int 0) (k 0) (q 1)) (q 2), .Assign [.Name "total" (q 3)] (.Constant (.int 1) (k 1) (q 4)) (q 5),
    .For (.Name "cell" (q 6)) (.Subscript (.Name "script" (q 7)) (.Slice none (some (.Constant (.int 63) (k 2) (q 8))) none (q 9)) (q 10))
      [.Assign [.Name "seed" (q 11)] (.BinOp (.BinOp (.Name "seed" (q 12)) .Mult (.Constant (.int 1000003) (k 3) (q 13)) (q 14)) .Add (.Call (.Name "abs" (q 15)) [.Name "cell" (q 16)] [] (q 17)) (q 18)) (q 19),
       .Assign [.Name "total" (q 20)] (.BinOp (.Call (.Name "int" (q 21)) [.BinOp (.BinOp (.Name "total" (q 22)) .Mult (.Constant (.int 48271) (k 4) (q 23)) (q 24)) .Add (.Name "cell" (q 25)) (q 26)] [] (q 27)) .Mod (.Constant (.int 2147483647) (k 5) (q 28)) (q 29)) (q 30)] [] (q 31),
    .Return (some (.List [.Name "seed" (q 32), .IfExp (.Compare (.Name "total" (q 33)) [.NotEq] [.Constant (.int 1973665155) (k 6) (q 34)] (q 35)) (.Name "total" (q 36)) (.Constant (.int 7) (k 7) (q 37)) (q 38)] (q 39))) (q 40)]
  sc : FnScope sN ["script"] (defScope st)
  v0 : nmB sN (defScope st) 0 "script" = true
  v1 : nmB sN (defScope st) 1 "seed" = true
  v2 : nmB sN (defScope st) 2 "total" = true
  v3 : nmB sN (defScope st) 3 "cell" = true
  l1 : ownB sN (defScope st) 1 "seed" = true
  l2 : ownB sN (defScope st) 2 "total" = true
  l3 : ownB sN (defScope st) 3 "cell" = true
  gA : glB (defScope st) "abs" = true
  gI : glB (defScope st) "int" = true
/-- _law_state's promise: a list of ints in, a new list of two ints out -/
def spSt (K : PySem.W.Frag) : Sp := fun vs H Q _ => ∃ (a : Addr) (ns : List Int), vs = [.ref a] ∧ SqL K H a (ns.map V.int) ∧ ∀ (s1 s2 : Int) (l : Addr) (H' : Hp), Ext H H' → H l = none → H' l = some (.lst [.int s1, .int s2]) → Q (.ref l) H'
theorem own_loc {N : List Str} {X : Cx} {i : Nat} {x : Str} (hN : X.N = N) (h : ownB N X.env.scope i x = true) : X.N[i]? = some x ∧ Loc X.env.scope x := by
  obtain ⟨h1, h2⟩ := and_of (show (N[i]? == some x && (X.env.scope.names.lookup x == some .local || X.env.scope.names.lookup x == some .cell)) = true from h)
  refine ⟨by rw [hN]; exact eq_of_beq h1, ?_⟩
  exact cases_kind h2
theorem cut_ints (ns : List Int) (lo hi : Option Int) : ∃ ms : List Int, cutV (ns.map V.int) lo hi = ms.map V.int := by
  unfold cutV
  rw [← List.map_drop, ← List.map_take]
  exact ⟨_, rfl⟩
theorem st_ok {P : Program} {w : World} {K : PySem.W.Frag} {mg : Str → Option Value} {base : Heap} {x qual : Str} {st : Stmt} {f : Addr} {fd : FuncData} (T : StT st) (F : Fun K x qual st f fd) (hbl : ∀ y ∈ bltNames, mg y = none) : FnOk P w K mg base CX0 1 f fd ["script"] (spSt K) := by
  refine F.ok T.sc (fun vs H Q E h => ?_) (fun cdv A outer s H vs Q E hr h => ?_)
  · obtain ⟨_, _, rfl, _⟩ := h
    rfl
  · obtain ⟨a, ns, rfl, hS, k⟩ := h
    obtain ⟨q, kk, e⟩ := T.body
    rw [e]
    generalize hX : (cxOf CX0 P w K mg base sN qual (defScope st) f cdv A outer s H E).nox = X
    have hs : X.env.scope = defScope st := by rw [← hX]; rfl
    have hm : X.mg = mg := by rw [← hX]; rfl
    have hN : X.N = sN := by rw [← hX]; rfl
    have hfn : X.fn = fun _ => true := by rw [← hX]; rfl
    have hK : X.K = K := by rw [← hX]; rfl
    have hxe : X.xe = fun _ _ => False := by rw [← hX] <;> rfl
    have hc : X.calm = true := by rw [← hX]; rfl
    have nd : X.N.Nodup := by rw [hN]; exact T.sc.nd
    have V0 := nmB_of (X := X) hN (by rw [hs]; exact T.v0)
    have V1 := nmB_of (X := X) hN (by rw [hs]; exact T.v1)
    have V2 := nmB_of (X := X) hN (by rw [hs]; exact T.v2)
    have V3 := nmB_of (X := X) hN (by rw [hs]; exact T.v3)
    have L1 := own_loc (X := X) hN (by rw [hs]; exact T.l1)
    have L2 := own_loc (X := X) hN (by rw [hs]; exact T.l2)
    have L3 := own_loc (X := X) hN (by rw [hs]; exact T.l3)
    have ft : ∀ y, X.fn y = true := fun y => by rw [hfn]
    have gA := Sc.gl (X := X) (by rw [hs]; exact T.gA)
    have gI := Sc.gl (X := X) (by rw [hs]; exact T.gI)
    have p0 := fun p => pe_var (X := X) (pos := p) V0.1 V0.2.1 V0.2.2.1 V0.2.2.2
    have p1 := fun p => pe_var (X := X) (pos := p) V1.1 V1.2.1 V1.2.2.1 V1.2.2.2
    have p2 := fun p => pe_var (X := X) (pos := p) V2.1 V2.2.1 V2.2.2.1 V2.2.2.2
    have p3 := fun p => pe_var (X := X) (pos := p) V3.1 V3.2.1 V3.2.2.1 V3.2.2.2
    have mA : X.mg "abs" = none := by rw [hm]; exact hbl _ (by decide +kernel)
    have mI : X.mg "int" = none := by rw [hm]; exact hbl _ (by decide +kernel)
    have pown : PassesOwn (model X.prog X.w) X.A X.env X.xe := by rw [hxe]; exact PassesOwn.never
    refine ⟨_, pss_cons (ps_set nd L1.1 L1.2 pe_int rfl (.inl (ft _))) (pss_cons (ps_set nd L2.1 L2.2 pe_int rfl (.inl (ft _)))
      (pss_cons (ps_for pown hc (pi_list (pe_slice sl_list (p0 _) po_none (po_some pe_int))) (pg_name nd L3.1 L3.2 (.inl (ft _)))
        (pss_cons (ps_set nd L1.1 L1.2 (pe_op op_add (pe_op op_mul (p1 _) pe_int) (pe_callB (id := "abs") call_abs gA.1 mA (by decide +kernel) (pa_cons (p3 _) pa_nil))) rfl (.inl (ft _)))
          (pss_one (ps_set nd L2.1 L2.2 (pe_op op_mod (pe_callTy (T := "int") call_int1 gI.1 mI (by decide +kernel) (pa_cons (pe_op op_add (pe_op op_mul (p2 _) pe_int) (p3 _)) pa_nil)) pe_int) rfl (.inl (ft _))))) (fun _ => rfl))
        (pss_one (ps_ret (pe_lst (pa_cons (p1 _) (pa_cons (pe_ifExp (pt_cmpR op_ne (p2 _) pe_int rfl) (p2 _) pe_int) pa_nil))))))), ?_⟩
    obtain ⟨ms, hms⟩ := cut_ints ns none (some 63)
    -- seed = 0; total = 1; for cell in script[:63]
    refine ⟨.ref a, rfl, 63, rfl, a, ns.map V.int, rfl, by rw [hK]; exact hS, fun l0 nl0 => ?_⟩
    rw [hms]
    have sl : SqL X.K (upd H l0 (.lst (ms.map V.int))) l0 (ms.map V.int) := .inl (.inl upd_same)
    refine ⟨l0, rfl, ⟨_, sl⟩, for_list (K := X.K) (a := l0) (xs := ms.map V.int) (fun i σ H2 => ∃ (z t : Int) (v : Option V), σ = [some (.ref a), some (.int z), some (.int t), v] ∧ Ext H H2 ∧ H2 l0 = some (.lst (ms.map V.int)))
      ⟨0, 1, none, rfl, Ext.upd nl0, upd_same⟩ (fun i σ H2 _ ⟨_, _, _, _, _, e2⟩ => .inl (.inl e2)) ?_ ?_⟩
    · rintro i y σ H2 hi ⟨z, t, v, rfl, ex, e2⟩
      obtain ⟨c, rfl⟩ : ∃ c, y = V.int c := by
        rw [List.getElem?_map] at hi
        cases e : ms[i]? with
        | none => rw [e] at hi; cases hi
        | some c => rw [e] at hi; exact ⟨c, (Option.some.inj hi).symm⟩
      have m1 : CMul z 1000003 := .inr ⟨by decide, by decide⟩
      have m2 : CMul t 48271 := .inr ⟨by decide, by decide⟩
      refine ⟨_, rfl, _, _, rfl, rfl, m1, _, rfl, _, rfl, _, _, rfl, rfl, ?_⟩
      refine ⟨_, rfl, _, _, rfl, rfl, m2, _, rfl, _, _, rfl, rfl, .inl ⟨_, rfl, _, _, rfl, rfl, (by show (0 : Int) < 2147483647; decide), ?_⟩⟩
      exact ⟨_, _, _, rfl, ex, e2⟩
    · rintro σ H2 ⟨z, t, v, rfl, ex, e2⟩
      have fin : ∀ t' : Int, [V.int z, V.int t'].length ≤ sizeLine ∧ ∀ p, H2 p = none → Q (.ref p) (upd H2 p (.lst [.int z, .int t'])) := fun t' =>
        ⟨by rw [sizeLine_eq]; show 2 ≤ 16777216; omega, fun p hp => k z t' p _ (ex.upd' hp) (by
          cases e : H p with
          | none => rfl
          | some o => rw [ex p o e] at hp; cases hp) upd_same⟩
      refine ⟨_, rfl, _, rfl, rfl, ?_⟩
      refine ⟨_, rfl, ?_⟩
      cases (!decide (V.int t = V.int 1973665155)) with
      | true => exact iteT ⟨_, rfl, fin t⟩
      | false => exact iteF (fin 7)
/-! ### a law whose first statement draws its state -/
def Wd.put (G : Wd) (l : Addr) : Wd := { G with sa := l }
/-- law's promise: a list of ints in, True out -/
def spLaw (K : PySem.W.Frag) : Sp := fun vs H Q _ => ∃ (a : Addr) (ns : List Int), vs = [.ref a] ∧ SqL K H a (ns.map V.int) ∧ ns.length ≤ 63 ∧ ∀ H', Q (.bl true) H'
/-- the frame behind the first statement -/
def startL (n : Nat) : DEnv := (List.replicate n Sl.un).set 1 (.fz .st)
theorem startL_mt {n : Nat} (i : Nat) (d : D) : (startL n)[i]? ≠ some (.mt d) := fun e => by
  unfold startL at e
  by_cases hi : i = 1
  · subst hi
    rw [List.getElem?_set] at e
    split at e
    · split at e <;> cases e
    · exact absurd rfl (by assumption)
  · rw [List.getElem?_set_ne (Ne.symm hi), List.getElem?_replicate] at e
    split at e <;> cases e
theorem law_sound {G : Wd} {st : Stmt} {f fs : Addr} {fd fds : FuncData} {N : List Str} {b : Sb} {k : Nat} {q0 q1 q2 q3 q4 : Pos} (F : Fun G.K "law" "law" st f fd) (sc : FnScope N ["script"] (defScope st))
    (e : defBody st = .Assign [.Name "state" q0] (.Call (.Name "_law_state" q1) [.Name "script" q2] [] q3) q4 :: b.ast) (v0 : nmB N (defScope st) 0 "script" = true) (l1 : ownB N (defScope st) 1 "state" = true) (g : glB (defScope st) "_law_state" = true) (hN : 2 ≤ N.length)
    (hw : b.wf N (defScope st) = true) (ho : ∀ l, b.Ok (G.put l) k) (hbl : ∀ y ∈ bltNames, G.mg y = none) (hk : 1 ≤ k)
    (Fs : FnOk G.P G.w G.K G.mg G.base CX0 1 fs fds ["script"] (spSt G.K)) (hm : G.mg "_law_state" = some (.ref fs)) (hkp : PySem.W.keepIn G.K (.ref fs) = true) (hb : Binds G.K fds ["script"] [])
    (true_ : ∀ s : S, ∃ s', b.den (startL N.length) s = .rt (.bl true) s') : FnOk G.P G.w G.K G.mg G.base CX0 (k + 1) f fd ["script"] (spLaw G.K) := by
  refine F.ok sc (fun vs H Q E h => ?_) (fun cdv A outer s H vs Q E hr h => ?_)
  · obtain ⟨_, _, rfl, _⟩ := h
    rfl
  · obtain ⟨a, ns, rfl, hS, _, kq⟩ := h
    rw [e]
    generalize hX : (cxOf CX0 G.P G.w G.K G.mg G.base N "law" (defScope st) f cdv A outer s H E).nox = X
    have hs : X.env.scope = defScope st := by rw [← hX]; rfl
    have hxe : X.xe = fun _ _ => False := by rw [← hX] <;> rfl
    have hfn : X.fn = fun _ => true := by rw [← hX]; rfl
    have tk : Takes X (fun c d _ H => W0 c d H) := by
      subst hX
      exact fun _ _ ⟨_, _, _, _, _, _, _, _, _, _, _, _, _, _, _, _, z⟩ => z.elim
    have hXo : ∀ l, XOk (G.put l) X N W0 k := fun l => by
      subst hX
      exact ⟨rfl, rfl, rfl, rfl, rfl, rfl, rfl, sc.nd, hr, tk, PassesOwn.never, hbl⟩
    have hX0 := hXo 0
    have V0 := nmB_of (X := X) hX0.names (by rw [hs]; exact v0)
    have L1 := own_loc (X := X) hX0.names (by rw [hs]; exact l1)
    have gl := Sc.gl (X := X) (by rw [hs]; exact g)
    have nd : X.N.Nodup := by rw [hX0.names]; exact sc.nd
    have rest : PSs X b.ast (fun D σ H => ∃ l, tS (G.put l).g W0 b.den D σ H) := ⟨fun pins s σ H D I ⟨l, h⟩ =>
      (b.sound (G := G.put l) X N W0 k (hXo l) (by rw [hs]; exact sc.kind) hfn (by rw [hs]; exact hw) (ho l)).run pins s σ H D I h⟩
    have Fs' : FnOk X.prog X.w X.K X.mg X.base CX0 1 fs fds ["script"] (spSt G.K) := by
      subst hX
      exact Fs
    refine ⟨_, pss_cons (ps_set nd L1.1 L1.2 (pe_call Fs' (hX0.room.mono hk) gl.1 (by rw [hX0.mg]; exact hm) (by rw [hX0.K]; exact hkp) (by rw [hX0.K]; exact hb) .nil (E := fun _ _ _ => False) (fun _ _ _ _ _ _ _ z => z.elim) (pa_cons (pe_var V0.1 V0.2.1 V0.2.2.1 V0.2.2.2) pa_nil) gl.2 rfl rfl) rfl (.inl (by rw [hfn]))) rest, ?_⟩
    have n0 : (L2.start N [.ref a])[0]? = some (some (V.ref a)) := start_get rfl
    refine ⟨_, n0, ?_⟩
    have fin : ∀ (s1 s2 : Int) (l : Addr) (H' : Hp), H l = none → H' l = some (.lst [.int s1, .int s2]) → gName 1 (.ref l) (L2.start N [V.ref a]) H' (fun σ H2 => ∃ l, tS (G.put l).g W0 b.den { nx := fun _ H' => Q .non H', rt := Q } σ H2) := by
      intro s1 s2 l H' nl hl
      refine ⟨l, (fun a => a = l), (fun _ => False), none, H', startL N.length, (s1, s2), ⟨rfl, fun a h => h.elim, fun a h => ⟨.lst [.int s1, .int s2], by rw [h]; exact hl⟩, Stay.refl _ _, hl, ?_, fun i y e => ?_, fun i d a e _ => ?_, fun i j d e a h1 _ _ _ => ?_, fun x hx => by cases hx⟩, ?_⟩
      · unfold startL L2.start
        simp only [List.length_set, List.length_append, List.length_map, List.length_replicate, List.length_cons, List.length_nil]
        omega
      · unfold startL at e
        by_cases hi : i = 1
        · subst hi
          rw [List.getElem?_set_self (by rw [List.length_replicate]; omega)] at e
          cases e
          refine ⟨.ref l, ?_, rfl⟩
          rw [List.getElem?_set_self]
          unfold L2.start
          simp only [List.length_append, List.length_map, List.length_replicate, List.length_cons, List.length_nil]
          omega
        · rw [List.getElem?_set_ne (Ne.symm hi), List.getElem?_replicate] at e
          split at e
          · cases e; trivial
          · cases e
      · exact absurd e (startL_mt i d)
      · exact absurd h1 (startL_mt i d)
      · obtain ⟨s', hb'⟩ := true_ (s1, s2)
        rw [hb']
        intro v H2 _ _ hv
        cases (show v = .bl true from hv)
        exact kq H2
    have goal : spSt G.K [V.ref a] H (fun x H1 => gName 1 x (L2.start N [V.ref a]) H1 (fun σ H2 => ∃ l, tS (G.put l).g W0 b.den { nx := fun _ H' => Q .non H', rt := Q } σ H2)) (fun _ _ _ => False) := by
     refine ⟨a, ns, rfl, hS, fun s1 s2 l H' ex nl hl => ?_⟩
     exact fin s1 s2 l H' nl hl
    exact goal
end Dn
/-! DnTop: from what the top has written to the facts of DnAt. -/
namespace Dn
open PySem L2
theorem ty_find {K : PySem.W.Frag} {T : String} {x : Str} (h : (PySem.W.findIn [] (.type T) x).isSome = true) : ∃ fo, PySem.W.findIn K (.type T) x = some fo := by
  cases e : PySem.W.findIn [] (.type T) x with
  | none => rw [e] at h; cases h
  | some fo => exact ⟨fo, e⟩
theorem opsF_of {G : Wd} {c : Nat} {op : Operator} (h : PySem.W.findIn G.K (.ref (G.cl c)) (PySem.dunderR op.info.2) = some none)
    (ht : (tyNames.all fun T => (PySem.W.findIn [] (.type T) (PySem.dunder op.info.2)).isSome && (PySem.W.findIn [] (.type T) (PySem.dunderR op.info.2)).isSome) = true) : OpsF G c op :=
  ⟨⟨none, h, .inl rfl⟩, fun T hT => by
    obtain ⟨h1, h2⟩ := and_of (List.all_eq_true.mp ht T hT)
    exact ⟨ty_find h1, ty_find h2⟩⟩
theorem opsF_add {G : Wd} {c : Nat} (h : PySem.W.findIn G.K (.ref (G.cl c)) "__radd__" = some none) : OpsF G c .Add := opsF_of h (by decide +kernel)
theorem opsF_sub {G : Wd} {c : Nat} (h : PySem.W.findIn G.K (.ref (G.cl c)) "__rsub__" = some none) : OpsF G c .Sub := opsF_of h (by decide +kernel)
theorem opsF_mul {G : Wd} {c : Nat} (h : PySem.W.findIn G.K (.ref (G.cl c)) "__rmul__" = some none) : OpsF G c .Mult := opsF_of h (by decide +kernel)
theorem six {p : String → Prop} (h1 : p "NoneType") (h2 : p "bool") (h3 : p "int") (h4 : p "str") (h5 : p "tuple") (h6 : p "list") : ∀ T ∈ tyNames, p T := by
  intro T hT
  simp only [tyNames, List.mem_cons, List.not_mem_nil, or_false] at hT
  rcases hT with rfl | rfl | rfl | rfl | rfl | rfl <;> assumption
theorem six' {p : String → Prop} (h1 : p "NoneType") (h2 : p "bool") (h3 : p "int") (h4 : p "str") (h5 : p "tuple") (h6 : p "list") : ∀ T ∈ ["NoneType", "int", "bool", "str", "tuple", "list"], p T := by
  intro T hT
  simp only [List.mem_cons, List.not_mem_nil, or_false] at hT
  rcases hT with rfl | rfl | rfl | rfl | rfl | rfl <;> assumption
theorem sixC {p : String → Prop} (h1 : p "int") (h2 : p "bool") (h3 : p "str") (h4 : p "tuple") (h5 : p "list") (h6 : p "dict") : ∀ T ∈ ["int", "bool", "str", "tuple", "list", "dict"], p T := by
  intro T hT
  simp only [List.mem_cons, List.not_mem_nil, or_false] at hT
  rcases hT with rfl | rfl | rfl | rfl | rfl | rfl <;> assumption
theorem exm_of {K : PySem.W.Frag} {A S : Addr} {b : Bool} (h1 : PySem.W.subIn K (.ref S) (.type "BaseException") = some true) (h2 : PySem.W.isClsIn K S = true) (h3 : PySem.W.typeIn K (.ref S) = some (.type "type")) (h4 : PySem.W.subIn K (.ref A) (.ref S) = some b) : PySem.W.exmOne K (.ref A) (.ref S) = some b := by
  have e1 : (PySem.W.subIn K (.ref S) (.type "BaseException") == some true) = true := by rw [h1] <;> rfl
  have e2 : ((PySem.W.clsIn K S).isSome && PySem.W.typeIn K (.ref S) == some (.type "type")) = true := by
    have h2' : (PySem.W.clsIn K S).isSome = true := h2
    rw [h2', h3] <;> rfl
  show (if (PySem.W.subIn K (.ref S) (.type "BaseException") == some true) = true then (if ((PySem.W.clsIn K S).isSome && PySem.W.typeIn K (.ref S) == some (.type "type")) = true then PySem.W.subIn K (.ref A) (.ref S) else none) else none) = some b
  rw [if_pos e1, if_pos e2]
  exact h4
theorem defAt_of {G : Wd} {x : Str} {st : Stmt} {ps : List Str} {f : Addr} {h : Heap} {oc kV doc pm cdv ct : Value} {od an : Option Addr} {osl : Array (Option Value)} (X : G.K.In h) (N : h.Ns mainGlobals G.mg) (a : PySem.W.nsIn G.K mainGlobals x = some (some (.ref f)))
    (l : G.K.lookup f = some ⟨oc, od, .func (PySem.W.fnOf x x (defArgs st) (defBody st) (defScope st) .none kV doc pm an cdv ct), osl⟩) (c : PySem.W.codeIn G.K cdv x = true) (k : PySem.W.keepIn G.K (.ref f) = true)
    (b : ∀ (kV doc pm : Value) (an : Option Addr) (cdv ct : Value) (us : List Value), us.length = ps.length → bindArgs (PySem.W.fnOf x x (defArgs st) (defBody st) (defScope st) .none kV doc pm an cdv ct) ⟨us, []⟩ = pure (ps.zip us)) : DefAt G x st ps :=
  ⟨⟨f, _, fun_mk l c k, PySem.W.mg_of X N a, k, (fun_mk l c k).binds b⟩⟩
theorem methAt_of {G : Wd} {n : Nat} {x qual : Str} {st : Stmt} {ps : List Str} {f : Addr} {oc kV doc pm cdv ct : Value} {od an : Option Addr} {osl : Array (Option Value)} (a : PySem.W.findIn G.K (.ref (G.cl n)) x = some (some (.ref f))) (i : PySem.W.isFn G.K (.ref f) = true)
    (l : G.K.lookup f = some ⟨oc, od, .func (PySem.W.fnOf x qual (defArgs st) (defBody st) (defScope st) .none kV doc pm an cdv ct), osl⟩) (c : PySem.W.codeIn G.K cdv qual = true) (k : PySem.W.keepIn G.K (.ref f) = true)
    (b : ∀ (kV doc pm : Value) (an : Option Addr) (cdv ct : Value) (us : List Value), us.length = ps.length → bindArgs (PySem.W.fnOf x qual (defArgs st) (defBody st) (defScope st) .none kV doc pm an cdv ct) ⟨us, []⟩ = pure (ps.zip us)) : MethAt G n x qual st ps :=
  ⟨⟨f, _, fun_mk l c k, ⟨a, i, k⟩, (fun_mk l c k).binds b⟩⟩
/-- an __init__ with one default, a whole number: called with all arguments, and without the last -/
theorem initAt_of {G : Wd} {n : Nat} {x qual : Str} {st : Stmt} {ps : List Str} {f T : Addr} {h : Heap} {oc kV doc pm cdv ct cT : Value} {od an dT : Option Addr} {osl sT : Array (Option Value)} {nT : Nat} {i0 : Int} {tk : Tok} (X : G.K.In h) (N : h.Ns mainGlobals G.mg)
    (a : PySem.W.nsIn G.K mainGlobals x = some (some (.ref (G.cl n)))) (mk : Mk G.K (G.cl n) f) (kp : PySem.W.keepIn G.K (.ref f) = true)
    (l : G.K.lookup f = some ⟨oc, od, .func (PySem.W.fnOf "__init__" qual (defArgs st) (defBody st) (defScope st) (.ref T) kV doc pm an cdv ct), osl⟩) (c : PySem.W.codeIn G.K cdv qual = true) (lT : G.K.lookup T = some ⟨cT, dT, .seq #[.int i0 tk] nT, sT⟩) (m : Nat) (hp : ps.length = m) (hm1 : 1 ≤ m)
    (b : ∀ (j : Nat), j ≤ 1 → ∀ (T : Addr) (kV doc pm : Value) (an : Option Addr) (cdv ct : Value) (us its : List Value), us.length + (1 - j) = m → its.length = 1 →
      ∃ k, bindArgs (PySem.W.fnOf "__init__" qual (defArgs st) (defBody st) (defScope st) (.ref T) kV doc pm an cdv ct) ⟨us, []⟩ = seqItems? (.ref T) >>= k ∧ k (some its.toArray) = pure (ps.zip (us ++ its.drop j))) : InitAt G n x qual st ps [] ∧ InitAt G n x qual st ps [.int i0] := by
  have F : FunD G.K "__init__" qual (defArgs st) (defBody st) (defScope st) [.int i0] [] f _ := ⟨⟨oc, od, .ref T, kV, doc, pm, an, cdv, ct, osl, rfl, l, c, .inr ⟨by simp, T, _, [.int i0 tk], nT, rfl, lT, rfl, .cons ⟨tk, rfl⟩ .nil⟩, .inl rfl⟩, kp⟩
  have V : DefV G.K "__init__" qual st f _ := ⟨⟨oc, od, .ref T, kV, doc, pm, an, cdv, ct, osl, rfl, l, c⟩⟩
  have hm := PySem.W.mg_of X N a
  refine ⟨?_, ?_⟩
  · obtain ⟨ds, v, bd⟩ := F.binds1 (ps := ps) m 1 (by simp) (by simp [hp]) fun T kV doc pm an cdv ct us its h1 h2 => b 1 (by omega) T kV doc pm an cdv ct us its (by omega) (by simpa using h2)
    cases v
    exact ⟨⟨f, _, [], [], V, mk, hm, bd, .nil, fun U H => rfl⟩⟩
  · obtain ⟨ds, v, bd⟩ := F.binds1 (ps := ps) (m - 1) 0 (by simp) (by simp [hp]; omega) fun T kV doc pm an cdv ct us its h1 h2 => b 0 (by omega) T kV doc pm an cdv ct us its (by omega) (by simpa using h2)
    exact ⟨⟨f, _, ds, [.int i0], V, mk, hm, bd, v, fun U H => ⟨.int i0, [], rfl, rfl, rfl⟩⟩⟩
theorem kit_s {K : PySem.W.Frag} {C : Addr} : PySem.W.kitOne K (.ref C) (.ref C) = some true := if_pos (beq_self_eq_true _)
theorem kit_b {K : PySem.W.Frag} {C : Addr} {T : String} {b : Bool} (h : PySem.W.subIn K (.ref C) (.type T) = some b) (m : PySem.W.kitMeta T = true) : PySem.W.kitOne K (.ref C) (.type T) = some b := by
  unfold PySem.W.kitOne
  rw [if_neg (by simp)]
  show (if PySem.W.kitMeta T = true then _ else none) = _
  rw [if_pos m]
  exact h
theorem kit_o {K : PySem.W.Frag} {C : Addr} {T : String} {b : Bool} (h2 : PySem.W.isClsIn K C = true) (h3 : PySem.W.typeIn K (.ref C) = some (.type "type")) (h : PySem.W.subIn K (.type T) (.ref C) = some b) : PySem.W.kitOne K (.type T) (.ref C) = some b := by
  unfold PySem.W.kitOne
  rw [if_neg (by simp)]
  have e2 : ((PySem.W.clsIn K C).isSome && PySem.W.typeIn K (.ref C) == some (.type "type")) = true := by
    have h2' : (PySem.W.clsIn K C).isSome = true := h2
    rw [h2', h3] <;> rfl
  show (if _ then _ else none) = _
  rw [if_pos e2]
  exact h
end Dn
/-! DnSimp: equations by which a text's meaning is reckoned. -/
namespace Dn
open PySem L2
@[simp] theorem q_bind_ok {α β : Type} (a : α) (s : S) (k : α → S → R β) : (R.ok a s).bind k = k a s := rfl
@[simp] theorem q_bind_err {α β : Type} (e : Ex) (s : S) (k : α → S → R β) : (R.err e s : R α).bind k = .err e s := rfl
@[simp] theorem q_bind_bad {α β : Type} (k : α → S → R β) : (R.bad : R α).bind k = .bad := rfl
@[simp] theorem q_bind_if {α β : Type} (c : Prop) [Decidable c] (a b : R α) (k : α → S → R β) : (if c then a else b).bind k = if c then a.bind k else b.bind k := by split <;> rfl
@[simp] theorem q_sq {α β : Type} (m : M α) (k : α → M β) (s : S) : sq m k s = (m s).bind k := rfl
@[simp] theorem q_rt {α : Type} (a : α) (s : S) : rt a s = .ok a s := rfl
@[simp] theorem q_bad {α : Type} (s : S) : (bad : M α) s = .bad := rfl
@[simp] theorem q_gd (b : Prop) [Decidable b] (m : M D) (s : S) : gd b m s = if b then m s else .bad := rfl
@[simp] theorem q_noErr_ok {α : Type} (a : α) (s : S) : noErr (R.ok a s) = .ok a s := rfl
/-! ### outcomes of statements -/
def toO {α : Type} (r : R α) (k : α → S → O) : O := match r with
  | .ok a s => k a s
  | .err e s => .er e s
  | .bad => .bad
@[simp] theorem q_toO_ok {α : Type} (a : α) (s : S) (k : α → S → O) : toO (.ok a s) k = k a s := rfl
@[simp] theorem q_toO_err {α : Type} (e : Ex) (s : S) (k : α → S → O) : toO (.err e s) k = .er e s := rfl
@[simp] theorem q_toO_if {α : Type} (c : Prop) [Decidable c] (a b : R α) (k : α → S → O) : toO (if c then a else b) k = if c then toO a k else toO b k := by split <;> rfl
theorem lift_to {α : Type} (f : DEnv → M α) (k : α → MS) (env : DEnv) (s : S) : lift f k env s = toO (f env s) fun a s => k a env s := by
  unfold lift toO
  cases f env s <;> rfl
theorem lift_eq {α : Type} (f : DEnv → M α) (k : α → MS) (env : DEnv) (s : S) : lift f k env s = toO (f env s) fun a s => k a env s := by
  unfold lift toO
  cases f env s <;> rfl
def thenO (o : O) (g : MS) : O := match o with
  | .nx env s => g env s
  | o => o
@[simp] theorem q_then_nx (env : DEnv) (s : S) (g : MS) : thenO (.nx env s) g = g env s := rfl
@[simp] theorem q_then_rt (d : D) (s : S) (g : MS) : thenO (.rt d s) g = .rt d s := rfl
@[simp] theorem q_then_er (e : Ex) (s : S) (g : MS) : thenO (.er e s) g = .er e s := rfl
@[simp] theorem q_then_if (c : Prop) [Decidable c] (a b : O) (g : MS) : thenO (if c then a else b) g = if c then thenO a g else thenO b g := by split <;> rfl
theorem seq_eq (f g : MS) (env : DEnv) (s : S) : mSeq f g env s = thenO (f env s) g := by
  unfold mSeq thenO
  cases f env s <;> rfl
@[simp] theorem q_nil (env : DEnv) (s : S) : Sb.den .nil env s = .nx env s := rfl
@[simp] theorem q_cons (st : Sm) (r : Sb) (env : DEnv) (s : S) : Sb.den (.cons st r) env s = thenO (st.den env s) r.den := seq_eq _ _ _ _
@[simp] theorem q_ret (e : E) (p : Pos) (env : DEnv) (s : S) : Sm.den (.ret e p) env s = toO (e.den env s) fun d s => .rt d s := lift_to e.den (fun d _ s => .rt d s) env s
@[simp] theorem q_ex (e : E) (p : Pos) (env : DEnv) (s : S) : Sm.den (.ex e p) env s = toO (e.den env s) fun _ s => .nx env s := lift_to e.den (fun _ env s => .nx env s) env s
@[simp] theorem q_ifs (c : E) (a b : Sb) (p : Pos) (env : DEnv) (s : S) : Sm.den (.ifs c a b p) env s = toO (c.tst env s) fun k s => if k = true then a.den env s else b.den env s := lift_to c.tst (fun k env s => if k = true then a.den env s else b.den env s) env s
@[simp] theorem q_raise (c : Nat) (f n : Str) (e : E) (q p1 p : Pos) (env : DEnv) (s : S) : Sm.den (.raise c f n e q p1 p) env s = toO (e.den env s) fun d s => .er ⟨c, d⟩ s := lift_to e.den (fun d _ s => .er ⟨c, d⟩ s) env s
def asgO (o : Option DEnv) (s : S) : O := match o with
  | some env => .nx env s
  | none => .bad
@[simp] theorem q_asgO (env : DEnv) (s : S) : asgO (some env) s = .nx env s := rfl
@[simp] theorem q_asg (t : T) (e : E) (p : Pos) (env : DEnv) (s : S) : Sm.den (.asg t e p) env s = toO (e.den env s) fun d s => asgO (bindT t d env) s := lift_to e.den (fun d env s => asgO (bindT t d env) s) env s
def par2O (i j : Nat) (ds : List D) (env : DEnv) (s : S) : O := match ds with
  | [x, y] => .nx ((env.set i (.fz x)).set j (.fz y)) s
  | _ => .bad
@[simp] theorem q_par2O (i j : Nat) (x y : D) (env : DEnv) (s : S) : par2O i j [x, y] env s = .nx ((env.set i (.fz x)).set j (.fz y)) s := rfl
@[simp] theorem q_par2 {i : Nat} {x : Str} {px : Pos} {j : Nat} {y : Str} {py : Pos} {kt : Nat} {pt : Pos} {a b : E} {k2 : Nat} {p2 p : Pos} (env : DEnv) (s : S) : Sm.den (.par2 i x px j y py kt pt a b k2 p2 p) env s = toO (dCons a.den (dCons b.den dNil) env s) fun ds s => par2O i j ds env s := lift_to (dCons a.den (dCons b.den dNil)) (fun ds env s => par2O i j ds env s) env s
@[simp] theorem q_setat {i : Nat} {x : Str} {p1 : Pos} {c j : Nat} {f : Str} {p2 : Pos} {e : E} {p : Pos} (env : DEnv) (s : S) : Sm.den (.setat i x p1 c j f p2 e p) env s = mSetAt i c j e.den env s := rfl
@[simp] theorem q_whl (m : DEnv → Nat) (c : E) (b : Sb) (p : Pos) (env : DEnv) (s : S) : Sm.den (.whl m c b p) env s = whileL c.tst b.den (m env) env s := rfl
theorem while_yes {c : DEnv → M Bool} {b : MS} {n : Nat} {env env2 : DEnv} {s s1 s2 : S} (h : c env s = .ok true s1) (h2 : b env s1 = .nx env2 s2) : whileL c b (n + 1) env s = whileL c b n env2 s2 := by
  show (match c env s with | .ok true s1 => _ | .ok false s1 => _ | .err e s1 => _ | .bad => _) = _
  rw [h]
  show (match b env s1 with | .nx env2 s2 => _ | o => o) = _
  rw [h2]
theorem while_no {c : DEnv → M Bool} {b : MS} {n : Nat} {env : DEnv} {s s1 : S} (h : c env s = .ok false s1) : whileL c b (n + 1) env s = .nx env s1 := by
  show (match c env s with | .ok true s1 => _ | .ok false s1 => _ | .err e s1 => _ | .bad => _) = _
  rw [h]
/-! ### expressions -/
def slD1 (o : Option Sl) (s : S) : R D := match o with
  | some (.fz d) => .ok d s
  | _ => .bad
@[simp] theorem q_slD1 (d : D) (s : S) : slD1 (some (.fz d)) s = .ok d s := rfl
@[simp] theorem q_var (i : Nat) (x : Str) (p : Pos) (env : DEnv) (s : S) : E.den (.var i x p) env s = slD1 env[i]? s := rfl
@[simp] theorem q_int (i : Int) (k : Nat) (p : Pos) (env : DEnv) (s : S) : E.den (.int i k p) env s = .ok (.int i) s := rfl
@[simp] theorem q_str (i : Str) (k : Nat) (p : Pos) (env : DEnv) (s : S) : E.den (.str i k p) env s = .ok (.str i) s := rfl
@[simp] theorem q_bl (i : Bool) (k : Nat) (p : Pos) (env : DEnv) (s : S) : E.den (.bl i k p) env s = .ok (.bl i) s := rfl
@[simp] theorem q_non (k : Nat) (p : Pos) (env : DEnv) (s : S) : E.den (.non k p) env s = .ok .non s := rfl
@[simp] theorem q_glo (x : Str) (d : D) (p : Pos) (env : DEnv) (s : S) : E.den (.glo x d p) env s = .ok d s := rfl
@[simp] theorem q_bin (a : E) (o : Ob) (b : E) (p : Pos) (env : DEnv) (s : S) : E.den (.bin a o b p) env s = (a.den env s).bind fun x s => (b.den env s).bind fun y s => o.g x y s := rfl
@[simp] theorem q_un (o : Ou) (a : E) (p : Pos) (env : DEnv) (s : S) : E.den (.un o a p) env s = (a.den env s).bind fun x s => o.g x s := rfl
@[simp] theorem q_cmp (a : E) (o : Oc) (b : E) (p : Pos) (env : DEnv) (s : S) : E.den (.cmp a o b p) env s = (a.den env s).bind fun x s => (b.den env s).bind fun y s => o.g x y s := rfl
@[simp] theorem q_call (f : Fn) (e : E) (es : L) (q p : Pos) (env : DEnv) (s : S) : E.den (.call f e es q p) env s = (dCons e.den es.den env s).bind fun ds s => if ds.length = f.n then f.g ds s else .bad := by
  show ((dCons e.den es.den env) s).bind _ = _
  congr
  funext ds s
  split <;> rfl
@[simp] theorem q_bi (b : Bi) (w : Wk) (ws : LW) (q p : Pos) (env : DEnv) (s : S) : E.den (.bi b w ws q p) env s = (dCons w.den ws.den env s).bind fun ds s => b.g ds s := rfl
@[simp] theorem q_isi (a : E) (c : Ic) (q p : Pos) (env : DEnv) (s : S) : E.den (.isi a c q p) env s = (a.den env s).bind fun d s => c.g d s := rfl
@[simp] theorem q_att (e : E) (c j : Nat) (f : Str) (p : Pos) (env : DEnv) (s : S) : E.den (.att e c j f p) env s = (e.den env s).bind fun d s => attD c j d s := rfl
@[simp] theorem q_tup (es : L) (k : Nat) (p : Pos) (env : DEnv) (s : S) : E.den (.tup es k p) env s = (es.den env s).bind fun ds s => if ds.length ≤ sizeLine then .ok (.tup ds) s else .bad := by
  show ((L.den es env) s).bind _ = _
  congr
  funext ds s
  split <;> rfl
@[simp] theorem q_lst (es : L) (p : Pos) (env : DEnv) (s : S) : E.den (.lst es p) env s = (es.den env s).bind fun ds s => if ds.length ≤ sizeLine then .ok (.lst ds) s else .bad := by
  show ((L.den es env) s).bind _ = _
  congr
  funext ds s
  split <;> rfl
@[simp] theorem q_of (e : E) : Wk.den (.of e) = e.den := rfl
@[simp] theorem q_L0 : L.den .nil = dNil := rfl
@[simp] theorem q_L1 (e : E) (r : L) : L.den (.cons e r) = dCons e.den r.den := rfl
@[simp] theorem q_LW0 : LW.den .nil = dNil := rfl
@[simp] theorem q_LW1 (e : Wk) (r : LW) : LW.den (.cons e r) = dCons e.den r.den := rfl
@[simp] theorem q_dNil (env : DEnv) (s : S) : dNil env s = .ok [] s := rfl
@[simp] theorem q_dCons (f : DEnv → M D) (r : DEnv → M (List D)) (env : DEnv) (s : S) : dCons f r env s = (f env s).bind fun d s => (r env s).bind fun ds s => .ok (d :: ds) s := rfl
/-! ### tests -/
def asB (d : D) (s : S) : R Bool := match d with
  | .bl b => .ok b s
  | _ => .bad
@[simp] theorem q_asB (b : Bool) (s : S) : asB (.bl b) s = .ok b s := rfl
theorem toB_eq (f : DEnv → M D) (env : DEnv) (s : S) : toB f env s = (f env s).bind asB := by
  show (f env s).bind _ = _
  congr
  funext d s
  cases d <;> rfl
@[simp] theorem q_t_no (a : E) (p : Pos) (env : DEnv) (s : S) : E.tst (.no a p) env s = (a.tst env s).bind fun b s => .ok (!b) s := rfl
@[simp] theorem q_t_bop (op : BoolOp) (e : E) (es : L) (p : Pos) : E.tst (.bop op e es p) = es.tstB op e.tst := rfl
@[simp] theorem q_tB0 (op : BoolOp) (f : DEnv → M Bool) : L.tstB .nil op f = f := rfl
@[simp] theorem q_tB1 (e : E) (r : L) (f : DEnv → M Bool) (env : DEnv) (s : S) : L.tstB (.cons e r) .And f env s = (f env s).bind fun b s => if b = true then r.tstB .And e.tst env s else .ok false s := by
  show (f env s).bind _ = _
  congr
  funext b s
  split <;> rfl
@[simp] theorem q_tB2 (e : E) (r : L) (f : DEnv → M Bool) (env : DEnv) (s : S) : L.tstB (.cons e r) .Or f env s = (f env s).bind fun b s => if b = true then .ok true s else r.tstB .Or e.tst env s := by
  show (f env s).bind _ = _
  congr
  funext b s
  split <;> rfl
@[simp] theorem q_t_ite (c a b : E) (p : Pos) (env : DEnv) (s : S) : E.tst (.ite c a b p) env s = (c.tst env s).bind fun k s => if k = true then a.tst env s else b.tst env s := by
  show (c.tst env s).bind _ = _
  congr
  funext k s
  split <;> rfl
@[simp] theorem q_t_var (i : Nat) (x : Str) (p : Pos) (env : DEnv) (s : S) : E.tst (.var i x p) env s = (E.den (.var i x p) env s).bind asB := toB_eq _ _ _
@[simp] theorem q_t_bl (i : Bool) (k : Nat) (p : Pos) (env : DEnv) (s : S) : E.tst (.bl i k p) env s = .ok i s := rfl
@[simp] theorem q_t_cmp (a : E) (o : Oc) (b : E) (p : Pos) (env : DEnv) (s : S) : E.tst (.cmp a o b p) env s = (E.den (.cmp a o b p) env s).bind asB := toB_eq _ _ _
@[simp] theorem q_t_cm2 (a : E) (o : Oc) (b : E) (o2 : Oc) (c : E) (p : Pos) (env : DEnv) (s : S) : E.tst (.cm2 a o b o2 c p) env s = (E.den (.cm2 a o b o2 c p) env s).bind asB := toB_eq _ _ _
@[simp] theorem q_t_call (f : Fn) (e : E) (es : L) (q p : Pos) (env : DEnv) (s : S) : E.tst (.call f e es q p) env s = (E.den (.call f e es q p) env s).bind asB := toB_eq _ _ _
@[simp] theorem q_t_mt (m : Mt) (o : E) (es : L) (ap p : Pos) (env : DEnv) (s : S) : E.tst (.mt m o es ap p) env s = (E.den (.mt m o es ap p) env s).bind asB := toB_eq _ _ _
@[simp] theorem q_t_bi (b : Bi) (w : Wk) (ws : LW) (q p : Pos) (env : DEnv) (s : S) : E.tst (.bi b w ws q p) env s = (E.den (.bi b w ws q p) env s).bind asB := toB_eq _ _ _
@[simp] theorem q_t_isi (a : E) (c : Ic) (q p : Pos) (env : DEnv) (s : S) : E.tst (.isi a c q p) env s = (E.den (.isi a c q p) env s).bind asB := toB_eq _ _ _
/-! ### more expressions -/
def notD (d : D) (s : S) : R D := match d with
  | .bl b => .ok (.bl (!b)) s
  | _ => .bad
@[simp] theorem q_notD (b : Bool) (s : S) : notD (.bl b) s = .ok (.bl (!b)) s := rfl
@[simp] theorem q_no (a : E) (p : Pos) (env : DEnv) (s : S) : E.den (.no a p) env s = (a.den env s).bind notD := by
  show (a.den env s).bind _ = _
  congr
  funext d s
  cases d <;> rfl
@[simp] theorem q_bop (op : BoolOp) (e : E) (es : L) (p : Pos) : E.den (.bop op e es p) = es.denB op e.den := rfl
@[simp] theorem q_B0 (op : BoolOp) (f : DEnv → M D) : L.denB .nil op f = f := rfl
def andD (d : D) (r : R D) (s : S) : R D := match d with
  | .bl true => r
  | .bl false => .ok (.bl false) s
  | _ => .bad
def orD (d : D) (r : R D) (s : S) : R D := match d with
  | .bl true => .ok (.bl true) s
  | .bl false => r
  | _ => .bad
@[simp] theorem q_andD (b : Bool) (r : R D) (s : S) : andD (.bl b) r s = if b = true then r else .ok (.bl false) s := by cases b <;> rfl
@[simp] theorem q_orD (b : Bool) (r : R D) (s : S) : orD (.bl b) r s = if b = true then .ok (.bl true) s else r := by cases b <;> rfl
@[simp] theorem q_B1 (e : E) (r : L) (f : DEnv → M D) (env : DEnv) (s : S) : L.denB (.cons e r) .And f env s = (f env s).bind fun d s => andD d (r.denB .And e.den env s) s := by
  show (f env s).bind _ = _
  congr
  funext d s
  cases d <;> first | rfl | (rename_i b; cases b <;> rfl)
@[simp] theorem q_B2 (e : E) (r : L) (f : DEnv → M D) (env : DEnv) (s : S) : L.denB (.cons e r) .Or f env s = (f env s).bind fun d s => orD d (r.denB .Or e.den env s) s := by
  show (f env s).bind _ = _
  congr
  funext d s
  cases d <;> first | rfl | (rename_i b; cases b <;> rfl)
@[simp] theorem q_ite (c a b : E) (p : Pos) (env : DEnv) (s : S) : E.den (.ite c a b p) env s = (c.tst env s).bind fun k s => if k = true then a.den env s else b.den env s := by
  show (c.tst env s).bind _ = _
  congr
  funext k s
  split <;> rfl
@[simp] theorem q_cm2 (a : E) (o : Oc) (b : E) (o2 : Oc) (c : E) (p : Pos) (env : DEnv) (s : S) : E.den (.cm2 a o b o2 c p) env s = (a.den env s).bind fun x s => (b.den env s).bind fun y s => (o.g x y s).bind fun d s => andD d ((c.den env s).bind fun z s => o2.g y z s) s := by
  show (a.den env s).bind _ = _
  congr
  funext x s
  show (b.den env s).bind _ = _
  congr
  funext y s
  show (o.g x y s).bind _ = _
  congr
  funext d s
  cases d <;> first | rfl | (rename_i b; cases b <;> rfl)
@[simp] theorem q_mt (m : Mt) (o : E) (es : L) (ap p : Pos) (env : DEnv) (s : S) : E.den (.mt m o es ap p) env s = (o.den env s).bind fun d s => if isIns m.c d = true then (es.den env s).bind fun ds s => mtD m d ds s else .bad := by
  show (o.den env s).bind _ = _
  congr
  funext d s
  split <;> rfl
@[simp] theorem q_mtD (m : Mt) (d : D) (ds : List D) (s : S) : mtD m d ds s = if ds.length + 1 = m.n then m.g (d :: ds) s else .bad := by
  unfold mtD
  split <;> rfl
@[simp] theorem q_mk (m : Mk1) (dd : List D) (e : E) (es : L) (q p : Pos) (env : DEnv) (s : S) : E.den (.mk m dd e es q p) env s = (dCons e.den es.den env s).bind fun ds s => if ds.length = m.n then (m.g (ds ++ dd) s).bind fun fs s => .ok (.ins m.c fs) s else .bad := by
  show (dCons e.den es.den env s).bind _ = _
  congr
  funext ds s
  unfold mkD
  split <;> rfl
@[simp] theorem q_bm (m : Bm) (o : Wk) (ws : LW) (ap p : Pos) (env : DEnv) (s : S) : E.den (.bm m o ws ap p) env s = (o.den env s).bind fun d s => if m.ty d = true then (ws.den env s).bind fun ds s => m.g d ds s else .bad := by
  show (o.den env s).bind _ = _
  congr
  funext d s
  split <;> rfl
@[simp] theorem q_ix (o : Wk) (i : E) (p : Pos) (env : DEnv) (s : S) : E.den (.ix o i p) env s = (o.den env s).bind fun d s => (i.den env s).bind fun e s => ixD d e s := rfl
@[simp] theorem q_sl (o : Wk) (lo hi : Oe) (q p : Pos) (env : DEnv) (s : S) : E.den (.sl o lo hi q p) env s = (o.den env s).bind fun d s => (lo.den env s).bind fun l s => (hi.den env s).bind fun h s => slD d l h s := rfl
@[simp] theorem q_oe0 (env : DEnv) (s : S) : Oe.den .no env s = .ok none s := rfl
def asI (d : D) (s : S) : R (Option Int) := match d with
  | .int i => .ok (some i) s
  | _ => .bad
@[simp] theorem q_asI (i : Int) (s : S) : asI (.int i) s = .ok (some i) s := rfl
@[simp] theorem q_oe1 (e : E) (env : DEnv) (s : S) : Oe.den (.so e) env s = (e.den env s).bind asI := by
  show (e.den env s).bind _ = _
  congr
  funext d s
  cases d <;> rfl
@[simp] theorem q_ot0 (env : DEnv) (s : S) : Oe.tst .no env s = .ok true s := rfl
@[simp] theorem q_ot1 (e : E) : Oe.tst (.so e) = e.tst := rfl
@[simp] theorem q_dyn (i : Nat) (x : Str) (fs : List Fn) (e : E) (es : L) (q p : Pos) (env : DEnv) (s : S) : E.den (.dyn i x fs e es q p) env s = dDynS fs env[i]? (dCons e.den es.den env) s := rfl
@[simp] theorem q_dynS (fs : List Fn) (y : Str) (r : M (List D)) (s : S) : dDynS fs (some (.fz (.fn y))) r s = dAt (fnAt fs y) r s := rfl
@[simp] theorem q_dAt (c : Fn) (r : M (List D)) (s : S) : dAt (some c) r s = (r s).bind fun ds s => if ds.length = c.n then c.g ds s else .bad := by
  show (r s).bind _ = _
  congr
  funext ds s
  unfold useFn
  split <;> rfl
/-! ### sources, loops, comprehensions -/
@[simp] theorem q_is_seq (w : Wk) (env : DEnv) (s : S) : Is.den (.seq w) env s = (w.den env s).bind fun d s => itemsD d s := rfl
@[simp] theorem q_is_rg1 (e : E) (q p : Pos) (env : DEnv) (s : S) : Is.den (.rg1 e q p) env s = (e.den env s).bind fun d s => rg1D [d] s := by
  show (dCons e.den dNil env s).bind _ = _
  simp only [q_dCons, q_dNil, q_bind_ok]
  cases e.den env s <;> rfl
@[simp] theorem q_is_rg2 (a b : E) (q p : Pos) (env : DEnv) (s : S) : Is.den (.rg2 a b q p) env s = (dCons a.den (dCons b.den dNil) env s).bind fun ds s => rg2D ds s := rfl
@[simp] theorem q_is_zip (a b : E) (q p : Pos) (env : DEnv) (s : S) : Is.den (.zip a b q p) env s = (dCons a.den (dCons b.den dNil) env s).bind fun ds s => zp2D ds s := rfl
@[simp] theorem q_fors (t : T) (it : Is) (b : Sb) (p : Pos) (env : DEnv) (s : S) : Sm.den (.fors t it b p) env s = toO (it.den env s) fun xs s => forL t b.den xs env s := lift_to it.den (fun xs env s => forL t b.den xs env s) env s
@[simp] theorem q_for0 (t : T) (b : MS) (env : DEnv) (s : S) : forL t b [] env s = .nx env s := rfl
@[simp] theorem q_comp (e : E) (t : T) (it : Is) (c : Oe) (sc : Scope) (own : List (Str × Nat)) (p : Pos) (env : DEnv) (s : S) : E.den (.comp e t it c sc own p) env s = (it.den env s).bind fun xs s => (compL (own.map (·.2)) t c.tst e.den env xs s).bind fun ds s => .ok (.lst ds) s := rfl
@[simp] theorem q_comp0 (own : List Nat) (t : T) (ft : DEnv → M Bool) (fe : DEnv → M D) (env : DEnv) (s : S) : compL own t ft fe env [] s = .ok [] s := rfl
@[simp] theorem q_asgC (i : Nat) (x : Str) (px : Pos) (e : E) (t : T) (it : Is) (c : Oe) (sc : Scope) (own : List (Str × Nat)) (pc p : Pos) (env : DEnv) (s : S) : Sm.den (.asgC i x px e t it c sc own pc p) env s = toO (E.den (.comp e t it c sc own pc) env s) fun d s => .nx (env.set i (.fz d)) s :=
  lift_to (E.den (.comp e t it c sc own pc)) (fun d env s => .nx (env.set i (.fz d)) s) env s
@[simp] theorem q_bnm (i : Nat) (x : Str) (p : Pos) (d : D) (env : DEnv) : bindT (.nm i x p) d env = some (env.set i (.fz d)) := rfl
@[simp] theorem q_btp (ts : TL) (k : Nat) (p : Pos) (ds : List D) (env : DEnv) : bindT (.tp ts k p) (.tup ds) env = bindTs ts ds env := rfl
@[simp] theorem q_bts0 (env : DEnv) : bindTs .nil [] env = some env := rfl
@[simp] theorem q_bts1 (t : T) (r : TL) (d : D) (ds : List D) (env : DEnv) : bindTs (.cons t r) (d :: ds) env = (bindT t d env).bind fun env' => bindTs r ds env' := rfl
def par3O (i j l : Nat) (ds : List D) (env : DEnv) (s : S) : O := match ds with
  | [x, y, z] => .nx (((env.set i (.fz x)).set j (.fz y)).set l (.fz z)) s
  | _ => .bad
@[simp] theorem q_par3O (i j l : Nat) (x y z : D) (env : DEnv) (s : S) : par3O i j l [x, y, z] env s = .nx (((env.set i (.fz x)).set j (.fz y)).set l (.fz z)) s := rfl
@[simp] theorem q_setst (o i : E) (q : Pos) (e : E) (p : Pos) (env : DEnv) (s : S) : Sm.den (.setst o i q e p) env s = mSetSt o.den i.den e.den env s := rfl
@[simp] theorem q_toO_bad {α : Type} (k : α → S → O) : toO (.bad : R α) k = .bad := rfl
@[simp] theorem q_then_bad (g : MS) : thenO .bad g = .bad := rfl
@[simp] theorem q_runB (n : Nat) (b : MS) (ds : List D) (s : S) : runB n b ds s = outR (b (ds.map Sl.fz ++ List.replicate (n - ds.length) Sl.un) s) := by
  unfold runB outR
  cases b (ds.map Sl.fz ++ List.replicate (n - ds.length) Sl.un) s <;> rfl
@[simp] theorem q_out_nx (env : DEnv) (s : S) : outR (.nx env s) = .ok .non s := rfl
@[simp] theorem q_out_rt (d : D) (s : S) : outR (.rt d s) = .ok d s := rfl
@[simp] theorem q_out_er (e : Ex) (s : S) : outR (.er e s) = .err e s := rfl
@[simp] theorem q_out_bad : outR .bad = .bad := rfl
@[simp] theorem q_out_if (c : Prop) [Decidable c] (a b : O) : outR (if c then a else b) = if c then outR a else outR b := by split <;> rfl
@[simp] theorem q_ap_if {α : Type} (c : Prop) [Decidable c] (a b : M α) (s : S) : (if c then a else b) s = if c then a s else b s := by split <;> rfl
/-- data whose kind is seen by isinstance -/
def kn : D → Bool
  | .non => true
  | .bl _ => true
  | .int _ => true
  | .str _ => true
  | .tup _ => true
  | .lst _ => true
  | .ins 0 _ => true
  | _ => false
def isW : D → Bool
  | .int _ => true
  | _ => false
def isQ : D → Bool
  | .ins 0 _ => true
  | _ => false
def atO (o : Option D) (s : S) : R D := match o with
  | some x => .ok x s
  | none => .bad
@[simp] theorem q_atO (d : D) (s : S) : atO (some d) s = .ok d s := rfl
@[simp] theorem q_att0 (j : Nat) (xs : List D) (s : S) : attD 0 j (.ins 0 xs) s = atO xs[j]? s := by
  show (if 0 = 0 then (match xs[j]? with | some x => R.ok x s | none => .bad) else .bad) = _
  rw [if_pos rfl]
  cases xs[j]? <;> rfl
def setatO (c j : Nat) (o : Option Sl) (i : Nat) (d : D) (env : DEnv) (s : S) : O := match o with
  | some (.mt (.ins c' xs)) => if c' = c ∧ xs.length = j then .nx (env.set i (.mt (.ins c (xs ++ [d])))) s else .bad
  | _ => .bad
@[simp] theorem q_mSetAt (i c j : Nat) (f : DEnv → M D) (env : DEnv) (s : S) : mSetAt i c j f env s = toO (f env s) fun d s => setatO c j env[i]? i d env s := lift_to f (fun d env s => setatO c j env[i]? i d env s) env s
@[simp] theorem q_setatO (c j i : Nat) (xs : List D) (d : D) (env : DEnv) (s : S) (h : xs.length = j) : setatO c j (some (.mt (.ins c xs))) i d env s = .nx (env.set i (.mt (.ins c (xs ++ [d])))) s := if_pos ⟨rfl, h⟩
def initO (c : Nat) : O → R (List D)
  | .nx env s => (match env[0]? with
    | some (Sl.mt (.ins c' fs)) => if c' = c ∧ fs.length = (fldsOf c).length then .ok fs s else .bad
    | _ => .bad)
  | .er e s => .err e s
  | _ => .bad
@[simp] theorem q_initB (c n : Nat) (b : MS) (ds : List D) (s : S) : initB c n b ds s = initO c (b (Sl.mt (.ins c []) :: (ds.map Sl.fz ++ List.replicate (n - 1 - ds.length) Sl.un)) s) := by
  unfold initB initO
  cases b (Sl.mt (.ins c []) :: (ds.map Sl.fz ++ List.replicate (n - 1 - ds.length) Sl.un)) s <;> rfl
@[simp] theorem q_initO_nx (c : Nat) (fs : List D) (env : DEnv) (s : S) (h : fs.length = (fldsOf c).length) : initO c (.nx (.mt (.ins c fs) :: env) s) = .ok fs s := if_pos ⟨rfl, h⟩
@[simp] theorem q_initO_er (c : Nat) (e : Ex) (s : S) : initO c (.er e s) = .err e s := rfl
@[simp] theorem q_flds0 : (fldsOf 0).length = 2 := rfl
end Dn
namespace Dn.K00
open PySem L2 Dn
def top (i : Nat) : Stmt := PySem.Challenge.pw_fewestpowers_k00_whole_fractions.main.body.getD i (.Pass ⟨0, 0, 0, 0⟩)
abbrev st_are_ratios : Stmt := top 14
abbrev st_m_eq : Stmt := inClass (top 11) 5
abbrev st_common : Stmt := top 7
abbrev st_is_integer : Stmt := top 6
abbrev st_i_Ratio : Stmt := inClass (top 11) 0
abbrev st_law_made : Stmt := top 36
abbrev st_check_ratio : Stmt := top 12
abbrev st_m_over : Stmt := inClass (top 11) 6
abbrev st_law_over : Stmt := top 33
abbrev st_m_mul : Stmt := inClass (top 11) 3
abbrev st_m_less : Stmt := inClass (top 11) 7
abbrev st_m_sub : Stmt := inClass (top 11) 2
abbrev st_m_add : Stmt := inClass (top 11) 1
abbrev st_law_act : Stmt := top 37
abbrev st_as_ratio : Stmt := top 13
abbrev st_ratio_text : Stmt := top 15
abbrev st_is_number : Stmt := top 17
abbrev st_read_ratio : Stmt := top 16
abbrev st_law_told : Stmt := top 26
abbrev st_law_all_malformed : Stmt := top 27
abbrev st_m_neg : Stmt := inClass (top 11) 4
abbrev st_law_common : Stmt := top 28
abbrev st_law_plain : Stmt := top 29
abbrev st_law_is_whole : Stmt := top 24
abbrev st_law_same : Stmt := top 25
abbrev st_law_is : Stmt := top 31
abbrev st_law_reads_itself : Stmt := top 34
abbrev st_law_take : Stmt := top 22
abbrev st_m_is_whole : Stmt := inClass (top 11) 9
abbrev st_law_says : Stmt := top 23
abbrev st_m_floor : Stmt := inClass (top 11) 10
abbrev st_m_sign : Stmt := inClass (top 11) 8
abbrev st_law_pair : Stmt := top 30
abbrev st_law_ops_hold : Stmt := top 32
abbrev st_ratio_sum : Stmt := top 18
abbrev st_ratio_dot : Stmt := top 19
abbrev st_law_sums_hold : Stmt := top 35
abbrev st_law : Stmt := top 38
abbrev st__law_state : Stmt := top 21
abbrev st_x_Malformed : Stmt := inClass (top 2) 0
theorem xt_Malformed : XcI st_x_Malformed "Fault" "reason" := ⟨⟨⟨7, 8, 7, 13⟩, ⟨7, 8, 7, 22⟩, ⟨7, 23, 7, 27⟩, ⟨7, 29, 7, 35⟩, ⟨7, 8, 7, 36⟩, ⟨7, 8, 7, 36⟩, ⟨8, 8, 8, 12⟩, ⟨8, 8, 8, 19⟩, ⟨8, 22, 8, 28⟩, ⟨8, 8, 8, 28⟩, by kernel_rfl, by decide +kernel⟩, C8.fnScope_by (by decide +kernel), by decide +kernel, by decide +kernel, by decide +kernel⟩
abbrev st_x_Refused : Stmt := inClass (top 3) 0
theorem xt_Refused : XcI st_x_Refused "Fault" "reason" := ⟨⟨⟨12, 8, 12, 13⟩, ⟨12, 8, 12, 22⟩, ⟨12, 23, 12, 27⟩, ⟨12, 29, 12, 35⟩, ⟨12, 8, 12, 36⟩, ⟨12, 8, 12, 36⟩, ⟨13, 8, 13, 12⟩, ⟨13, 8, 13, 19⟩, ⟨13, 22, 13, 28⟩, ⟨13, 8, 13, 28⟩, by kernel_rfl, by decide +kernel⟩, C8.fnScope_by (by decide +kernel), by decide +kernel, by decide +kernel, by decide +kernel⟩
abbrev st_x_NoText : Stmt := inClass (top 4) 0
theorem xt_NoText : XcI st_x_NoText "Fault" "at" := ⟨⟨⟨17, 8, 17, 13⟩, ⟨17, 8, 17, 22⟩, ⟨17, 23, 17, 27⟩, ⟨17, 29, 17, 31⟩, ⟨17, 8, 17, 32⟩, ⟨17, 8, 17, 32⟩, ⟨18, 8, 18, 12⟩, ⟨18, 8, 18, 15⟩, ⟨18, 18, 18, 20⟩, ⟨18, 8, 18, 20⟩, by kernel_rfl, by decide +kernel⟩, C8.fnScope_by (by decide +kernel), by decide +kernel, by decide +kernel, by decide +kernel⟩
theorem wh_t : WhT st_law_is_whole "value" := ⟨⟨⟨135, 11, 135, 21⟩, ⟨135, 22, 135, 27⟩, ⟨135, 29, 135, 32⟩, ⟨135, 11, 135, 33⟩, ⟨135, 43, 135, 53⟩, ⟨135, 54, 135, 59⟩, ⟨135, 61, 135, 65⟩, ⟨135, 43, 135, 66⟩, ⟨135, 39, 135, 66⟩, ⟨135, 11, 135, 67⟩, ⟨135, 4, 135, 67⟩, by kernel_rfl⟩, C8.fnScope_by (by decide +kernel), by decide +kernel, by decide +kernel, by decide +kernel, by decide +kernel⟩
abbrev cs : List Nat := [0]
/-- what is asked of the defs and classes behind the top -/
structure At (G : Wd) : Prop where
  bl : ∀ y ∈ bltNames, G.mg y = none
  dig : NoDig G.K
  cls : ClsAll G cs
  ic0 : IcO G 0 "Ratio" cs
  cl0 : Cls G.K (G.cl 0)
  own0 : OwnF G 0
  at_n : Cls G.K (G.cl 0) ∧ NoAttr G.K (G.cl 0) "n" ∧ (fldsOf 0)[0]? = some ("n" : Str)
  at_d : Cls G.K (G.cl 0) ∧ NoAttr G.K (G.cl 0) "d" ∧ (fldsOf 0)[1]? = some ("d" : Str)
  op_add : OpsF G 0 .Add
  op_sub : OpsF G 0 .Sub
  op_mul : OpsF G 0 .Mult
  x_Malformed : ∃ fI fd, XcF G 2 "Malformed" "reason" fI fd
  x_Refused : ∃ fI fd, XcF G 3 "Refused" "reason" fI fd
  x_NoText : ∃ fI fd, XcF G 4 "NoText" "at" fI fd
  tell : ToldB G
  c_DIGITS : GloOk G "DIGITS" (.str "0123456789")
  c_MOST_SIGNS : GloOk G "MOST_SIGNS" (.int 2000)
  d_are_ratios : DefAt G "are_ratios" st_are_ratios ["value"]
  m_eq : MethAt G 0 "__eq__" "Ratio.__eq__" st_m_eq ["self", "other"]
  d_common : DefAt G "common" st_common ["a", "b"]
  d_is_integer : DefAt G "is_integer" st_is_integer ["value"]
  i_Ratio_2 : InitAt G 0 "Ratio" "Ratio.__init__" st_i_Ratio ["self", "n", "d"] []
  i_Ratio_1 : InitAt G 0 "Ratio" "Ratio.__init__" st_i_Ratio ["self", "n", "d"] [.int 1]
  d_law_made : DefAt G "_law_made" st_law_made ["n", "d"]
  d_check_ratio : DefAt G "check_ratio" st_check_ratio ["value"]
  m_over : MethAt G 0 "over" "Ratio.over" st_m_over ["self", "other"]
  d_law_over : DefAt G "_law_over" st_law_over ["one", "two"]
  m_mul : MethAt G 0 "__mul__" "Ratio.__mul__" st_m_mul ["self", "other"]
  m_less : MethAt G 0 "less" "Ratio.less" st_m_less ["self", "other"]
  m_sub : MethAt G 0 "__sub__" "Ratio.__sub__" st_m_sub ["self", "other"]
  m_add : MethAt G 0 "__add__" "Ratio.__add__" st_m_add ["self", "other"]
  d_law_act : DefAt G "_law_act" st_law_act ["one", "word", "other"]
  d_as_ratio : DefAt G "as_ratio" st_as_ratio ["value"]
  d_ratio_text : DefAt G "ratio_text" st_ratio_text ["value"]
  d_is_number : DefAt G "is_number" st_is_number ["text"]
  d_read_ratio : DefAt G "read_ratio" st_read_ratio ["text"]
  d_law_told : DefAt G "_law_told" st_law_told ["act", "given"]
  d_law_all_malformed : DefAt G "_law_all_malformed" st_law_all_malformed ["tried"]
  m_neg : MethAt G 0 "__neg__" "Ratio.__neg__" st_m_neg ["self"]
  d_law_common : DefAt G "_law_common" st_law_common ["a", "b"]
  d_law_plain : DefAt G "_law_plain" st_law_plain ["n", "d"]
  d_law_is_whole : DefAt G "_law_is_whole" st_law_is_whole ["value"]
  d_law_same : DefAt G "_law_same" st_law_same ["one", "two"]
  d_law_is : DefAt G "_law_is" st_law_is ["value", "n", "d"]
  d_law_reads_itself : DefAt G "_law_reads_itself" st_law_reads_itself ["text"]
  d_law_take : DefAt G "_law_take" st_law_take ["state", "m"]
  m_is_whole : MethAt G 0 "is_whole" "Ratio.is_whole" st_m_is_whole ["self"]
  d_law_says : DefAt G "_law_says" st_law_says ["value", "due"]
  m_floor : MethAt G 0 "floor" "Ratio.floor" st_m_floor ["self"]
  m_sign : MethAt G 0 "sign" "Ratio.sign" st_m_sign ["self"]
  d_law_pair : DefAt G "_law_pair" st_law_pair ["state"]
  d_law_ops_hold : DefAt G "_law_ops_hold" st_law_ops_hold ["state"]
  d_ratio_sum : DefAt G "ratio_sum" st_ratio_sum ["values"]
  d_ratio_dot : DefAt G "ratio_dot" st_ratio_dot ["one", "two"]
  d_law_sums_hold : DefAt G "_law_sums_hold" st_law_sums_hold ["state"]
section
variable {G : Wd}
theorem rz_Malformed (A : At G) {k : Nat} (h : 2 ≤ k) : RzOk G 2 "reason" "Malformed" k := by
  obtain ⟨fI, fd, F⟩ := A.x_Malformed
  exact rz_ok F h
theorem rz_Refused (A : At G) {k : Nat} (h : 2 ≤ k) : RzOk G 3 "reason" "Refused" k := by
  obtain ⟨fI, fd, F⟩ := A.x_Refused
  exact rz_ok F h
theorem rz_NoText (A : At G) {k : Nat} (h : 2 ≤ k) : RzOk G 4 "at" "NoText" k := by
  obtain ⟨fI, fd, F⟩ := A.x_NoText
  exact rz_ok F h
theorem told_f (A : At G) : ToldF G := by
  obtain ⟨f, fd, F, hm, hk, hb⟩ := A.d_law_is_whole.ex
  exact ⟨A.tell.n2, A.tell.n3, A.tell.n4, A.tell.exm, A.tell.a3, A.tell.a4, f, fd, _, wh_ok wh_t F A.bl, hm, hk, hb⟩
/-! ### are_ratios -/
theorem s_are_ratios : FnScope ["value", "own"] ["value"] (defScope st_are_ratios) := C8.fnScope_by (by decide +kernel)
def b_are_ratios : Sb := (.cons (.ret (.bop .And (.isi (.var 0 "value" ⟨84, 22, 84, 27⟩) (isTy "tuple" ⟨84, 29, 84, 34⟩ cs) ⟨84, 11, 84, 21⟩ ⟨84, 11, 84, 35⟩) (.cons (.bi bAll (.of (.comp (.isi (.var 1 "own" ⟨84, 56, 84, 59⟩) (isIc 0 "Ratio" ⟨84, 61, 84, 66⟩ cs) ⟨84, 45, 84, 55⟩ ⟨84, 45, 84, 67⟩) (.nm 1 "own" ⟨84, 72, 84, 75⟩) (.seq (.of (.var 0 "value" ⟨84, 79, 84, 84⟩))) .no ⟨.function, [(".0", .local), ("own", .local), ("isinstance", .globalImplicit), ("Ratio", .globalImplicit)], false, false, []⟩ [("own", 1)] ⟨84, 44, 84, 85⟩)) .nil ⟨84, 40, 84, 43⟩ ⟨84, 40, 84, 86⟩) .nil) ⟨84, 11, 84, 86⟩) ⟨84, 4, 84, 86⟩)
    .nil)
def f_are_ratios : Fn := ⟨"are_ratios", 1, 1, runB 2 b_are_ratios.den⟩
theorem e_are_ratios : defBody st_are_ratios = b_are_ratios.ast := by kernel_rfl
theorem w_are_ratios : b_are_ratios.wf ["value", "own"] (defScope st_are_ratios) = true := by decide +kernel
theorem o_are_ratios (A : At G) : b_are_ratios.Ok G 0 := ⟨⟨⟨trivial, isTy_ok tyF_tuple A.cls⟩, ⟨⟨bAll_ok, ⟨trivial, trivial, ⟨trivial, isIc_ok A.ic0 A.cls⟩⟩, trivial⟩, trivial⟩⟩,
    trivial⟩
theorem d_are_ratios (A : At G) : FnD G f_are_ratios := by
  have h := fnD_of (n := 1) A.d_are_ratios A.bl b_are_ratios e_are_ratios s_are_ratios rfl (by decide) w_are_ratios (o_are_ratios A)
  exact h
/-! ### Ratio.__eq__ -/
theorem s_m_eq : FnScope ["self", "other"] ["self", "other"] (defScope st_m_eq) := C8.fnScope_by (by decide +kernel)
def b_m_eq : Sb := (.cons (.ret (.bop .And (.isi (.var 1 "other" ⟨57, 26, 57, 31⟩) (isIc 0 "Ratio" ⟨57, 33, 57, 38⟩ cs) ⟨57, 15, 57, 25⟩ ⟨57, 15, 57, 39⟩) (.cons (.cmp (.tup (.cons (.att (.var 0 "self" ⟨57, 45, 57, 49⟩) 0 0 "n" ⟨57, 45, 57, 51⟩) (.cons (.att (.var 0 "self" ⟨57, 53, 57, 57⟩) 0 1 "d" ⟨57, 53, 57, 59⟩) .nil)) 0 ⟨57, 44, 57, 60⟩) (oEq false) (.tup (.cons (.att (.var 1 "other" ⟨57, 65, 57, 70⟩) 0 0 "n" ⟨57, 65, 57, 72⟩) (.cons (.att (.var 1 "other" ⟨57, 74, 57, 79⟩) 0 1 "d" ⟨57, 74, 57, 81⟩) .nil)) 0 ⟨57, 64, 57, 82⟩) ⟨57, 44, 57, 82⟩) .nil) ⟨57, 15, 57, 82⟩) ⟨57, 8, 57, 82⟩)
    .nil)
def m_eq : Mt := ⟨0, "__eq__", 2, 1, runB 2 b_m_eq.den⟩
theorem e_m_eq : defBody st_m_eq = b_m_eq.ast := by kernel_rfl
theorem w_m_eq : b_m_eq.wf ["self", "other"] (defScope st_m_eq) = true := by decide +kernel
theorem o_m_eq (A : At G) : b_m_eq.Ok G 0 := ⟨⟨⟨trivial, isIc_ok A.ic0 A.cls⟩, ⟨⟨⟨⟨A.at_n, trivial⟩, ⟨⟨A.at_d, trivial⟩, trivial⟩⟩, (oEq_ok eq_none), ⟨⟨A.at_n, trivial⟩, ⟨⟨A.at_d, trivial⟩, trivial⟩⟩⟩, trivial⟩⟩,
    trivial⟩
theorem d_m_eq (A : At G) : MtD G m_eq := by
  have h := mtD_of (n := 2) A.m_eq A.bl A.cl0 (by decide +kernel) b_m_eq e_m_eq s_m_eq rfl (by decide) w_m_eq (o_m_eq A)
  exact h
theorem isIc_no (x : Str) (p : Pos) (d : D) (s : S) (h : kn d = true) (hq : isQ d = false) : (isIc 0 x p cs).g d s = .ok (.bl false) s := by
  cases d with
  | ins c fs =>
    cases c with
    | zero => cases hq
    | succ c => cases h
  | _ => first | (cases h; done) | rfl
theorem isIc_ins' (x : Str) (p : Pos) (fs : List D) (s : S) : (isIc 0 x p cs).g (.ins 0 fs) s = .ok (.bl true) s := rfl
theorem shp2 (a b : Int) : SeqAt.shaped (.tuple [.int a, .int b]) = true := rfl
theorem eq_pair (n d n' d' : Int) (s : S) : (oEq false).g (.tup [.int n, .int d]) (.tup [.int n', .int d']) s = .ok (.bl (n == n' && d == d')) s := by
  have e : eqQ false (.tup [.int n, .int d]) (.tup [.int n', .int d']) = some (n == n' && d == d') := by
    simp [eqQ, scalD, flatD, plainEq, toPy, toPyL, shp2, PyData.eqv, PyData.eqvAll]
  simp only [oEq, eqD, e]
  rfl
theorem eq_q : ∀ d e b s, qR d e = some b → m_eq.g [d, e] s = .ok (.bl b) s := by
  intro d e b s h
  obtain ⟨n, m, rfl⟩ := qR_ins h
  have no : ∀ e, kn e = true → isQ e = false → m_eq.g [rD n m, e] s = .ok (.bl false) s := fun e h1 h2 => by
    simp [m_eq, b_m_eq, isIc_no _ _ e _ h1 h2]
  cases e with
  | ins c fs =>
    cases c with
    | succ c => cases h
    | zero =>
      cases fs with
      | nil => cases h
      | cons x fs =>
        cases fs with
        | nil => cases x <;> cases h
        | cons y fs =>
          cases fs with
          | cons _ _ => cases x <;> cases y <;> cases h
          | nil =>
            cases x with
            | int i =>
              cases y with
              | int j =>
                cases h
                simp [m_eq, b_m_eq, isIc_ins', sizeLine_eq, eq_pair]
              | _ => cases h
            | _ => cases h
  | non => cases h; exact no _ rfl rfl
  | bl _ => cases h; exact no _ rfl rfl
  | int _ => cases h; exact no _ rfl rfl
  | str _ => cases h; exact no _ rfl rfl
  | tup _ => cases h; exact no _ rfl rfl
  | lst _ => cases h; exact no _ rfl rfl
  | _ => cases h
theorem o_eq (A : At G) : OwnEq G m_eq := ⟨d_m_eq A, rfl, rfl, rfl, A.own0.me, A.own0.ty, eq_q⟩
/-! ### common -/
theorem s_common : FnScope ["a", "b"] ["a", "b"] (defScope st_common) := C8.fnScope_by (by decide +kernel)
def b_common : Sb := (.cons (.par2 0 "a" ⟨23, 4, 23, 5⟩ 1 "b" ⟨23, 7, 23, 8⟩ 0 ⟨23, 4, 23, 8⟩ (.bi bAbs (.of (.var 0 "a" ⟨23, 16, 23, 17⟩)) .nil ⟨23, 12, 23, 15⟩ ⟨23, 12, 23, 18⟩) (.bi bAbs (.of (.var 1 "b" ⟨23, 24, 23, 25⟩)) .nil ⟨23, 20, 23, 23⟩ ⟨23, 20, 23, 26⟩) 0 ⟨23, 11, 23, 27⟩ ⟨23, 4, 23, 27⟩)
    (.cons (.whl (natAt 1) (.cmp (.var 1 "b" ⟨24, 10, 24, 11⟩) oGt (.int 0 0 ⟨24, 14, 24, 15⟩) ⟨24, 10, 24, 15⟩) (.cons (.par2 0 "a" ⟨25, 8, 25, 9⟩ 1 "b" ⟨25, 11, 25, 12⟩ 0 ⟨25, 8, 25, 12⟩ (.var 1 "b" ⟨25, 16, 25, 17⟩) (.bin (.var 0 "a" ⟨25, 19, 25, 20⟩) oMod (.var 1 "b" ⟨25, 23, 25, 24⟩) ⟨25, 19, 25, 24⟩) 0 ⟨25, 15, 25, 25⟩ ⟨25, 8, 25, 25⟩)
    .nil) ⟨24, 4, 25, 25⟩)
    (.cons (.ret (.var 0 "a" ⟨26, 11, 26, 12⟩) ⟨26, 4, 26, 12⟩)
    .nil)))
def f_common : Fn := ⟨"common", 2, 1, runB 2 b_common.den⟩
theorem e_common : defBody st_common = b_common.ast := by kernel_rfl
theorem w_common : b_common.wf ["a", "b"] (defScope st_common) = true := by decide +kernel
theorem o_common (A : At G) : b_common.Ok G 0 := ⟨⟨⟨bAbs_ok, trivial, trivial⟩, ⟨bAbs_ok, trivial, trivial⟩⟩,
    ⟨⟨⟨trivial, oGt_ok, trivial⟩, ⟨⟨trivial, ⟨trivial, oMod_ok, trivial⟩⟩,
    trivial⟩⟩,
    ⟨trivial,
    trivial⟩⟩⟩
theorem d_common (A : At G) : FnD G f_common := by
  have h := fnD_of (n := 2) A.d_common A.bl b_common e_common s_common rfl (by decide) w_common (o_common A)
  exact h
/-! ### is_integer -/
theorem s_is_integer : FnScope ["value"] ["value"] (defScope st_is_integer) := C8.fnScope_by (by decide +kernel)
def b_is_integer : Sb := (.cons (.ret (.bop .And (.isi (.var 0 "value" ⟨21, 22, 21, 27⟩) (isTy "int" ⟨21, 29, 21, 32⟩ cs) ⟨21, 11, 21, 21⟩ ⟨21, 11, 21, 33⟩) (.cons (.no (.isi (.var 0 "value" ⟨21, 54, 21, 59⟩) (isTy "bool" ⟨21, 61, 21, 65⟩ cs) ⟨21, 43, 21, 53⟩ ⟨21, 43, 21, 66⟩) ⟨21, 39, 21, 66⟩) .nil) ⟨21, 11, 21, 67⟩) ⟨21, 4, 21, 67⟩)
    .nil)
def f_is_integer : Fn := ⟨"is_integer", 1, 1, runB 1 b_is_integer.den⟩
theorem e_is_integer : defBody st_is_integer = b_is_integer.ast := by kernel_rfl
theorem w_is_integer : b_is_integer.wf ["value"] (defScope st_is_integer) = true := by decide +kernel
theorem o_is_integer (A : At G) : b_is_integer.Ok G 0 := ⟨⟨⟨trivial, isTy_ok tyF_int A.cls⟩, ⟨⟨trivial, isTy_ok tyF_bool A.cls⟩, trivial⟩⟩,
    trivial⟩
theorem d_is_integer (A : At G) : FnD G f_is_integer := by
  have h := fnD_of (n := 1) A.d_is_integer A.bl b_is_integer e_is_integer s_is_integer rfl (by decide) w_is_integer (o_is_integer A)
  exact h
/-! ### Ratio.__init__ -/
theorem s_i_Ratio : FnScope ["self", "n", "d", "g"] ["self", "n", "d"] (defScope st_i_Ratio) := C8.fnScope_by (by decide +kernel)
def b_i_Ratio : Sb := (.cons (.ifs (.bop .Or (.no (.call f_is_integer (.var 1 "n" ⟨33, 26, 33, 27⟩) .nil ⟨33, 15, 33, 25⟩ ⟨33, 15, 33, 28⟩) ⟨33, 11, 33, 28⟩) (.cons (.no (.call f_is_integer (.var 2 "d" ⟨33, 47, 33, 48⟩) .nil ⟨33, 36, 33, 46⟩ ⟨33, 36, 33, 49⟩) ⟨33, 32, 33, 49⟩) .nil) ⟨33, 11, 33, 49⟩) (.cons (.raise 2 "reason" "Malformed" (.str "an integer" 0 ⟨34, 28, 34, 40⟩) ⟨34, 18, 34, 27⟩ ⟨34, 18, 34, 41⟩ ⟨34, 12, 34, 41⟩)
    .nil) .nil ⟨33, 8, 34, 41⟩)
    (.cons (.ifs (.cmp (.var 2 "d" ⟨35, 11, 35, 12⟩) (oEq false) (.int 0 0 ⟨35, 16, 35, 17⟩) ⟨35, 11, 35, 17⟩) (.cons (.raise 3 "reason" "Refused" (.str "zero" 0 ⟨36, 26, 36, 32⟩) ⟨36, 18, 36, 25⟩ ⟨36, 18, 36, 33⟩ ⟨36, 12, 36, 33⟩)
    .nil) .nil ⟨35, 8, 36, 33⟩)
    (.cons (.asg (.nm 3 "g" ⟨37, 8, 37, 9⟩) (.ite (.cmp (.var 2 "d" ⟨37, 28, 37, 29⟩) oGt (.int 0 0 ⟨37, 32, 37, 33⟩) ⟨37, 28, 37, 33⟩) (.call f_common (.var 1 "n" ⟨37, 19, 37, 20⟩) (.cons (.var 2 "d" ⟨37, 22, 37, 23⟩) .nil) ⟨37, 12, 37, 18⟩ ⟨37, 12, 37, 24⟩) (.un (oNeg none) (.call f_common (.var 1 "n" ⟨37, 47, 37, 48⟩) (.cons (.var 2 "d" ⟨37, 50, 37, 51⟩) .nil) ⟨37, 40, 37, 46⟩ ⟨37, 40, 37, 52⟩) ⟨37, 39, 37, 52⟩) ⟨37, 12, 37, 52⟩) ⟨37, 8, 37, 52⟩)
    (.cons (.setat 0 "self" ⟨38, 8, 38, 12⟩ 0 0 "n" ⟨38, 8, 38, 14⟩ (.bin (.var 1 "n" ⟨38, 17, 38, 18⟩) oDiv (.var 3 "g" ⟨38, 22, 38, 23⟩) ⟨38, 17, 38, 23⟩) ⟨38, 8, 38, 23⟩)
    (.cons (.setat 0 "self" ⟨39, 8, 39, 12⟩ 0 1 "d" ⟨39, 8, 39, 14⟩ (.bin (.var 2 "d" ⟨39, 17, 39, 18⟩) oDiv (.var 3 "g" ⟨39, 22, 39, 23⟩) ⟨39, 17, 39, 23⟩) ⟨39, 8, 39, 23⟩)
    .nil)))))
theorem e_i_Ratio : defBody st_i_Ratio = b_i_Ratio.ast := by kernel_rfl
theorem w_i_Ratio : b_i_Ratio.wf ["self", "n", "d", "g"] (defScope st_i_Ratio) = true := by decide +kernel
theorem o_i_Ratio (A : At G) : b_i_Ratio.Ok G 2 := ⟨⟨⟨⟨⟨d_is_integer A, by decide⟩, trivial, trivial⟩, ⟨⟨⟨d_is_integer A, by decide⟩, trivial, trivial⟩, trivial⟩⟩, ⟨⟨rz_Malformed A (by decide), trivial⟩,
    trivial⟩, trivial⟩,
    ⟨⟨⟨trivial, (oEq_ok eq_none), trivial⟩, ⟨⟨rz_Refused A (by decide), trivial⟩,
    trivial⟩, trivial⟩,
    ⟨⟨⟨trivial, oGt_ok, trivial⟩, ⟨⟨d_common A, by decide⟩, trivial, ⟨trivial, trivial⟩⟩, ⟨(oNeg_ok neg_none), ⟨⟨d_common A, by decide⟩, trivial, ⟨trivial, trivial⟩⟩⟩⟩,
    ⟨⟨A.at_n, ⟨trivial, oDiv_ok, trivial⟩⟩,
    ⟨⟨A.at_d, ⟨trivial, oDiv_ok, trivial⟩⟩,
    trivial⟩⟩⟩⟩⟩
def k_Ratio2 : Mk1 := ⟨0, "Ratio", 2, 3, initB 0 4 b_i_Ratio.den⟩
theorem dk_Ratio2 (A : At G) : MkD G k_Ratio2 [] := by
  have h := mkD_of (n := 2) A.i_Ratio_2 A.bl b_i_Ratio e_i_Ratio s_i_Ratio rfl (by decide) w_i_Ratio (o_i_Ratio A)
  exact h
def k_Ratio1 : Mk1 := ⟨0, "Ratio", 1, 3, initB 0 4 b_i_Ratio.den⟩
theorem dk_Ratio1 (A : At G) : MkD G k_Ratio1 [.int 1] := by
  have h := mkD_of (n := 1) A.i_Ratio_1 A.bl b_i_Ratio e_i_Ratio s_i_Ratio rfl (by decide) w_i_Ratio (o_i_Ratio A)
  exact h
/-! ### _law_made -/
theorem s_law_made : FnScope ["n", "d"] ["n", "d"] (defScope st_law_made) := C8.fnScope_by (by decide +kernel)
def b_law_made : Sb := (.cons (.ret (.mk k_Ratio2 [] (.var 0 "n" ⟨213, 17, 213, 18⟩) (.cons (.var 1 "d" ⟨213, 20, 213, 21⟩) .nil) ⟨213, 11, 213, 16⟩ ⟨213, 11, 213, 22⟩) ⟨213, 4, 213, 22⟩)
    .nil)
def f_law_made : Fn := ⟨"_law_made", 2, 5, runB 2 b_law_made.den⟩
theorem e_law_made : defBody st_law_made = b_law_made.ast := by kernel_rfl
theorem w_law_made : b_law_made.wf ["n", "d"] (defScope st_law_made) = true := by decide +kernel
theorem o_law_made (A : At G) : b_law_made.Ok G 4 := ⟨⟨⟨dk_Ratio2 A, by decide⟩, trivial, ⟨trivial, trivial⟩⟩,
    trivial⟩
theorem d_law_made (A : At G) : FnD G f_law_made := by
  have h := fnD_of (n := 2) A.d_law_made A.bl b_law_made e_law_made s_law_made rfl (by decide) w_law_made (o_law_made A)
  exact h
/-! ### check_ratio -/
theorem s_check_ratio : FnScope ["value"] ["value"] (defScope st_check_ratio) := C8.fnScope_by (by decide +kernel)
def b_check_ratio : Sb := (.cons (.ifs (.no (.isi (.var 0 "value" ⟨76, 22, 76, 27⟩) (isIc 0 "Ratio" ⟨76, 29, 76, 34⟩ cs) ⟨76, 11, 76, 21⟩ ⟨76, 11, 76, 35⟩) ⟨76, 7, 76, 35⟩) (.cons (.raise 2 "reason" "Malformed" (.str "a ratio" 0 ⟨77, 24, 77, 33⟩) ⟨77, 14, 77, 23⟩ ⟨77, 14, 77, 34⟩ ⟨77, 8, 77, 34⟩)
    .nil) .nil ⟨76, 4, 77, 34⟩)
    .nil)
def f_check_ratio : Fn := ⟨"check_ratio", 1, 3, runB 1 b_check_ratio.den⟩
theorem e_check_ratio : defBody st_check_ratio = b_check_ratio.ast := by kernel_rfl
theorem w_check_ratio : b_check_ratio.wf ["value"] (defScope st_check_ratio) = true := by decide +kernel
theorem o_check_ratio (A : At G) : b_check_ratio.Ok G 2 := ⟨⟨⟨trivial, isIc_ok A.ic0 A.cls⟩, ⟨⟨rz_Malformed A (by decide), trivial⟩,
    trivial⟩, trivial⟩,
    trivial⟩
theorem d_check_ratio (A : At G) : FnD G f_check_ratio := by
  have h := fnD_of (n := 1) A.d_check_ratio A.bl b_check_ratio e_check_ratio s_check_ratio rfl (by decide) w_check_ratio (o_check_ratio A)
  exact h
/-! ### Ratio.over -/
theorem s_m_over : FnScope ["self", "other"] ["self", "other"] (defScope st_m_over) := C8.fnScope_by (by decide +kernel)
def b_m_over : Sb := (.cons (.ex (.call f_check_ratio (.var 1 "other" ⟨60, 20, 60, 25⟩) .nil ⟨60, 8, 60, 19⟩ ⟨60, 8, 60, 26⟩) ⟨60, 8, 60, 26⟩)
    (.cons (.ret (.mk k_Ratio2 [] (.bin (.att (.var 0 "self" ⟨61, 21, 61, 25⟩) 0 0 "n" ⟨61, 21, 61, 27⟩) (oMul none) (.att (.var 1 "other" ⟨61, 30, 61, 35⟩) 0 1 "d" ⟨61, 30, 61, 37⟩) ⟨61, 21, 61, 37⟩) (.cons (.bin (.att (.var 0 "self" ⟨61, 39, 61, 43⟩) 0 1 "d" ⟨61, 39, 61, 45⟩) (oMul none) (.att (.var 1 "other" ⟨61, 48, 61, 53⟩) 0 0 "n" ⟨61, 48, 61, 55⟩) ⟨61, 39, 61, 55⟩) .nil) ⟨61, 15, 61, 20⟩ ⟨61, 15, 61, 56⟩) ⟨61, 8, 61, 56⟩)
    .nil))
def m_over : Mt := ⟨0, "over", 2, 5, runB 2 b_m_over.den⟩
theorem e_m_over : defBody st_m_over = b_m_over.ast := by kernel_rfl
theorem w_m_over : b_m_over.wf ["self", "other"] (defScope st_m_over) = true := by decide +kernel
theorem o_m_over (A : At G) : b_m_over.Ok G 4 := ⟨⟨⟨d_check_ratio A, by decide⟩, trivial, trivial⟩,
    ⟨⟨⟨dk_Ratio2 A, by decide⟩, ⟨⟨A.at_n, trivial⟩, (oMul_ok own_none), ⟨A.at_d, trivial⟩⟩, ⟨⟨⟨A.at_d, trivial⟩, (oMul_ok own_none), ⟨A.at_n, trivial⟩⟩, trivial⟩⟩,
    trivial⟩⟩
theorem d_m_over (A : At G) : MtD G m_over := by
  have h := mtD_of (n := 2) A.m_over A.bl A.cl0 (by decide +kernel) b_m_over e_m_over s_m_over rfl (by decide) w_m_over (o_m_over A)
  exact h
/-! ### _law_over -/
theorem s_law_over : FnScope ["one", "two"] ["one", "two"] (defScope st_law_over) := C8.fnScope_by (by decide +kernel)
def b_law_over : Sb := (.cons (.ret (.mt m_over (.var 0 "one" ⟨198, 11, 198, 14⟩) (.cons (.var 1 "two" ⟨198, 20, 198, 23⟩) .nil) ⟨198, 11, 198, 19⟩ ⟨198, 11, 198, 24⟩) ⟨198, 4, 198, 24⟩)
    .nil)
def f_law_over : Fn := ⟨"_law_over", 2, 6, runB 2 b_law_over.den⟩
theorem e_law_over : defBody st_law_over = b_law_over.ast := by kernel_rfl
theorem w_law_over : b_law_over.wf ["one", "two"] (defScope st_law_over) = true := by decide +kernel
theorem o_law_over (A : At G) : b_law_over.Ok G 5 := ⟨⟨⟨d_m_over A, by decide⟩, trivial, ⟨trivial, trivial⟩⟩,
    trivial⟩
theorem d_law_over (A : At G) : FnD G f_law_over := by
  have h := fnD_of (n := 2) A.d_law_over A.bl b_law_over e_law_over s_law_over rfl (by decide) w_law_over (o_law_over A)
  exact h
/-! ### Ratio.__mul__ -/
theorem s_m_mul : FnScope ["self", "other"] ["self", "other"] (defScope st_m_mul) := C8.fnScope_by (by decide +kernel)
def b_m_mul : Sb := (.cons (.ex (.call f_check_ratio (.var 1 "other" ⟨50, 20, 50, 25⟩) .nil ⟨50, 8, 50, 19⟩ ⟨50, 8, 50, 26⟩) ⟨50, 8, 50, 26⟩)
    (.cons (.ret (.mk k_Ratio2 [] (.bin (.att (.var 0 "self" ⟨51, 21, 51, 25⟩) 0 0 "n" ⟨51, 21, 51, 27⟩) (oMul none) (.att (.var 1 "other" ⟨51, 30, 51, 35⟩) 0 0 "n" ⟨51, 30, 51, 37⟩) ⟨51, 21, 51, 37⟩) (.cons (.bin (.att (.var 0 "self" ⟨51, 39, 51, 43⟩) 0 1 "d" ⟨51, 39, 51, 45⟩) (oMul none) (.att (.var 1 "other" ⟨51, 48, 51, 53⟩) 0 1 "d" ⟨51, 48, 51, 55⟩) ⟨51, 39, 51, 55⟩) .nil) ⟨51, 15, 51, 20⟩ ⟨51, 15, 51, 56⟩) ⟨51, 8, 51, 56⟩)
    .nil))
def m_mul : Mt := ⟨0, "__mul__", 2, 5, runB 2 b_m_mul.den⟩
theorem e_m_mul : defBody st_m_mul = b_m_mul.ast := by kernel_rfl
theorem w_m_mul : b_m_mul.wf ["self", "other"] (defScope st_m_mul) = true := by decide +kernel
theorem o_m_mul (A : At G) : b_m_mul.Ok G 4 := ⟨⟨⟨d_check_ratio A, by decide⟩, trivial, trivial⟩,
    ⟨⟨⟨dk_Ratio2 A, by decide⟩, ⟨⟨A.at_n, trivial⟩, (oMul_ok own_none), ⟨A.at_n, trivial⟩⟩, ⟨⟨⟨A.at_d, trivial⟩, (oMul_ok own_none), ⟨A.at_d, trivial⟩⟩, trivial⟩⟩,
    trivial⟩⟩
theorem d_m_mul (A : At G) : MtD G m_mul := by
  have h := mtD_of (n := 2) A.m_mul A.bl A.cl0 (by decide +kernel) b_m_mul e_m_mul s_m_mul rfl (by decide) w_m_mul (o_m_mul A)
  exact h
theorem o_Mult (A : At G) : OwnB G .Mult m_mul := ownB_of (d_m_mul A) rfl (by decide +kernel) A.own0 A.op_mul
/-! ### Ratio.less -/
theorem s_m_less : FnScope ["self", "other"] ["self", "other"] (defScope st_m_less) := C8.fnScope_by (by decide +kernel)
def b_m_less : Sb := (.cons (.ex (.call f_check_ratio (.var 1 "other" ⟨64, 20, 64, 25⟩) .nil ⟨64, 8, 64, 19⟩ ⟨64, 8, 64, 26⟩) ⟨64, 8, 64, 26⟩)
    (.cons (.ret (.cmp (.bin (.att (.var 0 "self" ⟨65, 15, 65, 19⟩) 0 0 "n" ⟨65, 15, 65, 21⟩) (oMul none) (.att (.var 1 "other" ⟨65, 24, 65, 29⟩) 0 1 "d" ⟨65, 24, 65, 31⟩) ⟨65, 15, 65, 31⟩) oLt (.bin (.att (.var 1 "other" ⟨65, 34, 65, 39⟩) 0 0 "n" ⟨65, 34, 65, 41⟩) (oMul none) (.att (.var 0 "self" ⟨65, 44, 65, 48⟩) 0 1 "d" ⟨65, 44, 65, 50⟩) ⟨65, 34, 65, 50⟩) ⟨65, 15, 65, 50⟩) ⟨65, 8, 65, 50⟩)
    .nil))
def m_less : Mt := ⟨0, "less", 2, 4, runB 2 b_m_less.den⟩
theorem e_m_less : defBody st_m_less = b_m_less.ast := by kernel_rfl
theorem w_m_less : b_m_less.wf ["self", "other"] (defScope st_m_less) = true := by decide +kernel
theorem o_m_less (A : At G) : b_m_less.Ok G 3 := ⟨⟨⟨d_check_ratio A, by decide⟩, trivial, trivial⟩,
    ⟨⟨⟨⟨A.at_n, trivial⟩, (oMul_ok own_none), ⟨A.at_d, trivial⟩⟩, oLt_ok, ⟨⟨A.at_n, trivial⟩, (oMul_ok own_none), ⟨A.at_d, trivial⟩⟩⟩,
    trivial⟩⟩
theorem d_m_less (A : At G) : MtD G m_less := by
  have h := mtD_of (n := 2) A.m_less A.bl A.cl0 (by decide +kernel) b_m_less e_m_less s_m_less rfl (by decide) w_m_less (o_m_less A)
  exact h
/-! ### Ratio.__sub__ -/
theorem s_m_sub : FnScope ["self", "other"] ["self", "other"] (defScope st_m_sub) := C8.fnScope_by (by decide +kernel)
def b_m_sub : Sb := (.cons (.ex (.call f_check_ratio (.var 1 "other" ⟨46, 20, 46, 25⟩) .nil ⟨46, 8, 46, 19⟩ ⟨46, 8, 46, 26⟩) ⟨46, 8, 46, 26⟩)
    (.cons (.ret (.mk k_Ratio2 [] (.bin (.bin (.att (.var 0 "self" ⟨47, 21, 47, 25⟩) 0 0 "n" ⟨47, 21, 47, 27⟩) (oMul none) (.att (.var 1 "other" ⟨47, 30, 47, 35⟩) 0 1 "d" ⟨47, 30, 47, 37⟩) ⟨47, 21, 47, 37⟩) (oSub none) (.bin (.att (.var 1 "other" ⟨47, 40, 47, 45⟩) 0 0 "n" ⟨47, 40, 47, 47⟩) (oMul none) (.att (.var 0 "self" ⟨47, 50, 47, 54⟩) 0 1 "d" ⟨47, 50, 47, 56⟩) ⟨47, 40, 47, 56⟩) ⟨47, 21, 47, 56⟩) (.cons (.bin (.att (.var 0 "self" ⟨47, 58, 47, 62⟩) 0 1 "d" ⟨47, 58, 47, 64⟩) (oMul none) (.att (.var 1 "other" ⟨47, 67, 47, 72⟩) 0 1 "d" ⟨47, 67, 47, 74⟩) ⟨47, 58, 47, 74⟩) .nil) ⟨47, 15, 47, 20⟩ ⟨47, 15, 47, 75⟩) ⟨47, 8, 47, 75⟩)
    .nil))
def m_sub : Mt := ⟨0, "__sub__", 2, 5, runB 2 b_m_sub.den⟩
theorem e_m_sub : defBody st_m_sub = b_m_sub.ast := by kernel_rfl
theorem w_m_sub : b_m_sub.wf ["self", "other"] (defScope st_m_sub) = true := by decide +kernel
theorem o_m_sub (A : At G) : b_m_sub.Ok G 4 := ⟨⟨⟨d_check_ratio A, by decide⟩, trivial, trivial⟩,
    ⟨⟨⟨dk_Ratio2 A, by decide⟩, ⟨⟨⟨A.at_n, trivial⟩, (oMul_ok own_none), ⟨A.at_d, trivial⟩⟩, (oSub_ok own_none), ⟨⟨A.at_n, trivial⟩, (oMul_ok own_none), ⟨A.at_d, trivial⟩⟩⟩, ⟨⟨⟨A.at_d, trivial⟩, (oMul_ok own_none), ⟨A.at_d, trivial⟩⟩, trivial⟩⟩,
    trivial⟩⟩
theorem d_m_sub (A : At G) : MtD G m_sub := by
  have h := mtD_of (n := 2) A.m_sub A.bl A.cl0 (by decide +kernel) b_m_sub e_m_sub s_m_sub rfl (by decide) w_m_sub (o_m_sub A)
  exact h
theorem o_Sub (A : At G) : OwnB G .Sub m_sub := ownB_of (d_m_sub A) rfl (by decide +kernel) A.own0 A.op_sub
/-! ### Ratio.__add__ -/
theorem s_m_add : FnScope ["self", "other"] ["self", "other"] (defScope st_m_add) := C8.fnScope_by (by decide +kernel)
def b_m_add : Sb := (.cons (.ex (.call f_check_ratio (.var 1 "other" ⟨42, 20, 42, 25⟩) .nil ⟨42, 8, 42, 19⟩ ⟨42, 8, 42, 26⟩) ⟨42, 8, 42, 26⟩)
    (.cons (.ret (.mk k_Ratio2 [] (.bin (.bin (.att (.var 0 "self" ⟨43, 21, 43, 25⟩) 0 0 "n" ⟨43, 21, 43, 27⟩) (oMul none) (.att (.var 1 "other" ⟨43, 30, 43, 35⟩) 0 1 "d" ⟨43, 30, 43, 37⟩) ⟨43, 21, 43, 37⟩) (oAdd none) (.bin (.att (.var 1 "other" ⟨43, 40, 43, 45⟩) 0 0 "n" ⟨43, 40, 43, 47⟩) (oMul none) (.att (.var 0 "self" ⟨43, 50, 43, 54⟩) 0 1 "d" ⟨43, 50, 43, 56⟩) ⟨43, 40, 43, 56⟩) ⟨43, 21, 43, 56⟩) (.cons (.bin (.att (.var 0 "self" ⟨43, 58, 43, 62⟩) 0 1 "d" ⟨43, 58, 43, 64⟩) (oMul none) (.att (.var 1 "other" ⟨43, 67, 43, 72⟩) 0 1 "d" ⟨43, 67, 43, 74⟩) ⟨43, 58, 43, 74⟩) .nil) ⟨43, 15, 43, 20⟩ ⟨43, 15, 43, 75⟩) ⟨43, 8, 43, 75⟩)
    .nil))
def m_add : Mt := ⟨0, "__add__", 2, 5, runB 2 b_m_add.den⟩
theorem e_m_add : defBody st_m_add = b_m_add.ast := by kernel_rfl
theorem w_m_add : b_m_add.wf ["self", "other"] (defScope st_m_add) = true := by decide +kernel
theorem o_m_add (A : At G) : b_m_add.Ok G 4 := ⟨⟨⟨d_check_ratio A, by decide⟩, trivial, trivial⟩,
    ⟨⟨⟨dk_Ratio2 A, by decide⟩, ⟨⟨⟨A.at_n, trivial⟩, (oMul_ok own_none), ⟨A.at_d, trivial⟩⟩, (oAdd_ok own_none), ⟨⟨A.at_n, trivial⟩, (oMul_ok own_none), ⟨A.at_d, trivial⟩⟩⟩, ⟨⟨⟨A.at_d, trivial⟩, (oMul_ok own_none), ⟨A.at_d, trivial⟩⟩, trivial⟩⟩,
    trivial⟩⟩
theorem d_m_add (A : At G) : MtD G m_add := by
  have h := mtD_of (n := 2) A.m_add A.bl A.cl0 (by decide +kernel) b_m_add e_m_add s_m_add rfl (by decide) w_m_add (o_m_add A)
  exact h
theorem o_Add (A : At G) : OwnB G .Add m_add := ownB_of (d_m_add A) rfl (by decide +kernel) A.own0 A.op_add
/-! ### _law_act -/
theorem s_law_act : FnScope ["one", "word", "other"] ["one", "word", "other"] (defScope st_law_act) := C8.fnScope_by (by decide +kernel)
def b_law_act : Sb := (.cons (.ifs (.cmp (.var 1 "word" ⟨215, 7, 215, 11⟩) (oEq true) (.str "plus" 0 ⟨215, 15, 215, 21⟩) ⟨215, 7, 215, 21⟩) (.cons (.ret (.bin (.var 0 "one" ⟨216, 15, 216, 18⟩) (oAdd (some m_add)) (.var 2 "other" ⟨216, 21, 216, 26⟩) ⟨216, 15, 216, 26⟩) ⟨216, 8, 216, 26⟩)
    .nil) .nil ⟨215, 4, 216, 26⟩)
    (.cons (.ifs (.cmp (.var 1 "word" ⟨217, 7, 217, 11⟩) (oEq true) (.str "minus" 0 ⟨217, 15, 217, 22⟩) ⟨217, 7, 217, 22⟩) (.cons (.ret (.bin (.var 0 "one" ⟨218, 15, 218, 18⟩) (oSub (some m_sub)) (.var 2 "other" ⟨218, 21, 218, 26⟩) ⟨218, 15, 218, 26⟩) ⟨218, 8, 218, 26⟩)
    .nil) .nil ⟨217, 4, 218, 26⟩)
    (.cons (.ret (.ite (.cmp (.var 1 "word" ⟨219, 26, 219, 30⟩) (oEq true) (.str "times" 0 ⟨219, 34, 219, 41⟩) ⟨219, 26, 219, 41⟩) (.bin (.var 0 "one" ⟨219, 11, 219, 14⟩) (oMul (some m_mul)) (.var 2 "other" ⟨219, 17, 219, 22⟩) ⟨219, 11, 219, 22⟩) (.mt m_less (.var 0 "one" ⟨219, 47, 219, 50⟩) (.cons (.var 2 "other" ⟨219, 56, 219, 61⟩) .nil) ⟨219, 47, 219, 55⟩ ⟨219, 47, 219, 62⟩) ⟨219, 11, 219, 62⟩) ⟨219, 4, 219, 62⟩)
    .nil)))
def f_law_act : Fn := ⟨"_law_act", 3, 10, runB 3 b_law_act.den⟩
theorem e_law_act : defBody st_law_act = b_law_act.ast := by kernel_rfl
theorem w_law_act : b_law_act.wf ["one", "word", "other"] (defScope st_law_act) = true := by decide +kernel
theorem o_law_act (A : At G) : b_law_act.Ok G 9 := ⟨⟨⟨trivial, (oEq_ok (eq_own (o_eq A) (by decide))), trivial⟩, ⟨⟨trivial, (oAdd_ok (own_ok (o_Add A) (by decide))), trivial⟩,
    trivial⟩, trivial⟩,
    ⟨⟨⟨trivial, (oEq_ok (eq_own (o_eq A) (by decide))), trivial⟩, ⟨⟨trivial, (oSub_ok (own_ok (o_Sub A) (by decide))), trivial⟩,
    trivial⟩, trivial⟩,
    ⟨⟨⟨trivial, (oEq_ok (eq_own (o_eq A) (by decide))), trivial⟩, ⟨trivial, (oMul_ok (own_ok (o_Mult A) (by decide))), trivial⟩, ⟨⟨d_m_less A, by decide⟩, trivial, ⟨trivial, trivial⟩⟩⟩,
    trivial⟩⟩⟩
theorem d_law_act (A : At G) : FnD G f_law_act := by
  have h := fnD_of (n := 3) A.d_law_act A.bl b_law_act e_law_act s_law_act rfl (by decide) w_law_act (o_law_act A)
  exact h
/-! ### as_ratio -/
theorem s_as_ratio : FnScope ["value"] ["value"] (defScope st_as_ratio) := C8.fnScope_by (by decide +kernel)
def b_as_ratio : Sb := (.cons (.ifs (.call f_is_integer (.var 0 "value" ⟨79, 18, 79, 23⟩) .nil ⟨79, 7, 79, 17⟩ ⟨79, 7, 79, 24⟩) (.cons (.ret (.mk k_Ratio1 [.int 1] (.var 0 "value" ⟨80, 21, 80, 26⟩) .nil ⟨80, 15, 80, 20⟩ ⟨80, 15, 80, 27⟩) ⟨80, 8, 80, 27⟩)
    .nil) .nil ⟨79, 4, 80, 27⟩)
    (.cons (.ex (.call f_check_ratio (.var 0 "value" ⟨81, 16, 81, 21⟩) .nil ⟨81, 4, 81, 15⟩ ⟨81, 4, 81, 22⟩) ⟨81, 4, 81, 22⟩)
    (.cons (.ret (.var 0 "value" ⟨82, 11, 82, 16⟩) ⟨82, 4, 82, 16⟩)
    .nil)))
def f_as_ratio : Fn := ⟨"as_ratio", 1, 5, runB 1 b_as_ratio.den⟩
theorem e_as_ratio : defBody st_as_ratio = b_as_ratio.ast := by kernel_rfl
theorem w_as_ratio : b_as_ratio.wf ["value"] (defScope st_as_ratio) = true := by decide +kernel
theorem o_as_ratio (A : At G) : b_as_ratio.Ok G 4 := ⟨⟨⟨⟨d_is_integer A, by decide⟩, trivial, trivial⟩, ⟨⟨⟨dk_Ratio1 A, by decide⟩, trivial, trivial⟩,
    trivial⟩, trivial⟩,
    ⟨⟨⟨d_check_ratio A, by decide⟩, trivial, trivial⟩,
    ⟨trivial,
    trivial⟩⟩⟩
theorem d_as_ratio (A : At G) : FnD G f_as_ratio := by
  have h := fnD_of (n := 1) A.d_as_ratio A.bl b_as_ratio e_as_ratio s_as_ratio rfl (by decide) w_as_ratio (o_as_ratio A)
  exact h
/-! ### ratio_text -/
theorem s_ratio_text : FnScope ["value", "text"] ["value"] (defScope st_ratio_text) := C8.fnScope_by (by decide +kernel)
def b_ratio_text : Sb := (.cons (.ex (.call f_check_ratio (.var 0 "value" ⟨86, 16, 86, 21⟩) .nil ⟨86, 4, 86, 15⟩ ⟨86, 4, 86, 22⟩) ⟨86, 4, 86, 22⟩)
    (.cons (.ifs (.cmp (.bm mBits (.of (.bi bMax (.of (.bi bAbs (.of (.att (.var 0 "value" ⟨87, 15, 87, 20⟩) 0 0 "n" ⟨87, 15, 87, 22⟩)) .nil ⟨87, 11, 87, 14⟩ ⟨87, 11, 87, 23⟩)) (.cons (.of (.att (.var 0 "value" ⟨87, 25, 87, 30⟩) 0 1 "d" ⟨87, 25, 87, 32⟩)) .nil) ⟨87, 7, 87, 10⟩ ⟨87, 7, 87, 33⟩)) .nil ⟨87, 7, 87, 44⟩ ⟨87, 7, 87, 46⟩) oGt (.bin (.int 4 0 ⟨87, 49, 87, 50⟩) (oMul none) (.glo "MOST_SIGNS" (.int 2000) ⟨87, 53, 87, 63⟩) ⟨87, 49, 87, 63⟩) ⟨87, 7, 87, 63⟩) (.cons (.raise 3 "reason" "Refused" (.str "long" 0 ⟨88, 22, 88, 28⟩) ⟨88, 14, 88, 21⟩ ⟨88, 14, 88, 29⟩ ⟨88, 8, 88, 29⟩)
    .nil) .nil ⟨87, 4, 88, 29⟩)
    (.cons (.asg (.nm 1 "text" ⟨89, 4, 89, 8⟩) (.ite (.cmp (.att (.var 0 "value" ⟨89, 27, 89, 32⟩) 0 1 "d" ⟨89, 27, 89, 34⟩) (oEq false) (.int 1 0 ⟨89, 38, 89, 39⟩) ⟨89, 27, 89, 39⟩) (.bi bStr (.of (.att (.var 0 "value" ⟨89, 15, 89, 20⟩) 0 0 "n" ⟨89, 15, 89, 22⟩)) .nil ⟨89, 11, 89, 14⟩ ⟨89, 11, 89, 23⟩) (.bin (.bin (.bi bStr (.of (.att (.var 0 "value" ⟨89, 49, 89, 54⟩) 0 0 "n" ⟨89, 49, 89, 56⟩)) .nil ⟨89, 45, 89, 48⟩ ⟨89, 45, 89, 57⟩) (oAdd none) (.str "/" 0 ⟨89, 60, 89, 63⟩) ⟨89, 45, 89, 63⟩) (oAdd none) (.bi bStr (.of (.att (.var 0 "value" ⟨89, 70, 89, 75⟩) 0 1 "d" ⟨89, 70, 89, 77⟩)) .nil ⟨89, 66, 89, 69⟩ ⟨89, 66, 89, 78⟩) ⟨89, 45, 89, 78⟩) ⟨89, 11, 89, 78⟩) ⟨89, 4, 89, 78⟩)
    (.cons (.ifs (.cmp (.bi bLen (.of (.var 1 "text" ⟨90, 11, 90, 15⟩)) .nil ⟨90, 7, 90, 10⟩ ⟨90, 7, 90, 16⟩) oGt (.glo "MOST_SIGNS" (.int 2000) ⟨90, 19, 90, 29⟩) ⟨90, 7, 90, 29⟩) (.cons (.raise 3 "reason" "Refused" (.str "long" 0 ⟨91, 22, 91, 28⟩) ⟨91, 14, 91, 21⟩ ⟨91, 14, 91, 29⟩ ⟨91, 8, 91, 29⟩)
    .nil) .nil ⟨90, 4, 91, 29⟩)
    (.cons (.ret (.var 1 "text" ⟨92, 11, 92, 15⟩) ⟨92, 4, 92, 15⟩)
    .nil)))))
def f_ratio_text : Fn := ⟨"ratio_text", 1, 4, runB 2 b_ratio_text.den⟩
theorem e_ratio_text : defBody st_ratio_text = b_ratio_text.ast := by kernel_rfl
theorem w_ratio_text : b_ratio_text.wf ["value", "text"] (defScope st_ratio_text) = true := by decide +kernel
theorem o_ratio_text (A : At G) : b_ratio_text.Ok G 3 := ⟨⟨⟨d_check_ratio A, by decide⟩, trivial, trivial⟩,
    ⟨⟨⟨⟨mBits_ok, ⟨bMax_ok, ⟨bAbs_ok, ⟨A.at_n, trivial⟩, trivial⟩, ⟨⟨A.at_d, trivial⟩, trivial⟩⟩, trivial⟩, oGt_ok, ⟨trivial, (oMul_ok own_none), A.c_MOST_SIGNS⟩⟩, ⟨⟨rz_Refused A (by decide), trivial⟩,
    trivial⟩, trivial⟩,
    ⟨⟨⟨⟨A.at_d, trivial⟩, (oEq_ok eq_none), trivial⟩, ⟨(bStr_ok A.dig), ⟨A.at_n, trivial⟩, trivial⟩, ⟨⟨⟨(bStr_ok A.dig), ⟨A.at_n, trivial⟩, trivial⟩, (oAdd_ok own_none), trivial⟩, (oAdd_ok own_none), ⟨(bStr_ok A.dig), ⟨A.at_d, trivial⟩, trivial⟩⟩⟩,
    ⟨⟨⟨⟨bLen_ok, trivial, trivial⟩, oGt_ok, A.c_MOST_SIGNS⟩, ⟨⟨rz_Refused A (by decide), trivial⟩,
    trivial⟩, trivial⟩,
    ⟨trivial,
    trivial⟩⟩⟩⟩⟩
theorem d_ratio_text (A : At G) : FnD G f_ratio_text := by
  have h := fnD_of (n := 1) A.d_ratio_text A.bl b_ratio_text e_ratio_text s_ratio_text rfl (by decide) w_ratio_text (o_ratio_text A)
  exact h
/-! ### is_number -/
theorem s_is_number : FnScope ["text", "c"] ["text"] (defScope st_is_number) := C8.fnScope_by (by decide +kernel)
def b_is_number : Sb := (.cons (.ret (.bop .And (.cmp (.var 0 "text" ⟨109, 11, 109, 15⟩) oNe (.str "" 0 ⟨109, 19, 109, 21⟩) ⟨109, 11, 109, 21⟩) (.cons (.bi bAll (.of (.comp (.cmp (.var 1 "c" ⟨109, 31, 109, 32⟩) oIn (.glo "DIGITS" (.str "0123456789") ⟨109, 36, 109, 42⟩) ⟨109, 31, 109, 42⟩) (.nm 1 "c" ⟨109, 47, 109, 48⟩) (.seq (.of (.var 0 "text" ⟨109, 52, 109, 56⟩))) .no ⟨.function, [(".0", .local), ("c", .local), ("DIGITS", .globalImplicit)], false, false, []⟩ [("c", 1)] ⟨109, 30, 109, 57⟩)) .nil ⟨109, 26, 109, 29⟩ ⟨109, 26, 109, 58⟩) (.cons (.bop .Or (.cmp (.ix (.of (.var 0 "text" ⟨109, 64, 109, 68⟩)) (.int 0 0 ⟨109, 69, 109, 70⟩) ⟨109, 64, 109, 71⟩) oNe (.str "0" 0 ⟨109, 75, 109, 78⟩) ⟨109, 64, 109, 78⟩) (.cons (.cmp (.var 0 "text" ⟨109, 82, 109, 86⟩) (oEq false) (.str "0" 0 ⟨109, 90, 109, 93⟩) ⟨109, 82, 109, 93⟩) .nil) ⟨109, 64, 109, 93⟩) .nil)) ⟨109, 11, 109, 94⟩) ⟨109, 4, 109, 94⟩)
    .nil)
def f_is_number : Fn := ⟨"is_number", 1, 1, runB 2 b_is_number.den⟩
theorem e_is_number : defBody st_is_number = b_is_number.ast := by kernel_rfl
theorem w_is_number : b_is_number.wf ["text", "c"] (defScope st_is_number) = true := by decide +kernel
theorem o_is_number (A : At G) : b_is_number.Ok G 0 := ⟨⟨⟨trivial, oNe_ok, trivial⟩, ⟨⟨bAll_ok, ⟨trivial, trivial, ⟨trivial, oIn_ok, A.c_DIGITS⟩⟩, trivial⟩, ⟨⟨⟨⟨trivial, trivial⟩, oNe_ok, trivial⟩, ⟨⟨trivial, (oEq_ok eq_none), trivial⟩, trivial⟩⟩, trivial⟩⟩⟩,
    trivial⟩
theorem d_is_number (A : At G) : FnD G f_is_number := by
  have h := fnD_of (n := 1) A.d_is_number A.bl b_is_number e_is_number s_is_number rfl (by decide) w_is_number (o_is_number A)
  exact h
/-! ### read_ratio -/
theorem s_read_ratio : FnScope ["text", "high", "stroke", "low", "plain", "found"] ["text"] (defScope st_read_ratio) := C8.fnScope_by (by decide +kernel)
def b_read_ratio : Sb := (.cons (.ifs (.bop .Or (.no (.isi (.var 0 "text" ⟨94, 22, 94, 26⟩) (isTy "str" ⟨94, 28, 94, 31⟩ cs) ⟨94, 11, 94, 21⟩ ⟨94, 11, 94, 32⟩) ⟨94, 7, 94, 32⟩) (.cons (.no (.cm2 (.int 1 0 ⟨94, 40, 94, 41⟩) oLe (.bi bLen (.of (.var 0 "text" ⟨94, 49, 94, 53⟩)) .nil ⟨94, 45, 94, 48⟩ ⟨94, 45, 94, 54⟩) oLe (.glo "MOST_SIGNS" (.int 2000) ⟨94, 58, 94, 68⟩) ⟨94, 40, 94, 68⟩) ⟨94, 36, 94, 68⟩) .nil) ⟨94, 7, 94, 68⟩) (.cons (.raise 4 "at" "NoText" (.int 0 0 ⟨95, 21, 95, 22⟩) ⟨95, 14, 95, 20⟩ ⟨95, 14, 95, 23⟩ ⟨95, 8, 95, 23⟩)
    .nil) .nil ⟨94, 4, 95, 23⟩)
    (.cons (.asg (.tp (.cons (.nm 1 "high" ⟨96, 4, 96, 8⟩) (.cons (.nm 2 "stroke" ⟨96, 10, 96, 16⟩) (.cons (.nm 3 "low" ⟨96, 18, 96, 21⟩) .nil))) 0 ⟨96, 4, 96, 21⟩) (.bm mPart (.of (.var 0 "text" ⟨96, 24, 96, 28⟩)) (.cons (.of (.str "/" 0 ⟨96, 39, 96, 42⟩)) .nil) ⟨96, 24, 96, 38⟩ ⟨96, 24, 96, 43⟩) ⟨96, 4, 96, 43⟩)
    (.cons (.asg (.nm 4 "plain" ⟨97, 4, 97, 9⟩) (.ite (.cmp (.sl (.of (.var 1 "high" ⟨97, 24, 97, 28⟩)) (.so (.int 0 0 ⟨97, 29, 97, 30⟩)) (.so (.int 1 0 ⟨97, 31, 97, 32⟩)) ⟨97, 29, 97, 32⟩ ⟨97, 24, 97, 33⟩) (oEq false) (.str "-" 0 ⟨97, 37, 97, 40⟩) ⟨97, 24, 97, 40⟩) (.sl (.of (.var 1 "high" ⟨97, 12, 97, 16⟩)) (.so (.int 1 0 ⟨97, 17, 97, 18⟩)) .no ⟨97, 17, 97, 19⟩ ⟨97, 12, 97, 20⟩) (.var 1 "high" ⟨97, 46, 97, 50⟩) ⟨97, 12, 97, 50⟩) ⟨97, 4, 97, 50⟩)
    (.cons (.ifs (.bop .Or (.no (.call f_is_number (.var 4 "plain" ⟨98, 21, 98, 26⟩) .nil ⟨98, 11, 98, 20⟩ ⟨98, 11, 98, 27⟩) ⟨98, 7, 98, 27⟩) (.cons (.bop .And (.cmp (.var 4 "plain" ⟨98, 32, 98, 37⟩) (oEq false) (.str "0" 0 ⟨98, 41, 98, 44⟩) ⟨98, 32, 98, 44⟩) (.cons (.cmp (.var 0 "text" ⟨98, 49, 98, 53⟩) oNe (.str "0" 0 ⟨98, 57, 98, 60⟩) ⟨98, 49, 98, 60⟩) .nil) ⟨98, 32, 98, 60⟩) .nil) ⟨98, 7, 98, 61⟩) (.cons (.raise 4 "at" "NoText" (.int 0 0 ⟨99, 21, 99, 22⟩) ⟨99, 14, 99, 20⟩ ⟨99, 14, 99, 23⟩ ⟨99, 8, 99, 23⟩)
    .nil) .nil ⟨98, 4, 99, 23⟩)
    (.cons (.ifs (.cmp (.var 2 "stroke" ⟨100, 7, 100, 13⟩) (oEq false) (.str "" 0 ⟨100, 17, 100, 19⟩) ⟨100, 7, 100, 19⟩) (.cons (.ret (.mk k_Ratio1 [.int 1] (.bi bInt (.of (.var 1 "high" ⟨101, 25, 101, 29⟩)) .nil ⟨101, 21, 101, 24⟩ ⟨101, 21, 101, 30⟩) .nil ⟨101, 15, 101, 20⟩ ⟨101, 15, 101, 31⟩) ⟨101, 8, 101, 31⟩)
    .nil) .nil ⟨100, 4, 101, 31⟩)
    (.cons (.ifs (.bop .Or (.no (.call f_is_number (.var 3 "low" ⟨102, 21, 102, 24⟩) .nil ⟨102, 11, 102, 20⟩ ⟨102, 11, 102, 25⟩) ⟨102, 7, 102, 25⟩) (.cons (.cmp (.var 3 "low" ⟨102, 29, 102, 32⟩) (oEq false) (.str "0" 0 ⟨102, 36, 102, 39⟩) ⟨102, 29, 102, 39⟩) .nil) ⟨102, 7, 102, 39⟩) (.cons (.raise 4 "at" "NoText" (.bi bLen (.of (.var 1 "high" ⟨103, 25, 103, 29⟩)) .nil ⟨103, 21, 103, 24⟩ ⟨103, 21, 103, 30⟩) ⟨103, 14, 103, 20⟩ ⟨103, 14, 103, 31⟩ ⟨103, 8, 103, 31⟩)
    .nil) .nil ⟨102, 4, 103, 31⟩)
    (.cons (.asg (.nm 5 "found" ⟨104, 4, 104, 9⟩) (.mk k_Ratio2 [] (.bi bInt (.of (.var 1 "high" ⟨104, 22, 104, 26⟩)) .nil ⟨104, 18, 104, 21⟩ ⟨104, 18, 104, 27⟩) (.cons (.bi bInt (.of (.var 3 "low" ⟨104, 33, 104, 36⟩)) .nil ⟨104, 29, 104, 32⟩ ⟨104, 29, 104, 37⟩) .nil) ⟨104, 12, 104, 17⟩ ⟨104, 12, 104, 38⟩) ⟨104, 4, 104, 38⟩)
    (.cons (.ifs (.bop .Or (.cmp (.att (.var 5 "found" ⟨105, 7, 105, 12⟩) 0 1 "d" ⟨105, 7, 105, 14⟩) (oEq false) (.int 1 0 ⟨105, 18, 105, 19⟩) ⟨105, 7, 105, 19⟩) (.cons (.cmp (.bi bStr (.of (.att (.var 5 "found" ⟨105, 27, 105, 32⟩) 0 1 "d" ⟨105, 27, 105, 34⟩)) .nil ⟨105, 23, 105, 26⟩ ⟨105, 23, 105, 35⟩) oNe (.var 3 "low" ⟨105, 39, 105, 42⟩) ⟨105, 23, 105, 42⟩) .nil) ⟨105, 7, 105, 42⟩) (.cons (.raise 4 "at" "NoText" (.bi bLen (.of (.var 1 "high" ⟨106, 25, 106, 29⟩)) .nil ⟨106, 21, 106, 24⟩ ⟨106, 21, 106, 30⟩) ⟨106, 14, 106, 20⟩ ⟨106, 14, 106, 31⟩ ⟨106, 8, 106, 31⟩)
    .nil) .nil ⟨105, 4, 106, 31⟩)
    (.cons (.ret (.var 5 "found" ⟨107, 11, 107, 16⟩) ⟨107, 4, 107, 16⟩)
    .nil)))))))))
def f_read_ratio : Fn := ⟨"read_ratio", 1, 5, runB 6 b_read_ratio.den⟩
theorem e_read_ratio : defBody st_read_ratio = b_read_ratio.ast := by kernel_rfl
theorem w_read_ratio : b_read_ratio.wf ["text", "high", "stroke", "low", "plain", "found"] (defScope st_read_ratio) = true := by decide +kernel
theorem o_read_ratio (A : At G) : b_read_ratio.Ok G 4 := ⟨⟨⟨⟨trivial, isTy_ok tyF_str A.cls⟩, ⟨⟨trivial, oLe_ok, ⟨bLen_ok, trivial, trivial⟩, oLe_ok, A.c_MOST_SIGNS⟩, trivial⟩⟩, ⟨⟨rz_NoText A (by decide), trivial⟩,
    trivial⟩, trivial⟩,
    ⟨⟨mPart_ok, trivial, ⟨trivial, trivial⟩⟩,
    ⟨⟨⟨⟨trivial, trivial, trivial⟩, (oEq_ok eq_none), trivial⟩, ⟨trivial, trivial, trivial⟩, trivial⟩,
    ⟨⟨⟨⟨⟨d_is_number A, by decide⟩, trivial, trivial⟩, ⟨⟨⟨trivial, (oEq_ok eq_none), trivial⟩, ⟨⟨trivial, oNe_ok, trivial⟩, trivial⟩⟩, trivial⟩⟩, ⟨⟨rz_NoText A (by decide), trivial⟩,
    trivial⟩, trivial⟩,
    ⟨⟨⟨trivial, (oEq_ok eq_none), trivial⟩, ⟨⟨⟨dk_Ratio1 A, by decide⟩, ⟨(bInt_ok A.dig), trivial, trivial⟩, trivial⟩,
    trivial⟩, trivial⟩,
    ⟨⟨⟨⟨⟨d_is_number A, by decide⟩, trivial, trivial⟩, ⟨⟨trivial, (oEq_ok eq_none), trivial⟩, trivial⟩⟩, ⟨⟨rz_NoText A (by decide), ⟨bLen_ok, trivial, trivial⟩⟩,
    trivial⟩, trivial⟩,
    ⟨⟨⟨dk_Ratio2 A, by decide⟩, ⟨(bInt_ok A.dig), trivial, trivial⟩, ⟨⟨(bInt_ok A.dig), trivial, trivial⟩, trivial⟩⟩,
    ⟨⟨⟨⟨⟨A.at_d, trivial⟩, (oEq_ok eq_none), trivial⟩, ⟨⟨⟨(bStr_ok A.dig), ⟨A.at_d, trivial⟩, trivial⟩, oNe_ok, trivial⟩, trivial⟩⟩, ⟨⟨rz_NoText A (by decide), ⟨bLen_ok, trivial, trivial⟩⟩,
    trivial⟩, trivial⟩,
    ⟨trivial,
    trivial⟩⟩⟩⟩⟩⟩⟩⟩⟩
theorem d_read_ratio (A : At G) : FnD G f_read_ratio := by
  have h := fnD_of (n := 1) A.d_read_ratio A.bl b_read_ratio e_read_ratio s_read_ratio rfl (by decide) w_read_ratio (o_read_ratio A)
  exact h
/-! ### _law_told -/
def acts : List Fn := [f_law_made, f_law_over, f_law_act, f_as_ratio, f_ratio_text, f_read_ratio]
def b_law_told : Sb := (.cons (.ifs (.cmp (.bi bLen (.of (.var 1 "given" ⟨150, 15, 150, 20⟩)) .nil ⟨150, 11, 150, 14⟩ ⟨150, 11, 150, 21⟩) oGt (.int 3 0 ⟨150, 24, 150, 25⟩) ⟨150, 11, 150, 25⟩) (.cons (.ret (.tup (.cons (.str "told" 0 ⟨151, 20, 151, 26⟩) (.cons (.ite (.cmp (.bi bLen (.of (.var 1 "given" ⟨151, 79, 151, 84⟩)) .nil ⟨151, 75, 151, 78⟩ ⟨151, 75, 151, 85⟩) (oEq false) (.int 4 0 ⟨151, 89, 151, 90⟩) ⟨151, 75, 151, 90⟩) (.dyn 0 "act" acts (.ix (.of (.var 1 "given" ⟨151, 32, 151, 37⟩)) (.int 0 0 ⟨151, 38, 151, 39⟩) ⟨151, 32, 151, 40⟩) (.cons (.ix (.of (.var 1 "given" ⟨151, 42, 151, 47⟩)) (.int 1 0 ⟨151, 48, 151, 49⟩) ⟨151, 42, 151, 50⟩) (.cons (.ix (.of (.var 1 "given" ⟨151, 52, 151, 57⟩)) (.int 2 0 ⟨151, 58, 151, 59⟩) ⟨151, 52, 151, 60⟩) (.cons (.ix (.of (.var 1 "given" ⟨151, 62, 151, 67⟩)) (.int 3 0 ⟨151, 68, 151, 69⟩) ⟨151, 62, 151, 70⟩) .nil))) ⟨151, 28, 151, 31⟩ ⟨151, 28, 151, 71⟩) (.dyn 0 "act" acts (.ix (.of (.var 1 "given" ⟨151, 100, 151, 105⟩)) (.int 0 0 ⟨151, 106, 151, 107⟩) ⟨151, 100, 151, 108⟩) (.cons (.ix (.of (.var 1 "given" ⟨151, 110, 151, 115⟩)) (.int 1 0 ⟨151, 116, 151, 117⟩) ⟨151, 110, 151, 118⟩) (.cons (.ix (.of (.var 1 "given" ⟨151, 120, 151, 125⟩)) (.int 2 0 ⟨151, 126, 151, 127⟩) ⟨151, 120, 151, 128⟩) (.cons (.ix (.of (.var 1 "given" ⟨151, 130, 151, 135⟩)) (.int 3 0 ⟨151, 136, 151, 137⟩) ⟨151, 130, 151, 138⟩) (.cons (.ix (.of (.var 1 "given" ⟨151, 140, 151, 145⟩)) (.int 4 0 ⟨151, 146, 151, 147⟩) ⟨151, 140, 151, 148⟩) .nil)))) ⟨151, 96, 151, 99⟩ ⟨151, 96, 151, 149⟩) ⟨151, 28, 151, 149⟩) .nil)) 0 ⟨151, 19, 151, 150⟩) ⟨151, 12, 151, 150⟩)
    .nil) .nil ⟨150, 8, 151, 150⟩)
    (.cons (.ret (.tup (.cons (.str "told" 0 ⟨152, 16, 152, 22⟩) (.cons (.ite (.cmp (.bi bLen (.of (.var 1 "given" ⟨152, 45, 152, 50⟩)) .nil ⟨152, 41, 152, 44⟩ ⟨152, 41, 152, 51⟩) (oEq false) (.int 1 0 ⟨152, 55, 152, 56⟩) ⟨152, 41, 152, 56⟩) (.dyn 0 "act" acts (.ix (.of (.var 1 "given" ⟨152, 28, 152, 33⟩)) (.int 0 0 ⟨152, 34, 152, 35⟩) ⟨152, 28, 152, 36⟩) .nil ⟨152, 24, 152, 27⟩ ⟨152, 24, 152, 37⟩) (.ite (.cmp (.bi bLen (.of (.var 1 "given" ⟨152, 93, 152, 98⟩)) .nil ⟨152, 89, 152, 92⟩ ⟨152, 89, 152, 99⟩) (oEq false) (.int 2 0 ⟨152, 103, 152, 104⟩) ⟨152, 89, 152, 104⟩) (.dyn 0 "act" acts (.ix (.of (.var 1 "given" ⟨152, 66, 152, 71⟩)) (.int 0 0 ⟨152, 72, 152, 73⟩) ⟨152, 66, 152, 74⟩) (.cons (.ix (.of (.var 1 "given" ⟨152, 76, 152, 81⟩)) (.int 1 0 ⟨152, 82, 152, 83⟩) ⟨152, 76, 152, 84⟩) .nil) ⟨152, 62, 152, 65⟩ ⟨152, 62, 152, 85⟩) (.dyn 0 "act" acts (.ix (.of (.var 1 "given" ⟨152, 114, 152, 119⟩)) (.int 0 0 ⟨152, 120, 152, 121⟩) ⟨152, 114, 152, 122⟩) (.cons (.ix (.of (.var 1 "given" ⟨152, 124, 152, 129⟩)) (.int 1 0 ⟨152, 130, 152, 131⟩) ⟨152, 124, 152, 132⟩) (.cons (.ix (.of (.var 1 "given" ⟨152, 134, 152, 139⟩)) (.int 2 0 ⟨152, 140, 152, 141⟩) ⟨152, 134, 152, 142⟩) .nil)) ⟨152, 110, 152, 113⟩ ⟨152, 110, 152, 143⟩) ⟨152, 62, 152, 143⟩) ⟨152, 24, 152, 143⟩) .nil)) 0 ⟨152, 15, 152, 144⟩) ⟨152, 8, 152, 144⟩)
    .nil))
def f_law_told : Fn := ⟨"_law_told", 2, 11, runB 4 (Told b_law_told.den)⟩
theorem w_law_told : b_law_told.wf tN (defScope st_law_told) = true := by decide +kernel
theorem acts_ok (A : At G) : ∀ c ∈ acts, FnD G c ∧ c.lvl ≤ 10 := by
  intro c hc
  simp only [acts, List.mem_cons, List.not_mem_nil, or_false] at hc
  rcases hc with rfl | rfl | rfl | rfl | rfl | rfl
  · exact ⟨d_law_made A, by decide⟩
  · exact ⟨d_law_over A, by decide⟩
  · exact ⟨d_law_act A, by decide⟩
  · exact ⟨d_as_ratio A, by decide⟩
  · exact ⟨d_ratio_text A, by decide⟩
  · exact ⟨d_read_ratio A, by decide⟩
theorem o_law_told (A : At G) : b_law_told.Ok G 10 := ⟨⟨⟨⟨bLen_ok, trivial, trivial⟩, oGt_ok, trivial⟩, ⟨⟨trivial, ⟨⟨⟨⟨bLen_ok, trivial, trivial⟩, (oEq_ok eq_none), trivial⟩, ⟨acts_ok A, ⟨trivial, trivial⟩, ⟨⟨trivial, trivial⟩, ⟨⟨trivial, trivial⟩, ⟨⟨trivial, trivial⟩, trivial⟩⟩⟩⟩, ⟨acts_ok A, ⟨trivial, trivial⟩, ⟨⟨trivial, trivial⟩, ⟨⟨trivial, trivial⟩, ⟨⟨trivial, trivial⟩, ⟨⟨trivial, trivial⟩, trivial⟩⟩⟩⟩⟩⟩, trivial⟩⟩,
    trivial⟩, trivial⟩,
    ⟨⟨trivial, ⟨⟨⟨⟨bLen_ok, trivial, trivial⟩, (oEq_ok eq_none), trivial⟩, ⟨acts_ok A, ⟨trivial, trivial⟩, trivial⟩, ⟨⟨⟨bLen_ok, trivial, trivial⟩, (oEq_ok eq_none), trivial⟩, ⟨acts_ok A, ⟨trivial, trivial⟩, ⟨⟨trivial, trivial⟩, trivial⟩⟩, ⟨acts_ok A, ⟨trivial, trivial⟩, ⟨⟨trivial, trivial⟩, ⟨⟨trivial, trivial⟩, trivial⟩⟩⟩⟩⟩, trivial⟩⟩,
    trivial⟩⟩
theorem t_law_told : ToldT st_law_told b_law_told := ⟨⟨fun i => ([⟨153, 11, 153, 20⟩, ⟨154, 16, 154, 27⟩, ⟨154, 29, 154, 33⟩, ⟨154, 15, 154, 34⟩, ⟨154, 8, 154, 34⟩, ⟨153, 4, 154, 34⟩, ⟨155, 11, 155, 17⟩, ⟨156, 33, 156, 46⟩, ⟨156, 47, 156, 52⟩, ⟨156, 47, 156, 55⟩, ⟨156, 33, 156, 56⟩, ⟨156, 16, 156, 22⟩, ⟨156, 24, 156, 28⟩, ⟨156, 15, 156, 29⟩, ⟨156, 63, 156, 71⟩, ⟨156, 73, 156, 77⟩, ⟨156, 62, 156, 78⟩, ⟨156, 15, 156, 78⟩, ⟨156, 8, 156, 78⟩, ⟨155, 4, 156, 78⟩, ⟨157, 11, 157, 18⟩, ⟨158, 16, 158, 25⟩, ⟨158, 27, 158, 34⟩, ⟨158, 27, 158, 41⟩, ⟨158, 15, 158, 42⟩, ⟨158, 8, 158, 42⟩, ⟨157, 4, 158, 42⟩, ⟨149, 4, 158, 42⟩] : List Pos).getD i.val ⟨0, 0, 0, 0⟩, fun i => ([0, 0, 0, 0, 0, 0, 0, 0, 0, 0, 0] : List Nat).getD i.val 0, by kernel_rfl⟩, C8.fnScope_by (by decide +kernel), by decide +kernel, by decide +kernel, by decide +kernel, by decide +kernel, by decide +kernel⟩
theorem d_law_told (A : At G) : FnD G f_law_told := by
  obtain ⟨f, fd, F, hm, hk, hb⟩ := A.d_law_told.ex
  exact ⟨f, fd, _, told_sound t_law_told (told_f A) A.bl F (by decide) w_law_told (o_law_told A), hm, hk, hb⟩
/-! ### _law_all_malformed -/
theorem s_law_all_malformed : FnScope ["tried", "act", "given"] ["tried"] (defScope st_law_all_malformed) := C8.fnScope_by (by decide +kernel)
def b_law_all_malformed : Sb := (.cons (.ret (.bi bAll (.of (.comp (.cmp (.call f_law_told (.var 1 "act" ⟨160, 26, 160, 29⟩) (.cons (.var 2 "given" ⟨160, 31, 160, 36⟩) .nil) ⟨160, 16, 160, 25⟩ ⟨160, 16, 160, 37⟩) (oEq false) (.tup (.cons (.str "malformed" 0 ⟨160, 42, 160, 53⟩) (.cons (.non 0 ⟨160, 55, 160, 59⟩) .nil)) 0 ⟨160, 41, 160, 60⟩) ⟨160, 16, 160, 60⟩) (.tp (.cons (.nm 1 "act" ⟨160, 65, 160, 68⟩) (.cons (.nm 2 "given" ⟨160, 70, 160, 75⟩) .nil)) 0 ⟨160, 65, 160, 75⟩) (.seq (.of (.var 0 "tried" ⟨160, 79, 160, 84⟩))) .no ⟨.function, [(".0", .local), ("act", .local), ("given", .local), ("_law_told", .globalImplicit)], false, false, []⟩ [("act", 1), ("given", 2)] ⟨160, 15, 160, 85⟩)) .nil ⟨160, 11, 160, 14⟩ ⟨160, 11, 160, 86⟩) ⟨160, 4, 160, 86⟩)
    .nil)
def f_law_all_malformed : Fn := ⟨"_law_all_malformed", 1, 12, runB 3 b_law_all_malformed.den⟩
theorem e_law_all_malformed : defBody st_law_all_malformed = b_law_all_malformed.ast := by kernel_rfl
theorem w_law_all_malformed : b_law_all_malformed.wf ["tried", "act", "given"] (defScope st_law_all_malformed) = true := by decide +kernel
theorem o_law_all_malformed (A : At G) : b_law_all_malformed.Ok G 11 := ⟨⟨bAll_ok, ⟨trivial, trivial, ⟨⟨⟨d_law_told A, by decide⟩, trivial, ⟨trivial, trivial⟩⟩, (oEq_ok eq_none), ⟨trivial, ⟨trivial, trivial⟩⟩⟩⟩, trivial⟩,
    trivial⟩
theorem d_law_all_malformed (A : At G) : FnD G f_law_all_malformed := by
  have h := fnD_of (n := 1) A.d_law_all_malformed A.bl b_law_all_malformed e_law_all_malformed s_law_all_malformed rfl (by decide) w_law_all_malformed (o_law_all_malformed A)
  exact h
/-! ### Ratio.__neg__ -/
theorem s_m_neg : FnScope ["self"] ["self"] (defScope st_m_neg) := C8.fnScope_by (by decide +kernel)
def b_m_neg : Sb := (.cons (.ret (.mk k_Ratio2 [] (.un (oNeg none) (.att (.var 0 "self" ⟨54, 22, 54, 26⟩) 0 0 "n" ⟨54, 22, 54, 28⟩) ⟨54, 21, 54, 28⟩) (.cons (.att (.var 0 "self" ⟨54, 30, 54, 34⟩) 0 1 "d" ⟨54, 30, 54, 36⟩) .nil) ⟨54, 15, 54, 20⟩ ⟨54, 15, 54, 37⟩) ⟨54, 8, 54, 37⟩)
    .nil)
def m_neg : Mt := ⟨0, "__neg__", 1, 5, runB 1 b_m_neg.den⟩
theorem e_m_neg : defBody st_m_neg = b_m_neg.ast := by kernel_rfl
theorem w_m_neg : b_m_neg.wf ["self"] (defScope st_m_neg) = true := by decide +kernel
theorem o_m_neg (A : At G) : b_m_neg.Ok G 4 := ⟨⟨⟨dk_Ratio2 A, by decide⟩, ⟨(oNeg_ok neg_none), ⟨A.at_n, trivial⟩⟩, ⟨⟨A.at_d, trivial⟩, trivial⟩⟩,
    trivial⟩
theorem d_m_neg (A : At G) : MtD G m_neg := by
  have h := mtD_of (n := 1) A.m_neg A.bl A.cl0 (by decide +kernel) b_m_neg e_m_neg s_m_neg rfl (by decide) w_m_neg (o_m_neg A)
  exact h
theorem o_neg (A : At G) : OwnN G m_neg := ⟨d_m_neg A, rfl, rfl⟩
/-! ### _law_common -/
theorem s_law_common : FnScope ["a", "b"] ["a", "b"] (defScope st_law_common) := C8.fnScope_by (by decide +kernel)
def b_law_common : Sb := (.cons (.par2 0 "a" ⟨162, 4, 162, 5⟩ 1 "b" ⟨162, 7, 162, 8⟩ 0 ⟨162, 4, 162, 8⟩ (.bi bAbs (.of (.var 0 "a" ⟨162, 16, 162, 17⟩)) .nil ⟨162, 12, 162, 15⟩ ⟨162, 12, 162, 18⟩) (.bi bAbs (.of (.var 1 "b" ⟨162, 24, 162, 25⟩)) .nil ⟨162, 20, 162, 23⟩ ⟨162, 20, 162, 26⟩) 0 ⟨162, 11, 162, 27⟩ ⟨162, 4, 162, 27⟩)
    (.cons (.whl (natAt 1) (.cmp (.var 1 "b" ⟨163, 10, 163, 11⟩) oGt (.int 0 0 ⟨163, 14, 163, 15⟩) ⟨163, 10, 163, 15⟩) (.cons (.par2 0 "a" ⟨164, 8, 164, 9⟩ 1 "b" ⟨164, 11, 164, 12⟩ 0 ⟨164, 8, 164, 12⟩ (.var 1 "b" ⟨164, 16, 164, 17⟩) (.bin (.bi bInt (.of (.var 0 "a" ⟨164, 23, 164, 24⟩)) .nil ⟨164, 19, 164, 22⟩ ⟨164, 19, 164, 25⟩) oMod (.var 1 "b" ⟨164, 28, 164, 29⟩) ⟨164, 19, 164, 29⟩) 0 ⟨164, 15, 164, 30⟩ ⟨164, 8, 164, 30⟩)
    .nil) ⟨163, 4, 164, 30⟩)
    (.cons (.ret (.var 0 "a" ⟨165, 11, 165, 12⟩) ⟨165, 4, 165, 12⟩)
    .nil)))
def f_law_common : Fn := ⟨"_law_common", 2, 1, runB 2 b_law_common.den⟩
theorem e_law_common : defBody st_law_common = b_law_common.ast := by kernel_rfl
theorem w_law_common : b_law_common.wf ["a", "b"] (defScope st_law_common) = true := by decide +kernel
theorem o_law_common (A : At G) : b_law_common.Ok G 0 := ⟨⟨⟨bAbs_ok, trivial, trivial⟩, ⟨bAbs_ok, trivial, trivial⟩⟩,
    ⟨⟨⟨trivial, oGt_ok, trivial⟩, ⟨⟨trivial, ⟨⟨(bInt_ok A.dig), trivial, trivial⟩, oMod_ok, trivial⟩⟩,
    trivial⟩⟩,
    ⟨trivial,
    trivial⟩⟩⟩
theorem d_law_common (A : At G) : FnD G f_law_common := by
  have h := fnD_of (n := 2) A.d_law_common A.bl b_law_common e_law_common s_law_common rfl (by decide) w_law_common (o_law_common A)
  exact h
/-! ### _law_plain -/
theorem s_law_plain : FnScope ["n", "d", "g"] ["n", "d"] (defScope st_law_plain) := C8.fnScope_by (by decide +kernel)
def b_law_plain : Sb := (.cons (.asg (.nm 2 "g" ⟨167, 4, 167, 5⟩) (.call f_law_common (.var 0 "n" ⟨167, 20, 167, 21⟩) (.cons (.var 1 "d" ⟨167, 23, 167, 24⟩) .nil) ⟨167, 8, 167, 19⟩ ⟨167, 8, 167, 25⟩) ⟨167, 4, 167, 25⟩)
    (.cons (.ret (.ite (.cmp (.var 1 "d" ⟨168, 31, 168, 32⟩) oGt (.int 0 0 ⟨168, 35, 168, 36⟩) ⟨168, 31, 168, 36⟩) (.tup (.cons (.bin (.var 0 "n" ⟨168, 12, 168, 13⟩) oDiv (.var 2 "g" ⟨168, 17, 168, 18⟩) ⟨168, 12, 168, 18⟩) (.cons (.bin (.var 1 "d" ⟨168, 20, 168, 21⟩) oDiv (.var 2 "g" ⟨168, 25, 168, 26⟩) ⟨168, 20, 168, 26⟩) .nil)) 0 ⟨168, 11, 168, 27⟩) (.tup (.cons (.bin (.un (oNeg none) (.var 0 "n" ⟨168, 44, 168, 45⟩) ⟨168, 43, 168, 45⟩) oDiv (.var 2 "g" ⟨168, 49, 168, 50⟩) ⟨168, 43, 168, 50⟩) (.cons (.bin (.un (oNeg none) (.var 1 "d" ⟨168, 53, 168, 54⟩) ⟨168, 52, 168, 54⟩) oDiv (.var 2 "g" ⟨168, 58, 168, 59⟩) ⟨168, 52, 168, 59⟩) .nil)) 0 ⟨168, 42, 168, 60⟩) ⟨168, 11, 168, 60⟩) ⟨168, 4, 168, 60⟩)
    .nil))
def f_law_plain : Fn := ⟨"_law_plain", 2, 2, runB 3 b_law_plain.den⟩
theorem e_law_plain : defBody st_law_plain = b_law_plain.ast := by kernel_rfl
theorem w_law_plain : b_law_plain.wf ["n", "d", "g"] (defScope st_law_plain) = true := by decide +kernel
theorem o_law_plain (A : At G) : b_law_plain.Ok G 1 := ⟨⟨⟨d_law_common A, by decide⟩, trivial, ⟨trivial, trivial⟩⟩,
    ⟨⟨⟨trivial, oGt_ok, trivial⟩, ⟨⟨trivial, oDiv_ok, trivial⟩, ⟨⟨trivial, oDiv_ok, trivial⟩, trivial⟩⟩, ⟨⟨⟨(oNeg_ok neg_none), trivial⟩, oDiv_ok, trivial⟩, ⟨⟨⟨(oNeg_ok neg_none), trivial⟩, oDiv_ok, trivial⟩, trivial⟩⟩⟩,
    trivial⟩⟩
theorem d_law_plain (A : At G) : FnD G f_law_plain := by
  have h := fnD_of (n := 2) A.d_law_plain A.bl b_law_plain e_law_plain s_law_plain rfl (by decide) w_law_plain (o_law_plain A)
  exact h
/-! ### _law_is_whole -/
theorem s_law_is_whole : FnScope ["value"] ["value"] (defScope st_law_is_whole) := C8.fnScope_by (by decide +kernel)
def b_law_is_whole : Sb := (.cons (.ret (.bop .And (.isi (.var 0 "value" ⟨135, 22, 135, 27⟩) (isTy "int" ⟨135, 29, 135, 32⟩ cs) ⟨135, 11, 135, 21⟩ ⟨135, 11, 135, 33⟩) (.cons (.no (.isi (.var 0 "value" ⟨135, 54, 135, 59⟩) (isTy "bool" ⟨135, 61, 135, 65⟩ cs) ⟨135, 43, 135, 53⟩ ⟨135, 43, 135, 66⟩) ⟨135, 39, 135, 66⟩) .nil) ⟨135, 11, 135, 67⟩) ⟨135, 4, 135, 67⟩)
    .nil)
def f_law_is_whole : Fn := ⟨"_law_is_whole", 1, 1, runB 1 b_law_is_whole.den⟩
theorem e_law_is_whole : defBody st_law_is_whole = b_law_is_whole.ast := by kernel_rfl
theorem w_law_is_whole : b_law_is_whole.wf ["value"] (defScope st_law_is_whole) = true := by decide +kernel
theorem o_law_is_whole (A : At G) : b_law_is_whole.Ok G 0 := ⟨⟨⟨trivial, isTy_ok tyF_int A.cls⟩, ⟨⟨trivial, isTy_ok tyF_bool A.cls⟩, trivial⟩⟩,
    trivial⟩
theorem d_law_is_whole (A : At G) : FnD G f_law_is_whole := by
  have h := fnD_of (n := 1) A.d_law_is_whole A.bl b_law_is_whole e_law_is_whole s_law_is_whole rfl (by decide) w_law_is_whole (o_law_is_whole A)
  exact h
/-! ### _law_same -/
theorem s_law_same : FnScope ["one", "two", "k"] ["one", "two"] (defScope st_law_same) := C8.fnScope_by (by decide +kernel)
def b_law_same (r : Fn) : Sb := (.cons (.ifs (.isi (.var 1 "two" ⟨137, 18, 137, 21⟩) (isTy "bool" ⟨137, 23, 137, 27⟩ cs) ⟨137, 7, 137, 17⟩ ⟨137, 7, 137, 28⟩) (.cons (.ret (.bop .And (.isi (.var 0 "one" ⟨138, 26, 138, 29⟩) (isTy "bool" ⟨138, 31, 138, 35⟩ cs) ⟨138, 15, 138, 25⟩ ⟨138, 15, 138, 36⟩) (.cons (.cmp (.var 0 "one" ⟨138, 41, 138, 44⟩) (oEq false) (.var 1 "two" ⟨138, 48, 138, 51⟩) ⟨138, 41, 138, 51⟩) .nil) ⟨138, 15, 138, 51⟩) ⟨138, 8, 138, 51⟩)
    .nil) .nil ⟨137, 4, 138, 51⟩)
    (.cons (.ifs (.isi (.var 1 "two" ⟨139, 18, 139, 21⟩) (isTy "tuple" ⟨139, 23, 139, 28⟩ cs) ⟨139, 7, 139, 17⟩ ⟨139, 7, 139, 29⟩) (.cons (.ret (.bop .And (.isi (.var 0 "one" ⟨140, 26, 140, 29⟩) (isTy "tuple" ⟨140, 31, 140, 36⟩ cs) ⟨140, 15, 140, 25⟩ ⟨140, 15, 140, 37⟩) (.cons (.cmp (.bi bLen (.of (.var 0 "one" ⟨140, 46, 140, 49⟩)) .nil ⟨140, 42, 140, 45⟩ ⟨140, 42, 140, 50⟩) (oEq false) (.bi bLen (.of (.var 1 "two" ⟨140, 58, 140, 61⟩)) .nil ⟨140, 54, 140, 57⟩ ⟨140, 54, 140, 62⟩) ⟨140, 42, 140, 62⟩) (.cons (.bi bAll (.of (.comp (.call r (.ix (.of (.var 0 "one" ⟨140, 82, 140, 85⟩)) (.var 2 "k" ⟨140, 86, 140, 87⟩) ⟨140, 82, 140, 88⟩) (.cons (.ix (.of (.var 1 "two" ⟨140, 90, 140, 93⟩)) (.var 2 "k" ⟨140, 94, 140, 95⟩) ⟨140, 90, 140, 96⟩) .nil) ⟨140, 72, 140, 81⟩ ⟨140, 72, 140, 97⟩) (.nm 2 "k" ⟨140, 102, 140, 103⟩) (.rg1 (.bi bLen (.of (.var 1 "two" ⟨140, 117, 140, 120⟩)) .nil ⟨140, 113, 140, 116⟩ ⟨140, 113, 140, 121⟩) ⟨140, 107, 140, 112⟩ ⟨140, 107, 140, 122⟩) .no ⟨.function, [(".0", .local), ("k", .local), ("_law_same", .globalImplicit), ("one", .free), ("two", .free)], false, false, []⟩ [("k", 2)] ⟨140, 71, 140, 123⟩)) .nil ⟨140, 67, 140, 70⟩ ⟨140, 67, 140, 124⟩) .nil)) ⟨140, 15, 140, 124⟩) ⟨140, 8, 140, 124⟩)
    .nil) .nil ⟨139, 4, 140, 124⟩)
    (.cons (.ifs (.isi (.var 1 "two" ⟨141, 18, 141, 21⟩) (isTy "list" ⟨141, 23, 141, 27⟩ cs) ⟨141, 7, 141, 17⟩ ⟨141, 7, 141, 28⟩) (.cons (.ret (.bop .And (.isi (.var 0 "one" ⟨142, 26, 142, 29⟩) (isTy "tuple" ⟨142, 31, 142, 36⟩ cs) ⟨142, 15, 142, 25⟩ ⟨142, 15, 142, 37⟩) (.cons (.call r (.var 0 "one" ⟨142, 52, 142, 55⟩) (.cons (.bi bTuple (.of (.var 1 "two" ⟨142, 63, 142, 66⟩)) .nil ⟨142, 57, 142, 62⟩ ⟨142, 57, 142, 67⟩) .nil) ⟨142, 42, 142, 51⟩ ⟨142, 42, 142, 68⟩) .nil) ⟨142, 15, 142, 68⟩) ⟨142, 8, 142, 68⟩)
    .nil) .nil ⟨141, 4, 142, 68⟩)
    (.cons (.ifs (.isi (.var 1 "two" ⟨143, 18, 143, 21⟩) (isTy "str" ⟨143, 23, 143, 26⟩ cs) ⟨143, 7, 143, 17⟩ ⟨143, 7, 143, 27⟩) (.cons (.ret (.bop .And (.isi (.var 0 "one" ⟨144, 26, 144, 29⟩) (isTy "str" ⟨144, 31, 144, 34⟩ cs) ⟨144, 15, 144, 25⟩ ⟨144, 15, 144, 35⟩) (.cons (.cmp (.var 0 "one" ⟨144, 40, 144, 43⟩) (oEq false) (.var 1 "two" ⟨144, 47, 144, 50⟩) ⟨144, 40, 144, 50⟩) .nil) ⟨144, 15, 144, 50⟩) ⟨144, 8, 144, 50⟩)
    .nil) .nil ⟨143, 4, 144, 50⟩)
    (.cons (.ifs (.cmp (.var 1 "two" ⟨145, 7, 145, 10⟩) oIs (.non 0 ⟨145, 14, 145, 18⟩) ⟨145, 7, 145, 18⟩) (.cons (.ret (.cmp (.var 0 "one" ⟨146, 15, 146, 18⟩) oIs (.non 0 ⟨146, 22, 146, 26⟩) ⟨146, 15, 146, 26⟩) ⟨146, 8, 146, 26⟩)
    .nil) .nil ⟨145, 4, 146, 26⟩)
    (.cons (.ret (.bop .And (.call f_law_is_whole (.var 0 "one" ⟨147, 25, 147, 28⟩) .nil ⟨147, 11, 147, 24⟩ ⟨147, 11, 147, 29⟩) (.cons (.cmp (.var 0 "one" ⟨147, 34, 147, 37⟩) (oEq false) (.var 1 "two" ⟨147, 41, 147, 44⟩) ⟨147, 34, 147, 44⟩) .nil) ⟨147, 11, 147, 44⟩) ⟨147, 4, 147, 44⟩)
    .nil))))))
/-- to be called m deep -/
def g_law_same : Nat → List D → M D
  | 0 => fun _ => bad
  | m + 1 => runB 3 (b_law_same ⟨"_law_same", 2, m + 1, g_law_same m⟩).den
def f_law_same : Fn := ⟨"_law_same", 2, 7, g_law_same 6⟩
theorem e_law_same (r : Fn) (h : r.name = "_law_same") : defBody st_law_same = (b_law_same r).ast := by
  obtain ⟨x, n, l, g⟩ := r
  cases h
  kernel_rfl
theorem w_law_same (m : Nat) : (b_law_same ⟨"_law_same", 2, m + 1, g_law_same m⟩).wf ["one", "two", "k"] (defScope st_law_same) = true := by
  have h : ∀ g : List D → M D, ∀ l, (b_law_same ⟨"_law_same", 2, l, g⟩).wf ["one", "two", "k"] (defScope st_law_same) = true := fun g l => by first | rfl | decide +kernel
  exact h _ _
theorem o_law_same (A : At G) (m : Nat) (hrec : FnD G ⟨"_law_same", 2, m + 1, g_law_same m⟩) : (b_law_same ⟨"_law_same", 2, m + 1, g_law_same m⟩).Ok G (m + 1) := ⟨⟨⟨trivial, isTy_ok tyF_bool A.cls⟩, ⟨⟨⟨trivial, isTy_ok tyF_bool A.cls⟩, ⟨⟨trivial, (oEq_ok eq_none), trivial⟩, trivial⟩⟩,
    trivial⟩, trivial⟩,
    ⟨⟨⟨trivial, isTy_ok tyF_tuple A.cls⟩, ⟨⟨⟨trivial, isTy_ok tyF_tuple A.cls⟩, ⟨⟨⟨bLen_ok, trivial, trivial⟩, (oEq_ok eq_none), ⟨bLen_ok, trivial, trivial⟩⟩, ⟨⟨bAll_ok, ⟨⟨bLen_ok, trivial, trivial⟩, trivial, ⟨⟨hrec, by exact Nat.le_refl _⟩, ⟨trivial, trivial⟩, ⟨⟨trivial, trivial⟩, trivial⟩⟩⟩, trivial⟩, trivial⟩⟩⟩,
    trivial⟩, trivial⟩,
    ⟨⟨⟨trivial, isTy_ok tyF_list A.cls⟩, ⟨⟨⟨trivial, isTy_ok tyF_tuple A.cls⟩, ⟨⟨⟨hrec, by exact Nat.le_refl _⟩, trivial, ⟨⟨bTuple_ok, trivial, trivial⟩, trivial⟩⟩, trivial⟩⟩,
    trivial⟩, trivial⟩,
    ⟨⟨⟨trivial, isTy_ok tyF_str A.cls⟩, ⟨⟨⟨trivial, isTy_ok tyF_str A.cls⟩, ⟨⟨trivial, (oEq_ok eq_none), trivial⟩, trivial⟩⟩,
    trivial⟩, trivial⟩,
    ⟨⟨⟨trivial, oIs_ok, trivial⟩, ⟨⟨trivial, oIs_ok, trivial⟩,
    trivial⟩, trivial⟩,
    ⟨⟨⟨⟨d_law_is_whole A, by first | decide | (show _ ≤ m + 1; exact Nat.le_trans (by decide) (Nat.le_add_left 1 m))⟩, trivial, trivial⟩, ⟨⟨trivial, (oEq_ok eq_none), trivial⟩, trivial⟩⟩,
    trivial⟩⟩⟩⟩⟩⟩
theorem dr_law_same (A : At G) : ∀ m, FnD G ⟨"_law_same", 2, m + 1, g_law_same m⟩
  | 0 => fnD_bad A.d_law_same rfl
  | m + 1 => by
    have h := fnD_of (n := 2) A.d_law_same A.bl (b_law_same ⟨"_law_same", 2, m + 1, g_law_same m⟩) (e_law_same _ rfl) s_law_same rfl (by decide) (w_law_same m) (o_law_same A m (dr_law_same A m))
    rw [show m + 1 + 1 = (m + 1) + 1 by omega]
    exact h
theorem d_law_same (A : At G) : FnD G f_law_same := dr_law_same A 6
/-! ### _law_is -/
theorem s_law_is : FnScope ["value", "n", "d"] ["value", "n", "d"] (defScope st_law_is) := C8.fnScope_by (by decide +kernel)
def b_law_is : Sb := (.cons (.ret (.bop .And (.isi (.var 0 "value" ⟨173, 22, 173, 27⟩) (isIc 0 "Ratio" ⟨173, 29, 173, 34⟩ cs) ⟨173, 11, 173, 21⟩ ⟨173, 11, 173, 35⟩) (.cons (.call f_law_same (.tup (.cons (.att (.var 0 "value" ⟨173, 51, 173, 56⟩) 0 0 "n" ⟨173, 51, 173, 58⟩) (.cons (.att (.var 0 "value" ⟨173, 60, 173, 65⟩) 0 1 "d" ⟨173, 60, 173, 67⟩) .nil)) 0 ⟨173, 50, 173, 68⟩) (.cons (.call f_law_plain (.var 1 "n" ⟨173, 81, 173, 82⟩) (.cons (.var 2 "d" ⟨173, 84, 173, 85⟩) .nil) ⟨173, 70, 173, 80⟩ ⟨173, 70, 173, 86⟩) .nil) ⟨173, 40, 173, 49⟩ ⟨173, 40, 173, 87⟩) .nil) ⟨173, 11, 173, 87⟩) ⟨173, 4, 173, 87⟩)
    .nil)
def f_law_is : Fn := ⟨"_law_is", 3, 8, runB 3 b_law_is.den⟩
theorem e_law_is : defBody st_law_is = b_law_is.ast := by kernel_rfl
theorem w_law_is : b_law_is.wf ["value", "n", "d"] (defScope st_law_is) = true := by decide +kernel
theorem o_law_is (A : At G) : b_law_is.Ok G 7 := ⟨⟨⟨trivial, isIc_ok A.ic0 A.cls⟩, ⟨⟨⟨d_law_same A, by decide⟩, ⟨⟨A.at_n, trivial⟩, ⟨⟨A.at_d, trivial⟩, trivial⟩⟩, ⟨⟨⟨d_law_plain A, by decide⟩, trivial, ⟨trivial, trivial⟩⟩, trivial⟩⟩, trivial⟩⟩,
    trivial⟩
theorem d_law_is (A : At G) : FnD G f_law_is := by
  have h := fnD_of (n := 3) A.d_law_is A.bl b_law_is e_law_is s_law_is rfl (by decide) w_law_is (o_law_is A)
  exact h
/-! ### _law_reads_itself -/
theorem s_law_reads_itself : FnScope ["text", "told"] ["text"] (defScope st_law_reads_itself) := C8.fnScope_by (by decide +kernel)
def b_law_reads_itself : Sb := (.cons (.asg (.nm 1 "told" ⟨200, 4, 200, 8⟩) (.call f_law_told (.glo "read_ratio" (.fn "read_ratio") ⟨200, 21, 200, 31⟩) (.cons (.tup (.cons (.var 0 "text" ⟨200, 34, 200, 38⟩) .nil) 0 ⟨200, 33, 200, 40⟩) .nil) ⟨200, 11, 200, 20⟩ ⟨200, 11, 200, 41⟩) ⟨200, 4, 200, 41⟩)
    (.cons (.ret (.bop .Or (.cmp (.var 1 "told" ⟨201, 11, 201, 15⟩) (oEq true) (.tup (.cons (.str "text" 0 ⟨201, 20, 201, 26⟩) (.cons (.non 0 ⟨201, 28, 201, 32⟩) .nil)) 0 ⟨201, 19, 201, 33⟩) ⟨201, 11, 201, 33⟩) (.cons (.bop .And (.cmp (.ix (.of (.var 1 "told" ⟨201, 38, 201, 42⟩)) (.int 0 0 ⟨201, 43, 201, 44⟩) ⟨201, 38, 201, 45⟩) (oEq true) (.str "told" 0 ⟨201, 49, 201, 55⟩) ⟨201, 38, 201, 55⟩) (.cons (.isi (.ix (.of (.var 1 "told" ⟨201, 71, 201, 75⟩)) (.int 1 0 ⟨201, 76, 201, 77⟩) ⟨201, 71, 201, 78⟩) (isIc 0 "Ratio" ⟨201, 80, 201, 85⟩ cs) ⟨201, 60, 201, 70⟩ ⟨201, 60, 201, 86⟩) (.cons (.cmp (.call f_ratio_text (.ix (.of (.var 1 "told" ⟨201, 103, 201, 107⟩)) (.int 1 0 ⟨201, 108, 201, 109⟩) ⟨201, 103, 201, 110⟩) .nil ⟨201, 92, 201, 102⟩ ⟨201, 92, 201, 111⟩) (oEq true) (.var 0 "text" ⟨201, 115, 201, 119⟩) ⟨201, 92, 201, 119⟩) .nil)) ⟨201, 38, 201, 120⟩) .nil) ⟨201, 11, 201, 121⟩) ⟨201, 4, 201, 121⟩)
    .nil))
def f_law_reads_itself : Fn := ⟨"_law_reads_itself", 1, 12, runB 2 b_law_reads_itself.den⟩
theorem e_law_reads_itself : defBody st_law_reads_itself = b_law_reads_itself.ast := by kernel_rfl
theorem w_law_reads_itself : b_law_reads_itself.wf ["text", "told"] (defScope st_law_reads_itself) = true := by decide +kernel
theorem o_law_reads_itself (A : At G) : b_law_reads_itself.Ok G 11 := ⟨⟨⟨d_law_told A, by decide⟩, (glo_fn A.d_read_ratio), ⟨⟨trivial, trivial⟩, trivial⟩⟩,
    ⟨⟨⟨trivial, (oEq_ok (eq_own (o_eq A) (by decide))), ⟨trivial, ⟨trivial, trivial⟩⟩⟩, ⟨⟨⟨⟨trivial, trivial⟩, (oEq_ok (eq_own (o_eq A) (by decide))), trivial⟩, ⟨⟨⟨trivial, trivial⟩, isIc_ok A.ic0 A.cls⟩, ⟨⟨⟨⟨d_ratio_text A, by decide⟩, ⟨trivial, trivial⟩, trivial⟩, (oEq_ok (eq_own (o_eq A) (by decide))), trivial⟩, trivial⟩⟩⟩, trivial⟩⟩,
    trivial⟩⟩
theorem d_law_reads_itself (A : At G) : FnD G f_law_reads_itself := by
  have h := fnD_of (n := 1) A.d_law_reads_itself A.bl b_law_reads_itself e_law_reads_itself s_law_reads_itself rfl (by decide) w_law_reads_itself (o_law_reads_itself A)
  exact h
/-! ### _law_take -/
theorem s_law_take : FnScope ["state", "m", "value"] ["state", "m"] (defScope st_law_take) := C8.fnScope_by (by decide +kernel)
def b_law_take : Sb := (.cons (.ifs (.cmp (.ix (.of (.var 0 "state" ⟨126, 7, 126, 12⟩)) (.int 0 0 ⟨126, 13, 126, 14⟩) ⟨126, 7, 126, 15⟩) oGt (.int 0 0 ⟨126, 18, 126, 19⟩) ⟨126, 7, 126, 19⟩) (.cons (.asg (.nm 2 "value" ⟨127, 8, 127, 13⟩) (.bin (.bi bInt (.of (.ix (.of (.var 0 "state" ⟨127, 20, 127, 25⟩)) (.int 0 0 ⟨127, 26, 127, 27⟩) ⟨127, 20, 127, 28⟩)) .nil ⟨127, 16, 127, 19⟩ ⟨127, 16, 127, 29⟩) oMod (.var 1 "m" ⟨127, 32, 127, 33⟩) ⟨127, 16, 127, 33⟩) ⟨127, 8, 127, 33⟩)
    (.cons (.setst (.var 0 "state" ⟨128, 8, 128, 13⟩) (.int 0 0 ⟨128, 14, 128, 15⟩) ⟨128, 8, 128, 16⟩ (.bin (.ix (.of (.var 0 "state" ⟨128, 19, 128, 24⟩)) (.int 0 0 ⟨128, 25, 128, 26⟩) ⟨128, 19, 128, 27⟩) oDiv (.var 1 "m" ⟨128, 31, 128, 32⟩) ⟨128, 19, 128, 32⟩) ⟨128, 8, 128, 32⟩)
    (.cons (.ret (.var 2 "value" ⟨129, 15, 129, 20⟩) ⟨129, 8, 129, 20⟩)
    .nil))) .nil ⟨126, 4, 129, 20⟩)
    (.cons (.setst (.var 0 "state" ⟨130, 4, 130, 9⟩) (.int 1 0 ⟨130, 10, 130, 11⟩) ⟨130, 4, 130, 12⟩ (.bin (.bi bInt (.of (.bin (.bin (.ix (.of (.var 0 "state" ⟨130, 19, 130, 24⟩)) (.int 1 0 ⟨130, 25, 130, 26⟩) ⟨130, 19, 130, 27⟩) (oMul none) (.int 48271 0 ⟨130, 30, 130, 35⟩) ⟨130, 19, 130, 35⟩) (oAdd none) (.int 11 0 ⟨130, 38, 130, 40⟩) ⟨130, 19, 130, 40⟩)) .nil ⟨130, 15, 130, 18⟩ ⟨130, 15, 130, 41⟩) oMod (.int 2147483647 0 ⟨130, 44, 130, 54⟩) ⟨130, 15, 130, 54⟩) ⟨130, 4, 130, 54⟩)
    (.cons (.ret (.bin (.bi bInt (.of (.bin (.ix (.of (.var 0 "state" ⟨131, 15, 131, 20⟩)) (.int 1 0 ⟨131, 21, 131, 22⟩) ⟨131, 15, 131, 23⟩) oDiv (.int 7 0 ⟨131, 27, 131, 28⟩) ⟨131, 15, 131, 28⟩)) .nil ⟨131, 11, 131, 14⟩ ⟨131, 11, 131, 29⟩) oMod (.var 1 "m" ⟨131, 32, 131, 33⟩) ⟨131, 11, 131, 33⟩) ⟨131, 4, 131, 33⟩)
    .nil)))
def f_law_take : Fn := ⟨"_law_take", 2, 1, runB 3 b_law_take.den⟩
theorem e_law_take : defBody st_law_take = b_law_take.ast := by kernel_rfl
theorem w_law_take : b_law_take.wf ["state", "m", "value"] (defScope st_law_take) = true := by decide +kernel
theorem o_law_take (A : At G) : b_law_take.Ok G 0 := ⟨⟨⟨⟨trivial, trivial⟩, oGt_ok, trivial⟩, ⟨⟨⟨(bInt_ok A.dig), ⟨trivial, trivial⟩, trivial⟩, oMod_ok, trivial⟩,
    ⟨⟨trivial, trivial, ⟨⟨trivial, trivial⟩, oDiv_ok, trivial⟩⟩,
    ⟨trivial,
    trivial⟩⟩⟩, trivial⟩,
    ⟨⟨trivial, trivial, ⟨⟨(bInt_ok A.dig), ⟨⟨⟨trivial, trivial⟩, (oMul_ok own_none), trivial⟩, (oAdd_ok own_none), trivial⟩, trivial⟩, oMod_ok, trivial⟩⟩,
    ⟨⟨⟨(bInt_ok A.dig), ⟨⟨trivial, trivial⟩, oDiv_ok, trivial⟩, trivial⟩, oMod_ok, trivial⟩,
    trivial⟩⟩⟩
theorem d_law_take (A : At G) : FnD G f_law_take := by
  have h := fnD_of (n := 2) A.d_law_take A.bl b_law_take e_law_take s_law_take rfl (by decide) w_law_take (o_law_take A)
  exact h
/-! ### Ratio.is_whole -/
theorem s_m_is_whole : FnScope ["self"] ["self"] (defScope st_m_is_whole) := C8.fnScope_by (by decide +kernel)
def b_m_is_whole : Sb := (.cons (.ret (.cmp (.att (.var 0 "self" ⟨71, 15, 71, 19⟩) 0 1 "d" ⟨71, 15, 71, 21⟩) (oEq false) (.int 1 0 ⟨71, 25, 71, 26⟩) ⟨71, 15, 71, 26⟩) ⟨71, 8, 71, 26⟩)
    .nil)
def m_is_whole : Mt := ⟨0, "is_whole", 1, 1, runB 1 b_m_is_whole.den⟩
theorem e_m_is_whole : defBody st_m_is_whole = b_m_is_whole.ast := by kernel_rfl
theorem w_m_is_whole : b_m_is_whole.wf ["self"] (defScope st_m_is_whole) = true := by decide +kernel
theorem o_m_is_whole (A : At G) : b_m_is_whole.Ok G 0 := ⟨⟨⟨A.at_d, trivial⟩, (oEq_ok eq_none), trivial⟩,
    trivial⟩
theorem d_m_is_whole (A : At G) : MtD G m_is_whole := by
  have h := mtD_of (n := 1) A.m_is_whole A.bl A.cl0 (by decide +kernel) b_m_is_whole e_m_is_whole s_m_is_whole rfl (by decide) w_m_is_whole (o_m_is_whole A)
  exact h
/-! ### _law_says -/
theorem s_law_says : FnScope ["value", "due"] ["value", "due"] (defScope st_law_says) := C8.fnScope_by (by decide +kernel)
def b_law_says : Sb := (.cons (.ret (.bop .And (.isi (.var 0 "value" ⟨133, 22, 133, 27⟩) (isTy "bool" ⟨133, 29, 133, 33⟩ cs) ⟨133, 11, 133, 21⟩ ⟨133, 11, 133, 34⟩) (.cons (.cmp (.var 0 "value" ⟨133, 39, 133, 44⟩) (oEq false) (.var 1 "due" ⟨133, 48, 133, 51⟩) ⟨133, 39, 133, 51⟩) .nil) ⟨133, 11, 133, 51⟩) ⟨133, 4, 133, 51⟩)
    .nil)
def f_law_says : Fn := ⟨"_law_says", 2, 1, runB 2 b_law_says.den⟩
theorem e_law_says : defBody st_law_says = b_law_says.ast := by kernel_rfl
theorem w_law_says : b_law_says.wf ["value", "due"] (defScope st_law_says) = true := by decide +kernel
theorem o_law_says (A : At G) : b_law_says.Ok G 0 := ⟨⟨⟨trivial, isTy_ok tyF_bool A.cls⟩, ⟨⟨trivial, (oEq_ok eq_none), trivial⟩, trivial⟩⟩,
    trivial⟩
theorem d_law_says (A : At G) : FnD G f_law_says := by
  have h := fnD_of (n := 2) A.d_law_says A.bl b_law_says e_law_says s_law_says rfl (by decide) w_law_says (o_law_says A)
  exact h
/-! ### Ratio.floor -/
theorem s_m_floor : FnScope ["self"] ["self"] (defScope st_m_floor) := C8.fnScope_by (by decide +kernel)
def b_m_floor : Sb := (.cons (.ret (.bin (.att (.var 0 "self" ⟨74, 15, 74, 19⟩) 0 0 "n" ⟨74, 15, 74, 21⟩) oDiv (.att (.var 0 "self" ⟨74, 25, 74, 29⟩) 0 1 "d" ⟨74, 25, 74, 31⟩) ⟨74, 15, 74, 31⟩) ⟨74, 8, 74, 31⟩)
    .nil)
def m_floor : Mt := ⟨0, "floor", 1, 1, runB 1 b_m_floor.den⟩
theorem e_m_floor : defBody st_m_floor = b_m_floor.ast := by kernel_rfl
theorem w_m_floor : b_m_floor.wf ["self"] (defScope st_m_floor) = true := by decide +kernel
theorem o_m_floor (A : At G) : b_m_floor.Ok G 0 := ⟨⟨⟨A.at_n, trivial⟩, oDiv_ok, ⟨A.at_d, trivial⟩⟩,
    trivial⟩
theorem d_m_floor (A : At G) : MtD G m_floor := by
  have h := mtD_of (n := 1) A.m_floor A.bl A.cl0 (by decide +kernel) b_m_floor e_m_floor s_m_floor rfl (by decide) w_m_floor (o_m_floor A)
  exact h
/-! ### Ratio.sign -/
theorem s_m_sign : FnScope ["self"] ["self"] (defScope st_m_sign) := C8.fnScope_by (by decide +kernel)
def b_m_sign : Sb := (.cons (.ret (.bin (.cmp (.att (.var 0 "self" ⟨68, 16, 68, 20⟩) 0 0 "n" ⟨68, 16, 68, 22⟩) oGt (.int 0 0 ⟨68, 25, 68, 26⟩) ⟨68, 16, 68, 26⟩) (oSub none) (.cmp (.att (.var 0 "self" ⟨68, 31, 68, 35⟩) 0 0 "n" ⟨68, 31, 68, 37⟩) oLt (.int 0 0 ⟨68, 40, 68, 41⟩) ⟨68, 31, 68, 41⟩) ⟨68, 15, 68, 42⟩) ⟨68, 8, 68, 42⟩)
    .nil)
def m_sign : Mt := ⟨0, "sign", 1, 1, runB 1 b_m_sign.den⟩
theorem e_m_sign : defBody st_m_sign = b_m_sign.ast := by kernel_rfl
theorem w_m_sign : b_m_sign.wf ["self"] (defScope st_m_sign) = true := by decide +kernel
theorem o_m_sign (A : At G) : b_m_sign.Ok G 0 := ⟨⟨⟨⟨A.at_n, trivial⟩, oGt_ok, trivial⟩, (oSub_ok own_none), ⟨⟨A.at_n, trivial⟩, oLt_ok, trivial⟩⟩,
    trivial⟩
theorem d_m_sign (A : At G) : MtD G m_sign := by
  have h := mtD_of (n := 1) A.m_sign A.bl A.cl0 (by decide +kernel) b_m_sign e_m_sign s_m_sign rfl (by decide) w_m_sign (o_m_sign A)
  exact h
/-! ### _law_pair -/
theorem s_law_pair : FnScope ["state", "wide"] ["state"] (defScope st_law_pair) := C8.fnScope_by (by decide +kernel)
def b_law_pair : Sb := (.cons (.asg (.nm 1 "wide" ⟨170, 4, 170, 8⟩) (.ix (.of (.tup (.cons (.int 12 0 ⟨170, 12, 170, 14⟩) (.cons (.int 7 0 ⟨170, 16, 170, 17⟩) (.cons (.int 1000003 0 ⟨170, 19, 170, 26⟩) (.cons (.int 1000000000000 0 ⟨170, 28, 170, 41⟩) .nil)))) 0 ⟨170, 11, 170, 42⟩)) (.call f_law_take (.var 0 "state" ⟨170, 53, 170, 58⟩) (.cons (.int 4 0 ⟨170, 60, 170, 61⟩) .nil) ⟨170, 43, 170, 52⟩ ⟨170, 43, 170, 62⟩) ⟨170, 11, 170, 63⟩) ⟨170, 4, 170, 63⟩)
    (.cons (.ret (.tup (.cons (.bin (.call f_law_take (.var 0 "state" ⟨171, 22, 171, 27⟩) (.cons (.bin (.bin (.int 2 0 ⟨171, 29, 171, 30⟩) (oMul none) (.var 1 "wide" ⟨171, 33, 171, 37⟩) ⟨171, 29, 171, 37⟩) (oAdd none) (.int 1 0 ⟨171, 40, 171, 41⟩) ⟨171, 29, 171, 41⟩) .nil) ⟨171, 12, 171, 21⟩ ⟨171, 12, 171, 42⟩) (oSub none) (.var 1 "wide" ⟨171, 45, 171, 49⟩) ⟨171, 12, 171, 49⟩) (.cons (.bin (.int 1 0 ⟨171, 51, 171, 52⟩) (oAdd none) (.call f_law_take (.var 0 "state" ⟨171, 65, 171, 70⟩) (.cons (.var 1 "wide" ⟨171, 72, 171, 76⟩) .nil) ⟨171, 55, 171, 64⟩ ⟨171, 55, 171, 77⟩) ⟨171, 51, 171, 77⟩) .nil)) 0 ⟨171, 11, 171, 78⟩) ⟨171, 4, 171, 78⟩)
    .nil))
def f_law_pair : Fn := ⟨"_law_pair", 1, 2, runB 2 b_law_pair.den⟩
theorem e_law_pair : defBody st_law_pair = b_law_pair.ast := by kernel_rfl
theorem w_law_pair : b_law_pair.wf ["state", "wide"] (defScope st_law_pair) = true := by decide +kernel
theorem o_law_pair (A : At G) : b_law_pair.Ok G 1 := ⟨⟨⟨trivial, ⟨trivial, ⟨trivial, ⟨trivial, trivial⟩⟩⟩⟩, ⟨⟨d_law_take A, by decide⟩, trivial, ⟨trivial, trivial⟩⟩⟩,
    ⟨⟨⟨⟨⟨d_law_take A, by decide⟩, trivial, ⟨⟨⟨trivial, (oMul_ok own_none), trivial⟩, (oAdd_ok own_none), trivial⟩, trivial⟩⟩, (oSub_ok own_none), trivial⟩, ⟨⟨trivial, (oAdd_ok own_none), ⟨⟨d_law_take A, by decide⟩, trivial, ⟨trivial, trivial⟩⟩⟩, trivial⟩⟩,
    trivial⟩⟩
theorem d_law_pair (A : At G) : FnD G f_law_pair := by
  have h := fnD_of (n := 1) A.d_law_pair A.bl b_law_pair e_law_pair s_law_pair rfl (by decide) w_law_pair (o_law_pair A)
  exact h
/-! ### _law_ops_hold -/
theorem s_law_ops_hold : FnScope ["state", "a", "b", "c", "d", "one", "two", "sign", "told", "n", "m", "text", "s", "at", "bad"] ["state"] (defScope st_law_ops_hold) := C8.fnScope_by (by decide +kernel)
def b_law_ops_hold : Sb := (.cons (.asg (.tp (.cons (.tp (.cons (.nm 1 "a" ⟨175, 5, 175, 6⟩) (.cons (.nm 2 "b" ⟨175, 8, 175, 9⟩) .nil)) 0 ⟨175, 4, 175, 10⟩) (.cons (.tp (.cons (.nm 3 "c" ⟨175, 13, 175, 14⟩) (.cons (.nm 4 "d" ⟨175, 16, 175, 17⟩) .nil)) 0 ⟨175, 12, 175, 18⟩) .nil)) 0 ⟨175, 4, 175, 18⟩) (.tup (.cons (.call f_law_pair (.var 0 "state" ⟨175, 32, 175, 37⟩) .nil ⟨175, 22, 175, 31⟩ ⟨175, 22, 175, 38⟩) (.cons (.call f_law_pair (.var 0 "state" ⟨175, 50, 175, 55⟩) .nil ⟨175, 40, 175, 49⟩ ⟨175, 40, 175, 56⟩) .nil)) 0 ⟨175, 21, 175, 57⟩) ⟨175, 4, 175, 57⟩)
    (.cons (.asg (.tp (.cons (.nm 5 "one" ⟨176, 4, 176, 7⟩) (.cons (.nm 6 "two" ⟨176, 9, 176, 12⟩) (.cons (.nm 7 "sign" ⟨176, 14, 176, 18⟩) .nil))) 0 ⟨176, 4, 176, 18⟩) (.tup (.cons (.mk k_Ratio2 [] (.var 1 "a" ⟨176, 28, 176, 29⟩) (.cons (.var 2 "b" ⟨176, 31, 176, 32⟩) .nil) ⟨176, 22, 176, 27⟩ ⟨176, 22, 176, 33⟩) (.cons (.mk k_Ratio2 [] (.var 3 "c" ⟨176, 41, 176, 42⟩) (.cons (.var 4 "d" ⟨176, 44, 176, 45⟩) .nil) ⟨176, 35, 176, 40⟩ ⟨176, 35, 176, 46⟩) (.cons (.bin (.int 1 0 ⟨176, 48, 176, 49⟩) (oSub (some m_sub)) (.bin (.int 2 0 ⟨176, 52, 176, 53⟩) (oMul (some m_mul)) (.call f_law_take (.var 0 "state" ⟨176, 66, 176, 71⟩) (.cons (.int 2 0 ⟨176, 73, 176, 74⟩) .nil) ⟨176, 56, 176, 65⟩ ⟨176, 56, 176, 75⟩) ⟨176, 52, 176, 75⟩) ⟨176, 48, 176, 75⟩) .nil))) 0 ⟨176, 21, 176, 76⟩) ⟨176, 4, 176, 76⟩)
    (.cons (.ifs (.bop .Or (.no (.call f_law_is (.var 5 "one" ⟨177, 19, 177, 22⟩) (.cons (.var 1 "a" ⟨177, 24, 177, 25⟩) (.cons (.var 2 "b" ⟨177, 27, 177, 28⟩) .nil)) ⟨177, 11, 177, 18⟩ ⟨177, 11, 177, 29⟩) ⟨177, 7, 177, 29⟩) (.cons (.no (.call f_law_is (.mk k_Ratio2 [] (.bin (.var 7 "sign" ⟨177, 51, 177, 55⟩) (oMul (some m_mul)) (.var 1 "a" ⟨177, 58, 177, 59⟩) ⟨177, 51, 177, 59⟩) (.cons (.bin (.var 7 "sign" ⟨177, 61, 177, 65⟩) (oMul (some m_mul)) (.var 2 "b" ⟨177, 68, 177, 69⟩) ⟨177, 61, 177, 69⟩) .nil) ⟨177, 45, 177, 50⟩ ⟨177, 45, 177, 70⟩) (.cons (.var 1 "a" ⟨177, 72, 177, 73⟩) (.cons (.var 2 "b" ⟨177, 75, 177, 76⟩) .nil)) ⟨177, 37, 177, 44⟩ ⟨177, 37, 177, 77⟩) ⟨177, 33, 177, 77⟩) (.cons (.no (.call f_law_is (.mk k_Ratio1 [.int 1] (.var 1 "a" ⟨177, 100, 177, 101⟩) .nil ⟨177, 94, 177, 99⟩ ⟨177, 94, 177, 102⟩) (.cons (.var 1 "a" ⟨177, 104, 177, 105⟩) (.cons (.int 1 0 ⟨177, 107, 177, 108⟩) .nil)) ⟨177, 86, 177, 93⟩ ⟨177, 86, 177, 109⟩) ⟨177, 82, 177, 109⟩) .nil)) ⟨177, 7, 177, 110⟩) (.cons (.ret (.bl false 0 ⟨178, 15, 178, 20⟩) ⟨178, 8, 178, 20⟩)
    .nil) .nil ⟨177, 4, 178, 20⟩)
    (.cons (.ifs (.bop .Or (.no (.call f_law_is (.bin (.var 5 "one" ⟨179, 19, 179, 22⟩) (oAdd (some m_add)) (.var 6 "two" ⟨179, 25, 179, 28⟩) ⟨179, 19, 179, 28⟩) (.cons (.bin (.bin (.var 1 "a" ⟨179, 30, 179, 31⟩) (oMul (some m_mul)) (.var 4 "d" ⟨179, 34, 179, 35⟩) ⟨179, 30, 179, 35⟩) (oAdd (some m_add)) (.bin (.var 3 "c" ⟨179, 38, 179, 39⟩) (oMul (some m_mul)) (.var 2 "b" ⟨179, 42, 179, 43⟩) ⟨179, 38, 179, 43⟩) ⟨179, 30, 179, 43⟩) (.cons (.bin (.var 2 "b" ⟨179, 45, 179, 46⟩) (oMul (some m_mul)) (.var 4 "d" ⟨179, 49, 179, 50⟩) ⟨179, 45, 179, 50⟩) .nil)) ⟨179, 11, 179, 18⟩ ⟨179, 11, 179, 51⟩) ⟨179, 7, 179, 51⟩) (.cons (.no (.call f_law_is (.bin (.var 5 "one" ⟨179, 67, 179, 70⟩) (oSub (some m_sub)) (.var 6 "two" ⟨179, 73, 179, 76⟩) ⟨179, 67, 179, 76⟩) (.cons (.bin (.bin (.var 1 "a" ⟨179, 78, 179, 79⟩) (oMul (some m_mul)) (.var 4 "d" ⟨179, 82, 179, 83⟩) ⟨179, 78, 179, 83⟩) (oSub (some m_sub)) (.bin (.var 3 "c" ⟨179, 86, 179, 87⟩) (oMul (some m_mul)) (.var 2 "b" ⟨179, 90, 179, 91⟩) ⟨179, 86, 179, 91⟩) ⟨179, 78, 179, 91⟩) (.cons (.bin (.var 2 "b" ⟨179, 93, 179, 94⟩) (oMul (some m_mul)) (.var 4 "d" ⟨179, 97, 179, 98⟩) ⟨179, 93, 179, 98⟩) .nil)) ⟨179, 59, 179, 66⟩ ⟨179, 59, 179, 99⟩) ⟨179, 55, 179, 99⟩) (.cons (.no (.call f_law_is (.bin (.var 5 "one" ⟨179, 116, 179, 119⟩) (oMul (some m_mul)) (.var 6 "two" ⟨179, 122, 179, 125⟩) ⟨179, 116, 179, 125⟩) (.cons (.bin (.var 1 "a" ⟨179, 127, 179, 128⟩) (oMul (some m_mul)) (.var 3 "c" ⟨179, 131, 179, 132⟩) ⟨179, 127, 179, 132⟩) (.cons (.bin (.var 2 "b" ⟨179, 134, 179, 135⟩) (oMul (some m_mul)) (.var 4 "d" ⟨179, 138, 179, 139⟩) ⟨179, 134, 179, 139⟩) .nil)) ⟨179, 108, 179, 115⟩ ⟨179, 108, 179, 140⟩) ⟨179, 104, 179, 140⟩) (.cons (.no (.call f_law_is (.un (oNeg (some m_neg)) (.var 5 "one" ⟨179, 159, 179, 162⟩) ⟨179, 158, 179, 162⟩) (.cons (.un (oNeg (some m_neg)) (.var 1 "a" ⟨179, 165, 179, 166⟩) ⟨179, 164, 179, 166⟩) (.cons (.var 2 "b" ⟨179, 168, 179, 169⟩) .nil)) ⟨179, 150, 179, 157⟩ ⟨179, 150, 179, 170⟩) ⟨179, 146, 179, 170⟩) .nil))) ⟨179, 7, 179, 171⟩) (.cons (.ret (.bl false 0 ⟨180, 15, 180, 20⟩) ⟨180, 8, 180, 20⟩)
    .nil) .nil ⟨179, 4, 180, 20⟩)
    (.cons (.asg (.nm 8 "told" ⟨181, 4, 181, 8⟩) (.call f_law_told (.glo "_law_over" (.fn "_law_over") ⟨181, 21, 181, 30⟩) (.cons (.tup (.cons (.var 5 "one" ⟨181, 33, 181, 36⟩) (.cons (.var 6 "two" ⟨181, 38, 181, 41⟩) .nil)) 0 ⟨181, 32, 181, 42⟩) .nil) ⟨181, 11, 181, 20⟩ ⟨181, 11, 181, 43⟩) ⟨181, 4, 181, 43⟩)
    (.cons (.ifs (.ite (.cmp (.var 3 "c" ⟨182, 38, 182, 39⟩) (oEq true) (.int 0 0 ⟨182, 43, 182, 44⟩) ⟨182, 38, 182, 44⟩) (.cmp (.var 8 "told" ⟨182, 7, 182, 11⟩) oNe (.tup (.cons (.str "refused" 0 ⟨182, 16, 182, 25⟩) (.cons (.str "zero" 0 ⟨182, 27, 182, 33⟩) .nil)) 0 ⟨182, 15, 182, 34⟩) ⟨182, 7, 182, 34⟩) (.bop .Or (.cmp (.ix (.of (.var 8 "told" ⟨182, 50, 182, 54⟩)) (.int 0 0 ⟨182, 55, 182, 56⟩) ⟨182, 50, 182, 57⟩) oNe (.str "told" 0 ⟨182, 61, 182, 67⟩) ⟨182, 50, 182, 67⟩) (.cons (.no (.call f_law_is (.ix (.of (.var 8 "told" ⟨182, 83, 182, 87⟩)) (.int 1 0 ⟨182, 88, 182, 89⟩) ⟨182, 83, 182, 90⟩) (.cons (.bin (.var 1 "a" ⟨182, 92, 182, 93⟩) (oMul (some m_mul)) (.var 4 "d" ⟨182, 96, 182, 97⟩) ⟨182, 92, 182, 97⟩) (.cons (.bin (.var 2 "b" ⟨182, 99, 182, 100⟩) (oMul (some m_mul)) (.var 3 "c" ⟨182, 103, 182, 104⟩) ⟨182, 99, 182, 104⟩) .nil)) ⟨182, 75, 182, 82⟩ ⟨182, 75, 182, 105⟩) ⟨182, 71, 182, 105⟩) .nil) ⟨182, 50, 182, 105⟩) ⟨182, 7, 182, 105⟩) (.cons (.ret (.bl false 0 ⟨183, 15, 183, 20⟩) ⟨183, 8, 183, 20⟩)
    .nil) .nil ⟨182, 4, 183, 20⟩)
    (.cons (.ifs (.bop .Or (.no (.call f_law_says (.mt m_less (.var 5 "one" ⟨184, 21, 184, 24⟩) (.cons (.var 6 "two" ⟨184, 30, 184, 33⟩) .nil) ⟨184, 21, 184, 29⟩ ⟨184, 21, 184, 34⟩) (.cons (.cmp (.bin (.var 1 "a" ⟨184, 36, 184, 37⟩) (oMul (some m_mul)) (.var 4 "d" ⟨184, 40, 184, 41⟩) ⟨184, 36, 184, 41⟩) oLt (.bin (.var 3 "c" ⟨184, 44, 184, 45⟩) (oMul (some m_mul)) (.var 2 "b" ⟨184, 48, 184, 49⟩) ⟨184, 44, 184, 49⟩) ⟨184, 36, 184, 49⟩) .nil) ⟨184, 11, 184, 20⟩ ⟨184, 11, 184, 50⟩) ⟨184, 7, 184, 50⟩) (.cons (.no (.call f_law_says (.cmp (.var 5 "one" ⟨184, 68, 184, 71⟩) (oEq true) (.var 6 "two" ⟨184, 75, 184, 78⟩) ⟨184, 68, 184, 78⟩) (.cons (.cmp (.bin (.var 1 "a" ⟨184, 80, 184, 81⟩) (oMul (some m_mul)) (.var 4 "d" ⟨184, 84, 184, 85⟩) ⟨184, 80, 184, 85⟩) (oEq true) (.bin (.var 3 "c" ⟨184, 89, 184, 90⟩) (oMul (some m_mul)) (.var 2 "b" ⟨184, 93, 184, 94⟩) ⟨184, 89, 184, 94⟩) ⟨184, 80, 184, 94⟩) .nil) ⟨184, 58, 184, 67⟩ ⟨184, 58, 184, 95⟩) ⟨184, 54, 184, 95⟩) (.cons (.no (.call f_law_same (.mt m_sign (.var 5 "one" ⟨184, 114, 184, 117⟩) .nil ⟨184, 114, 184, 122⟩ ⟨184, 114, 184, 124⟩) (.cons (.ite (.cmp (.var 1 "a" ⟨184, 131, 184, 132⟩) oGt (.int 0 0 ⟨184, 135, 184, 136⟩) ⟨184, 131, 184, 136⟩) (.int 1 0 ⟨184, 126, 184, 127⟩) (.ite (.cmp (.var 1 "a" ⟨184, 148, 184, 149⟩) oLt (.int 0 0 ⟨184, 152, 184, 153⟩) ⟨184, 148, 184, 153⟩) (.un (oNeg (some m_neg)) (.int 1 0 ⟨184, 143, 184, 144⟩) ⟨184, 142, 184, 144⟩) (.int 0 0 ⟨184, 159, 184, 160⟩) ⟨184, 142, 184, 160⟩) ⟨184, 126, 184, 160⟩) .nil) ⟨184, 104, 184, 113⟩ ⟨184, 104, 184, 161⟩) ⟨184, 100, 184, 161⟩) .nil)) ⟨184, 7, 184, 162⟩) (.cons (.ret (.bl false 0 ⟨185, 15, 185, 20⟩) ⟨185, 8, 185, 20⟩)
    .nil) .nil ⟨184, 4, 185, 20⟩)
    (.cons (.ifs (.bop .Or (.no (.call f_law_says (.mt m_is_whole (.var 5 "one" ⟨186, 21, 186, 24⟩) .nil ⟨186, 21, 186, 33⟩ ⟨186, 21, 186, 35⟩) (.cons (.cmp (.bin (.bi bInt (.of (.var 1 "a" ⟨186, 41, 186, 42⟩)) .nil ⟨186, 37, 186, 40⟩ ⟨186, 37, 186, 43⟩) oMod (.var 2 "b" ⟨186, 46, 186, 47⟩) ⟨186, 37, 186, 47⟩) (oEq true) (.int 0 0 ⟨186, 51, 186, 52⟩) ⟨186, 37, 186, 52⟩) .nil) ⟨186, 11, 186, 20⟩ ⟨186, 11, 186, 53⟩) ⟨186, 7, 186, 53⟩) (.cons (.no (.call f_law_same (.mt m_floor (.var 5 "one" ⟨186, 71, 186, 74⟩) .nil ⟨186, 71, 186, 80⟩ ⟨186, 71, 186, 82⟩) (.cons (.bin (.var 1 "a" ⟨186, 84, 186, 85⟩) oDiv (.var 2 "b" ⟨186, 89, 186, 90⟩) ⟨186, 84, 186, 90⟩) .nil) ⟨186, 61, 186, 70⟩ ⟨186, 61, 186, 91⟩) ⟨186, 57, 186, 91⟩) (.cons (.bi bAny (.of (.comp (.cmp (.var 5 "one" ⟨186, 100, 186, 103⟩) (oEq true) (.var 14 "bad" ⟨186, 107, 186, 110⟩) ⟨186, 100, 186, 110⟩) (.nm 14 "bad" ⟨186, 115, 186, 118⟩) (.seq (.of (.tup (.cons (.non 0 ⟨186, 123, 186, 127⟩) (.cons (.var 1 "a" ⟨186, 129, 186, 130⟩) (.cons (.tup (.cons (.att (.var 5 "one" ⟨186, 133, 186, 136⟩) 0 0 "n" ⟨186, 133, 186, 138⟩) (.cons (.att (.var 5 "one" ⟨186, 140, 186, 143⟩) 0 1 "d" ⟨186, 140, 186, 145⟩) .nil)) 0 ⟨186, 132, 186, 146⟩) (.cons (.str "0" 0 ⟨186, 148, 186, 151⟩) .nil)))) 0 ⟨186, 122, 186, 152⟩))) .no ⟨.function, [(".0", .local), ("bad", .local), ("one", .free)], false, false, []⟩ [("bad", 14)] ⟨186, 99, 186, 153⟩)) .nil ⟨186, 95, 186, 98⟩ ⟨186, 95, 186, 154⟩) .nil)) ⟨186, 7, 186, 154⟩) (.cons (.ret (.bl false 0 ⟨187, 15, 187, 20⟩) ⟨187, 8, 187, 20⟩)
    .nil) .nil ⟨186, 4, 187, 20⟩)
    (.cons (.asg (.tp (.cons (.nm 9 "n" ⟨188, 4, 188, 5⟩) (.cons (.nm 10 "m" ⟨188, 7, 188, 8⟩) .nil)) 0 ⟨188, 4, 188, 8⟩) (.call f_law_plain (.var 1 "a" ⟨188, 22, 188, 23⟩) (.cons (.var 2 "b" ⟨188, 25, 188, 26⟩) .nil) ⟨188, 11, 188, 21⟩ ⟨188, 11, 188, 27⟩) ⟨188, 4, 188, 27⟩)
    (.cons (.asg (.nm 11 "text" ⟨189, 4, 189, 8⟩) (.bin (.bi bStr (.of (.var 9 "n" ⟨189, 15, 189, 16⟩)) .nil ⟨189, 11, 189, 14⟩ ⟨189, 11, 189, 17⟩) (oAdd (some m_add)) (.ite (.cmp (.var 10 "m" ⟨189, 37, 189, 38⟩) oGt (.int 1 0 ⟨189, 41, 189, 42⟩) ⟨189, 37, 189, 42⟩) (.bin (.str "/" 0 ⟨189, 21, 189, 24⟩) (oAdd (some m_add)) (.bi bStr (.of (.var 10 "m" ⟨189, 31, 189, 32⟩)) .nil ⟨189, 27, 189, 30⟩ ⟨189, 27, 189, 33⟩) ⟨189, 21, 189, 33⟩) (.str "" 0 ⟨189, 48, 189, 50⟩) ⟨189, 21, 189, 50⟩) ⟨189, 11, 189, 51⟩) ⟨189, 4, 189, 51⟩)
    (.cons (.ifs (.bop .Or (.no (.call f_law_same (.call f_ratio_text (.var 5 "one" ⟨190, 32, 190, 35⟩) .nil ⟨190, 21, 190, 31⟩ ⟨190, 21, 190, 36⟩) (.cons (.var 11 "text" ⟨190, 38, 190, 42⟩) .nil) ⟨190, 11, 190, 20⟩ ⟨190, 11, 190, 43⟩) ⟨190, 7, 190, 43⟩) (.cons (.no (.cmp (.call f_read_ratio (.var 11 "text" ⟨190, 62, 190, 66⟩) .nil ⟨190, 51, 190, 61⟩ ⟨190, 51, 190, 67⟩) (oEq true) (.var 5 "one" ⟨190, 71, 190, 74⟩) ⟨190, 51, 190, 74⟩) ⟨190, 47, 190, 74⟩) .nil) ⟨190, 7, 190, 74⟩) (.cons (.ret (.bl false 0 ⟨191, 15, 191, 20⟩) ⟨191, 8, 191, 20⟩)
    .nil) .nil ⟨190, 4, 191, 20⟩)
    (.cons (.fors (.nm 12 "s" ⟨192, 8, 192, 9⟩) (.rg1 (.int 6 0 ⟨192, 19, 192, 20⟩) ⟨192, 13, 192, 18⟩ ⟨192, 13, 192, 21⟩) (.cons (.par2 13 "at" ⟨193, 8, 193, 10⟩ 7 "sign" ⟨193, 12, 193, 16⟩ 0 ⟨193, 8, 193, 16⟩ (.call f_law_take (.var 0 "state" ⟨193, 30, 193, 35⟩) (.cons (.bi bLen (.of (.var 11 "text" ⟨193, 41, 193, 45⟩)) .nil ⟨193, 37, 193, 40⟩ ⟨193, 37, 193, 46⟩) .nil) ⟨193, 20, 193, 29⟩ ⟨193, 20, 193, 47⟩) (.ix (.of (.str "0-/17 +." 0 ⟨193, 49, 193, 59⟩)) (.call f_law_take (.var 0 "state" ⟨193, 70, 193, 75⟩) (.cons (.int 8 0 ⟨193, 77, 193, 78⟩) .nil) ⟨193, 60, 193, 69⟩ ⟨193, 60, 193, 79⟩) ⟨193, 49, 193, 80⟩) 0 ⟨193, 19, 193, 81⟩ ⟨193, 8, 193, 81⟩)
    (.cons (.ifs (.no (.bi bAll (.of (.comp (.call f_law_reads_itself (.var 14 "bad" ⟨194, 38, 194, 41⟩) .nil ⟨194, 20, 194, 37⟩ ⟨194, 20, 194, 42⟩) (.nm 14 "bad" ⟨194, 47, 194, 50⟩) (.seq (.of (.tup (.cons (.bin (.bin (.sl (.of (.var 11 "text" ⟨194, 55, 194, 59⟩)) .no (.so (.var 13 "at" ⟨194, 61, 194, 63⟩)) ⟨194, 60, 194, 63⟩ ⟨194, 55, 194, 64⟩) (oAdd (some m_add)) (.var 7 "sign" ⟨194, 67, 194, 71⟩) ⟨194, 55, 194, 71⟩) (oAdd (some m_add)) (.sl (.of (.var 11 "text" ⟨194, 74, 194, 78⟩)) (.so (.var 13 "at" ⟨194, 79, 194, 81⟩)) .no ⟨194, 79, 194, 82⟩ ⟨194, 74, 194, 83⟩) ⟨194, 55, 194, 83⟩) (.cons (.bin (.sl (.of (.var 11 "text" ⟨194, 85, 194, 89⟩)) .no (.so (.var 13 "at" ⟨194, 91, 194, 93⟩)) ⟨194, 90, 194, 93⟩ ⟨194, 85, 194, 94⟩) (oAdd (some m_add)) (.sl (.of (.var 11 "text" ⟨194, 97, 194, 101⟩)) (.so (.bin (.var 13 "at" ⟨194, 102, 194, 104⟩) (oAdd (some m_add)) (.int 1 0 ⟨194, 107, 194, 108⟩) ⟨194, 102, 194, 108⟩)) .no ⟨194, 102, 194, 109⟩ ⟨194, 97, 194, 110⟩) ⟨194, 85, 194, 110⟩) (.cons (.bin (.bin (.sl (.of (.var 11 "text" ⟨194, 112, 194, 116⟩)) .no (.so (.var 13 "at" ⟨194, 118, 194, 120⟩)) ⟨194, 117, 194, 120⟩ ⟨194, 112, 194, 121⟩) (oAdd (some m_add)) (.var 7 "sign" ⟨194, 124, 194, 128⟩) ⟨194, 112, 194, 128⟩) (oAdd (some m_add)) (.sl (.of (.var 11 "text" ⟨194, 131, 194, 135⟩)) (.so (.bin (.var 13 "at" ⟨194, 136, 194, 138⟩) (oAdd (some m_add)) (.int 1 0 ⟨194, 141, 194, 142⟩) ⟨194, 136, 194, 142⟩)) .no ⟨194, 136, 194, 143⟩ ⟨194, 131, 194, 144⟩) ⟨194, 112, 194, 144⟩) .nil))) 0 ⟨194, 54, 194, 145⟩))) .no ⟨.function, [(".0", .local), ("bad", .local), ("_law_reads_itself", .globalImplicit)], false, false, []⟩ [("bad", 14)] ⟨194, 19, 194, 146⟩)) .nil ⟨194, 15, 194, 18⟩ ⟨194, 15, 194, 147⟩) ⟨194, 11, 194, 147⟩) (.cons (.ret (.bl false 0 ⟨195, 19, 195, 24⟩) ⟨195, 12, 195, 24⟩)
    .nil) .nil ⟨194, 8, 195, 24⟩)
    .nil)) ⟨192, 4, 195, 24⟩)
    (.cons (.ret (.bop .And (.call f_law_is (.call f_as_ratio (.var 1 "a" ⟨196, 28, 196, 29⟩) .nil ⟨196, 19, 196, 27⟩ ⟨196, 19, 196, 30⟩) (.cons (.var 1 "a" ⟨196, 32, 196, 33⟩) (.cons (.int 1 0 ⟨196, 35, 196, 36⟩) .nil)) ⟨196, 11, 196, 18⟩ ⟨196, 11, 196, 37⟩) (.cons (.cmp (.call f_as_ratio (.var 5 "one" ⟨196, 51, 196, 54⟩) .nil ⟨196, 42, 196, 50⟩ ⟨196, 42, 196, 55⟩) (oEq true) (.var 5 "one" ⟨196, 59, 196, 62⟩) ⟨196, 42, 196, 62⟩) .nil) ⟨196, 11, 196, 62⟩) ⟨196, 4, 196, 62⟩)
    .nil)))))))))))))
def f_law_ops_hold : Fn := ⟨"_law_ops_hold", 1, 13, runB 15 b_law_ops_hold.den⟩
theorem e_law_ops_hold : defBody st_law_ops_hold = b_law_ops_hold.ast := by kernel_rfl
theorem w_law_ops_hold : b_law_ops_hold.wf ["state", "a", "b", "c", "d", "one", "two", "sign", "told", "n", "m", "text", "s", "at", "bad"] (defScope st_law_ops_hold) = true := by decide +kernel
theorem o_law_ops_hold (A : At G) : b_law_ops_hold.Ok G 12 := ⟨⟨⟨⟨d_law_pair A, by decide⟩, trivial, trivial⟩, ⟨⟨⟨d_law_pair A, by decide⟩, trivial, trivial⟩, trivial⟩⟩,
    ⟨⟨⟨⟨dk_Ratio2 A, by decide⟩, trivial, ⟨trivial, trivial⟩⟩, ⟨⟨⟨dk_Ratio2 A, by decide⟩, trivial, ⟨trivial, trivial⟩⟩, ⟨⟨trivial, (oSub_ok (own_ok (o_Sub A) (by decide))), ⟨trivial, (oMul_ok (own_ok (o_Mult A) (by decide))), ⟨⟨d_law_take A, by decide⟩, trivial, ⟨trivial, trivial⟩⟩⟩⟩, trivial⟩⟩⟩,
    ⟨⟨⟨⟨⟨d_law_is A, by decide⟩, trivial, ⟨trivial, ⟨trivial, trivial⟩⟩⟩, ⟨⟨⟨d_law_is A, by decide⟩, ⟨⟨dk_Ratio2 A, by decide⟩, ⟨trivial, (oMul_ok (own_ok (o_Mult A) (by decide))), trivial⟩, ⟨⟨trivial, (oMul_ok (own_ok (o_Mult A) (by decide))), trivial⟩, trivial⟩⟩, ⟨trivial, ⟨trivial, trivial⟩⟩⟩, ⟨⟨⟨d_law_is A, by decide⟩, ⟨⟨dk_Ratio1 A, by decide⟩, trivial, trivial⟩, ⟨trivial, ⟨trivial, trivial⟩⟩⟩, trivial⟩⟩⟩, ⟨trivial,
    trivial⟩, trivial⟩,
    ⟨⟨⟨⟨⟨d_law_is A, by decide⟩, ⟨trivial, (oAdd_ok (own_ok (o_Add A) (by decide))), trivial⟩, ⟨⟨⟨trivial, (oMul_ok (own_ok (o_Mult A) (by decide))), trivial⟩, (oAdd_ok (own_ok (o_Add A) (by decide))), ⟨trivial, (oMul_ok (own_ok (o_Mult A) (by decide))), trivial⟩⟩, ⟨⟨trivial, (oMul_ok (own_ok (o_Mult A) (by decide))), trivial⟩, trivial⟩⟩⟩, ⟨⟨⟨d_law_is A, by decide⟩, ⟨trivial, (oSub_ok (own_ok (o_Sub A) (by decide))), trivial⟩, ⟨⟨⟨trivial, (oMul_ok (own_ok (o_Mult A) (by decide))), trivial⟩, (oSub_ok (own_ok (o_Sub A) (by decide))), ⟨trivial, (oMul_ok (own_ok (o_Mult A) (by decide))), trivial⟩⟩, ⟨⟨trivial, (oMul_ok (own_ok (o_Mult A) (by decide))), trivial⟩, trivial⟩⟩⟩, ⟨⟨⟨d_law_is A, by decide⟩, ⟨trivial, (oMul_ok (own_ok (o_Mult A) (by decide))), trivial⟩, ⟨⟨trivial, (oMul_ok (own_ok (o_Mult A) (by decide))), trivial⟩, ⟨⟨trivial, (oMul_ok (own_ok (o_Mult A) (by decide))), trivial⟩, trivial⟩⟩⟩, ⟨⟨⟨d_law_is A, by decide⟩, ⟨(oNeg_ok (neg_ok (o_neg A) (by decide))), trivial⟩, ⟨⟨(oNeg_ok (neg_ok (o_neg A) (by decide))), trivial⟩, ⟨trivial, trivial⟩⟩⟩, trivial⟩⟩⟩⟩, ⟨trivial,
    trivial⟩, trivial⟩,
    ⟨⟨⟨d_law_told A, by decide⟩, (glo_fn A.d_law_over), ⟨⟨trivial, ⟨trivial, trivial⟩⟩, trivial⟩⟩,
    ⟨⟨⟨⟨trivial, (oEq_ok (eq_own (o_eq A) (by decide))), trivial⟩, ⟨trivial, oNe_ok, ⟨trivial, ⟨trivial, trivial⟩⟩⟩, ⟨⟨⟨trivial, trivial⟩, oNe_ok, trivial⟩, ⟨⟨⟨d_law_is A, by decide⟩, ⟨trivial, trivial⟩, ⟨⟨trivial, (oMul_ok (own_ok (o_Mult A) (by decide))), trivial⟩, ⟨⟨trivial, (oMul_ok (own_ok (o_Mult A) (by decide))), trivial⟩, trivial⟩⟩⟩, trivial⟩⟩⟩, ⟨trivial,
    trivial⟩, trivial⟩,
    ⟨⟨⟨⟨⟨d_law_says A, by decide⟩, ⟨⟨d_m_less A, by decide⟩, trivial, ⟨trivial, trivial⟩⟩, ⟨⟨⟨trivial, (oMul_ok (own_ok (o_Mult A) (by decide))), trivial⟩, oLt_ok, ⟨trivial, (oMul_ok (own_ok (o_Mult A) (by decide))), trivial⟩⟩, trivial⟩⟩, ⟨⟨⟨d_law_says A, by decide⟩, ⟨trivial, (oEq_ok (eq_own (o_eq A) (by decide))), trivial⟩, ⟨⟨⟨trivial, (oMul_ok (own_ok (o_Mult A) (by decide))), trivial⟩, (oEq_ok (eq_own (o_eq A) (by decide))), ⟨trivial, (oMul_ok (own_ok (o_Mult A) (by decide))), trivial⟩⟩, trivial⟩⟩, ⟨⟨⟨d_law_same A, by decide⟩, ⟨⟨d_m_sign A, by decide⟩, trivial, trivial⟩, ⟨⟨⟨trivial, oGt_ok, trivial⟩, trivial, ⟨⟨trivial, oLt_ok, trivial⟩, ⟨(oNeg_ok (neg_ok (o_neg A) (by decide))), trivial⟩, trivial⟩⟩, trivial⟩⟩, trivial⟩⟩⟩, ⟨trivial,
    trivial⟩, trivial⟩,
    ⟨⟨⟨⟨⟨d_law_says A, by decide⟩, ⟨⟨d_m_is_whole A, by decide⟩, trivial, trivial⟩, ⟨⟨⟨⟨(bInt_ok A.dig), trivial, trivial⟩, oMod_ok, trivial⟩, (oEq_ok (eq_own (o_eq A) (by decide))), trivial⟩, trivial⟩⟩, ⟨⟨⟨d_law_same A, by decide⟩, ⟨⟨d_m_floor A, by decide⟩, trivial, trivial⟩, ⟨⟨trivial, oDiv_ok, trivial⟩, trivial⟩⟩, ⟨⟨bAny_ok, ⟨⟨trivial, ⟨trivial, ⟨⟨⟨A.at_n, trivial⟩, ⟨⟨A.at_d, trivial⟩, trivial⟩⟩, ⟨trivial, trivial⟩⟩⟩⟩, trivial, ⟨trivial, (oEq_ok (eq_own (o_eq A) (by decide))), trivial⟩⟩, trivial⟩, trivial⟩⟩⟩, ⟨trivial,
    trivial⟩, trivial⟩,
    ⟨⟨⟨d_law_plain A, by decide⟩, trivial, ⟨trivial, trivial⟩⟩,
    ⟨⟨⟨(bStr_ok A.dig), trivial, trivial⟩, (oAdd_ok (own_ok (o_Add A) (by decide))), ⟨⟨trivial, oGt_ok, trivial⟩, ⟨trivial, (oAdd_ok (own_ok (o_Add A) (by decide))), ⟨(bStr_ok A.dig), trivial, trivial⟩⟩, trivial⟩⟩,
    ⟨⟨⟨⟨⟨d_law_same A, by decide⟩, ⟨⟨d_ratio_text A, by decide⟩, trivial, trivial⟩, ⟨trivial, trivial⟩⟩, ⟨⟨⟨⟨d_read_ratio A, by decide⟩, trivial, trivial⟩, (oEq_ok (eq_own (o_eq A) (by decide))), trivial⟩, trivial⟩⟩, ⟨trivial,
    trivial⟩, trivial⟩,
    ⟨⟨trivial, ⟨⟨⟨⟨d_law_take A, by decide⟩, trivial, ⟨⟨bLen_ok, trivial, trivial⟩, trivial⟩⟩, ⟨trivial, ⟨⟨d_law_take A, by decide⟩, trivial, ⟨trivial, trivial⟩⟩⟩⟩,
    ⟨⟨⟨bAll_ok, ⟨⟨⟨⟨⟨trivial, trivial, trivial⟩, (oAdd_ok (own_ok (o_Add A) (by decide))), trivial⟩, (oAdd_ok (own_ok (o_Add A) (by decide))), ⟨trivial, trivial, trivial⟩⟩, ⟨⟨⟨trivial, trivial, trivial⟩, (oAdd_ok (own_ok (o_Add A) (by decide))), ⟨trivial, ⟨trivial, (oAdd_ok (own_ok (o_Add A) (by decide))), trivial⟩, trivial⟩⟩, ⟨⟨⟨⟨trivial, trivial, trivial⟩, (oAdd_ok (own_ok (o_Add A) (by decide))), trivial⟩, (oAdd_ok (own_ok (o_Add A) (by decide))), ⟨trivial, ⟨trivial, (oAdd_ok (own_ok (o_Add A) (by decide))), trivial⟩, trivial⟩⟩, trivial⟩⟩⟩, trivial, ⟨⟨d_law_reads_itself A, by decide⟩, trivial, trivial⟩⟩, trivial⟩, ⟨trivial,
    trivial⟩, trivial⟩,
    trivial⟩⟩⟩,
    ⟨⟨⟨⟨d_law_is A, by decide⟩, ⟨⟨d_as_ratio A, by decide⟩, trivial, trivial⟩, ⟨trivial, ⟨trivial, trivial⟩⟩⟩, ⟨⟨⟨⟨d_as_ratio A, by decide⟩, trivial, trivial⟩, (oEq_ok (eq_own (o_eq A) (by decide))), trivial⟩, trivial⟩⟩,
    trivial⟩⟩⟩⟩⟩⟩⟩⟩⟩⟩⟩⟩⟩
theorem d_law_ops_hold (A : At G) : FnD G f_law_ops_hold := by
  have h := fnD_of (n := 1) A.d_law_ops_hold A.bl b_law_ops_hold e_law_ops_hold s_law_ops_hold rfl (by decide) w_law_ops_hold (o_law_ops_hold A)
  exact h
/-! ### ratio_sum -/
theorem s_ratio_sum : FnScope ["values", "found", "own"] ["values"] (defScope st_ratio_sum) := C8.fnScope_by (by decide +kernel)
def b_ratio_sum : Sb := (.cons (.asg (.nm 1 "found" ⟨111, 4, 111, 9⟩) (.mk k_Ratio1 [.int 1] (.int 0 0 ⟨111, 18, 111, 19⟩) .nil ⟨111, 12, 111, 17⟩ ⟨111, 12, 111, 20⟩) ⟨111, 4, 111, 20⟩)
    (.cons (.fors (.nm 2 "own" ⟨112, 8, 112, 11⟩) (.seq (.of (.var 0 "values" ⟨112, 15, 112, 21⟩))) (.cons (.asg (.nm 1 "found" ⟨113, 8, 113, 13⟩) (.bin (.var 1 "found" ⟨113, 16, 113, 21⟩) (oAdd (some m_add)) (.var 2 "own" ⟨113, 24, 113, 27⟩) ⟨113, 16, 113, 27⟩) ⟨113, 8, 113, 27⟩)
    .nil) ⟨112, 4, 113, 27⟩)
    (.cons (.ret (.var 1 "found" ⟨114, 11, 114, 16⟩) ⟨114, 4, 114, 16⟩)
    .nil)))
def f_ratio_sum : Fn := ⟨"ratio_sum", 1, 6, runB 3 b_ratio_sum.den⟩
theorem e_ratio_sum : defBody st_ratio_sum = b_ratio_sum.ast := by kernel_rfl
theorem w_ratio_sum : b_ratio_sum.wf ["values", "found", "own"] (defScope st_ratio_sum) = true := by decide +kernel
theorem o_ratio_sum (A : At G) : b_ratio_sum.Ok G 5 := ⟨⟨⟨dk_Ratio1 A, by decide⟩, trivial, trivial⟩,
    ⟨⟨trivial, ⟨⟨trivial, (oAdd_ok (own_ok (o_Add A) (by decide))), trivial⟩,
    trivial⟩⟩,
    ⟨trivial,
    trivial⟩⟩⟩
theorem d_ratio_sum (A : At G) : FnD G f_ratio_sum := by
  have h := fnD_of (n := 1) A.d_ratio_sum A.bl b_ratio_sum e_ratio_sum s_ratio_sum rfl (by decide) w_ratio_sum (o_ratio_sum A)
  exact h
/-! ### ratio_dot -/
theorem s_ratio_dot : FnScope ["one", "two", "a", "b"] ["one", "two"] (defScope st_ratio_dot) := C8.fnScope_by (by decide +kernel)
def b_ratio_dot : Sb := (.cons (.ret (.call f_ratio_sum (.comp (.bin (.var 2 "a" ⟨116, 22, 116, 23⟩) (oMul (some m_mul)) (.var 3 "b" ⟨116, 26, 116, 27⟩) ⟨116, 22, 116, 27⟩) (.tp (.cons (.nm 2 "a" ⟨116, 32, 116, 33⟩) (.cons (.nm 3 "b" ⟨116, 35, 116, 36⟩) .nil)) 0 ⟨116, 32, 116, 36⟩) (.zip (.var 0 "one" ⟨116, 44, 116, 47⟩) (.var 1 "two" ⟨116, 49, 116, 52⟩) ⟨116, 40, 116, 43⟩ ⟨116, 40, 116, 53⟩) .no ⟨.function, [(".0", .local), ("a", .local), ("b", .local)], false, false, []⟩ [("a", 2), ("b", 3)] ⟨116, 21, 116, 54⟩) .nil ⟨116, 11, 116, 20⟩ ⟨116, 11, 116, 55⟩) ⟨116, 4, 116, 55⟩)
    .nil)
def f_ratio_dot : Fn := ⟨"ratio_dot", 2, 7, runB 4 b_ratio_dot.den⟩
theorem e_ratio_dot : defBody st_ratio_dot = b_ratio_dot.ast := by kernel_rfl
theorem w_ratio_dot : b_ratio_dot.wf ["one", "two", "a", "b"] (defScope st_ratio_dot) = true := by decide +kernel
theorem o_ratio_dot (A : At G) : b_ratio_dot.Ok G 6 := ⟨⟨⟨d_ratio_sum A, by decide⟩, ⟨⟨trivial, trivial⟩, trivial, ⟨trivial, (oMul_ok (own_ok (o_Mult A) (by decide))), trivial⟩⟩, trivial⟩,
    trivial⟩
theorem d_ratio_dot (A : At G) : FnD G f_ratio_dot := by
  have h := fnD_of (n := 2) A.d_ratio_dot A.bl b_ratio_dot e_ratio_dot s_ratio_dot rfl (by decide) w_ratio_dot (o_ratio_dot A)
  exact h
/-! ### _law_sums_hold -/
theorem s_law_sums_hold : FnScope ["state", "pairs", "more", "n", "d", "x", "y", "a", "b", "c", "e", "one", "two", "t"] ["state"] (defScope st_law_sums_hold) := C8.fnScope_by (by decide +kernel)
def b_law_sums_hold : Sb := (.cons (.asgC 1 "pairs" ⟨203, 4, 203, 9⟩ (.call f_law_pair (.var 0 "state" ⟨203, 23, 203, 28⟩) .nil ⟨203, 13, 203, 22⟩ ⟨203, 13, 203, 29⟩) (.nm 13 "t" ⟨203, 34, 203, 35⟩) (.rg1 (.call f_law_take (.var 0 "state" ⟨203, 55, 203, 60⟩) (.cons (.int 5 0 ⟨203, 62, 203, 63⟩) .nil) ⟨203, 45, 203, 54⟩ ⟨203, 45, 203, 64⟩) ⟨203, 39, 203, 44⟩ ⟨203, 39, 203, 65⟩) .no ⟨.function, [(".0", .local), ("t", .local), ("_law_pair", .globalImplicit), ("state", .free)], false, false, []⟩ [("t", 13)] ⟨203, 12, 203, 66⟩ ⟨203, 4, 203, 66⟩)
    (.cons (.asgC 2 "more" ⟨204, 4, 204, 8⟩ (.call f_law_pair (.var 0 "state" ⟨204, 22, 204, 27⟩) .nil ⟨204, 12, 204, 21⟩ ⟨204, 12, 204, 28⟩) (.nm 13 "t" ⟨204, 33, 204, 34⟩) (.rg1 (.call f_law_take (.var 0 "state" ⟨204, 54, 204, 59⟩) (.cons (.int 5 0 ⟨204, 61, 204, 62⟩) .nil) ⟨204, 44, 204, 53⟩ ⟨204, 44, 204, 63⟩) ⟨204, 38, 204, 43⟩ ⟨204, 38, 204, 64⟩) .no ⟨.function, [(".0", .local), ("t", .local), ("_law_pair", .globalImplicit), ("state", .free)], false, false, []⟩ [("t", 13)] ⟨204, 11, 204, 65⟩ ⟨204, 4, 204, 65⟩)
    (.cons (.asg (.tp (.cons (.nm 3 "n" ⟨205, 4, 205, 5⟩) (.cons (.nm 4 "d" ⟨205, 7, 205, 8⟩) (.cons (.nm 5 "x" ⟨205, 10, 205, 11⟩) (.cons (.nm 6 "y" ⟨205, 13, 205, 14⟩) .nil)))) 0 ⟨205, 4, 205, 14⟩) (.tup (.cons (.int 0 0 ⟨205, 18, 205, 19⟩) (.cons (.int 1 0 ⟨205, 21, 205, 22⟩) (.cons (.int 0 0 ⟨205, 24, 205, 25⟩) (.cons (.int 1 0 ⟨205, 27, 205, 28⟩) .nil)))) 0 ⟨205, 17, 205, 29⟩) ⟨205, 4, 205, 29⟩)
    (.cons (.fors (.tp (.cons (.nm 7 "a" ⟨206, 8, 206, 9⟩) (.cons (.nm 8 "b" ⟨206, 11, 206, 12⟩) .nil)) 0 ⟨206, 8, 206, 12⟩) (.seq (.of (.var 1 "pairs" ⟨206, 16, 206, 21⟩))) (.cons (.par2 3 "n" ⟨207, 8, 207, 9⟩ 4 "d" ⟨207, 11, 207, 12⟩ 0 ⟨207, 8, 207, 12⟩ (.bin (.bin (.var 3 "n" ⟨207, 16, 207, 17⟩) (oMul none) (.var 8 "b" ⟨207, 20, 207, 21⟩) ⟨207, 16, 207, 21⟩) (oAdd none) (.bin (.var 7 "a" ⟨207, 24, 207, 25⟩) (oMul none) (.var 4 "d" ⟨207, 28, 207, 29⟩) ⟨207, 24, 207, 29⟩) ⟨207, 16, 207, 29⟩) (.bin (.var 4 "d" ⟨207, 31, 207, 32⟩) (oMul none) (.var 8 "b" ⟨207, 35, 207, 36⟩) ⟨207, 31, 207, 36⟩) 0 ⟨207, 15, 207, 37⟩ ⟨207, 8, 207, 37⟩)
    .nil) ⟨206, 4, 207, 37⟩)
    (.cons (.fors (.tp (.cons (.tp (.cons (.nm 7 "a" ⟨208, 9, 208, 10⟩) (.cons (.nm 8 "b" ⟨208, 12, 208, 13⟩) .nil)) 0 ⟨208, 8, 208, 14⟩) (.cons (.tp (.cons (.nm 9 "c" ⟨208, 17, 208, 18⟩) (.cons (.nm 10 "e" ⟨208, 20, 208, 21⟩) .nil)) 0 ⟨208, 16, 208, 22⟩) .nil)) 0 ⟨208, 8, 208, 22⟩) (.zip (.var 1 "pairs" ⟨208, 30, 208, 35⟩) (.var 2 "more" ⟨208, 37, 208, 41⟩) ⟨208, 26, 208, 29⟩ ⟨208, 26, 208, 42⟩) (.cons (.par2 5 "x" ⟨209, 8, 209, 9⟩ 6 "y" ⟨209, 11, 209, 12⟩ 0 ⟨209, 8, 209, 12⟩ (.bin (.bin (.bin (.var 5 "x" ⟨209, 16, 209, 17⟩) (oMul none) (.var 8 "b" ⟨209, 20, 209, 21⟩) ⟨209, 16, 209, 21⟩) (oMul none) (.var 10 "e" ⟨209, 24, 209, 25⟩) ⟨209, 16, 209, 25⟩) (oAdd none) (.bin (.bin (.var 7 "a" ⟨209, 28, 209, 29⟩) (oMul none) (.var 9 "c" ⟨209, 32, 209, 33⟩) ⟨209, 28, 209, 33⟩) (oMul none) (.var 6 "y" ⟨209, 36, 209, 37⟩) ⟨209, 28, 209, 37⟩) ⟨209, 16, 209, 37⟩) (.bin (.bin (.var 6 "y" ⟨209, 39, 209, 40⟩) (oMul none) (.var 8 "b" ⟨209, 43, 209, 44⟩) ⟨209, 39, 209, 44⟩) (oMul none) (.var 10 "e" ⟨209, 47, 209, 48⟩) ⟨209, 39, 209, 48⟩) 0 ⟨209, 15, 209, 49⟩ ⟨209, 8, 209, 49⟩)
    .nil) ⟨208, 4, 209, 49⟩)
    (.cons (.par2 11 "one" ⟨210, 4, 210, 7⟩ 12 "two" ⟨210, 9, 210, 12⟩ 0 ⟨210, 4, 210, 12⟩ (.bi bTuple (.of (.comp (.mk k_Ratio2 [] (.var 7 "a" ⟨210, 29, 210, 30⟩) (.cons (.var 8 "b" ⟨210, 32, 210, 33⟩) .nil) ⟨210, 23, 210, 28⟩ ⟨210, 23, 210, 34⟩) (.tp (.cons (.nm 7 "a" ⟨210, 39, 210, 40⟩) (.cons (.nm 8 "b" ⟨210, 42, 210, 43⟩) .nil)) 0 ⟨210, 39, 210, 43⟩) (.seq (.of (.var 1 "pairs" ⟨210, 47, 210, 52⟩))) .no ⟨.function, [(".0", .local), ("a", .local), ("b", .local), ("Ratio", .globalImplicit)], false, false, []⟩ [("a", 7), ("b", 8)] ⟨210, 22, 210, 53⟩)) .nil ⟨210, 16, 210, 21⟩ ⟨210, 16, 210, 54⟩) (.bi bTuple (.of (.comp (.mk k_Ratio2 [] (.var 7 "a" ⟨210, 69, 210, 70⟩) (.cons (.var 8 "b" ⟨210, 72, 210, 73⟩) .nil) ⟨210, 63, 210, 68⟩ ⟨210, 63, 210, 74⟩) (.tp (.cons (.nm 7 "a" ⟨210, 79, 210, 80⟩) (.cons (.nm 8 "b" ⟨210, 82, 210, 83⟩) .nil)) 0 ⟨210, 79, 210, 83⟩) (.seq (.of (.var 2 "more" ⟨210, 87, 210, 91⟩))) .no ⟨.function, [(".0", .local), ("a", .local), ("b", .local), ("Ratio", .globalImplicit)], false, false, []⟩ [("a", 7), ("b", 8)] ⟨210, 62, 210, 92⟩)) .nil ⟨210, 56, 210, 61⟩ ⟨210, 56, 210, 93⟩) 0 ⟨210, 15, 210, 94⟩ ⟨210, 4, 210, 94⟩)
    (.cons (.ret (.bop .And (.call f_law_is (.call f_ratio_sum (.var 11 "one" ⟨211, 29, 211, 32⟩) .nil ⟨211, 19, 211, 28⟩ ⟨211, 19, 211, 33⟩) (.cons (.var 3 "n" ⟨211, 35, 211, 36⟩) (.cons (.var 4 "d" ⟨211, 38, 211, 39⟩) .nil)) ⟨211, 11, 211, 18⟩ ⟨211, 11, 211, 40⟩) (.cons (.call f_law_is (.call f_ratio_dot (.var 11 "one" ⟨211, 63, 211, 66⟩) (.cons (.var 12 "two" ⟨211, 68, 211, 71⟩) .nil) ⟨211, 53, 211, 62⟩ ⟨211, 53, 211, 72⟩) (.cons (.var 5 "x" ⟨211, 74, 211, 75⟩) (.cons (.var 6 "y" ⟨211, 77, 211, 78⟩) .nil)) ⟨211, 45, 211, 52⟩ ⟨211, 45, 211, 79⟩) (.cons (.call f_law_says (.call f_are_ratios (.var 11 "one" ⟨211, 105, 211, 108⟩) .nil ⟨211, 94, 211, 104⟩ ⟨211, 94, 211, 109⟩) (.cons (.bl true 0 ⟨211, 111, 211, 115⟩) .nil) ⟨211, 84, 211, 93⟩ ⟨211, 84, 211, 116⟩) .nil)) ⟨211, 11, 211, 116⟩) ⟨211, 4, 211, 116⟩)
    .nil)))))))
def f_law_sums_hold : Fn := ⟨"_law_sums_hold", 1, 9, runB 14 b_law_sums_hold.den⟩
theorem e_law_sums_hold : defBody st_law_sums_hold = b_law_sums_hold.ast := by kernel_rfl
theorem w_law_sums_hold : b_law_sums_hold.wf ["state", "pairs", "more", "n", "d", "x", "y", "a", "b", "c", "e", "one", "two", "t"] (defScope st_law_sums_hold) = true := by decide +kernel
theorem o_law_sums_hold (A : At G) : b_law_sums_hold.Ok G 8 := ⟨⟨⟨⟨d_law_take A, by decide⟩, trivial, ⟨trivial, trivial⟩⟩, trivial, ⟨⟨d_law_pair A, by decide⟩, trivial, trivial⟩⟩,
    ⟨⟨⟨⟨d_law_take A, by decide⟩, trivial, ⟨trivial, trivial⟩⟩, trivial, ⟨⟨d_law_pair A, by decide⟩, trivial, trivial⟩⟩,
    ⟨⟨trivial, ⟨trivial, ⟨trivial, ⟨trivial, trivial⟩⟩⟩⟩,
    ⟨⟨trivial, ⟨⟨⟨⟨trivial, (oMul_ok own_none), trivial⟩, (oAdd_ok own_none), ⟨trivial, (oMul_ok own_none), trivial⟩⟩, ⟨trivial, (oMul_ok own_none), trivial⟩⟩,
    trivial⟩⟩,
    ⟨⟨⟨trivial, trivial⟩, ⟨⟨⟨⟨⟨trivial, (oMul_ok own_none), trivial⟩, (oMul_ok own_none), trivial⟩, (oAdd_ok own_none), ⟨⟨trivial, (oMul_ok own_none), trivial⟩, (oMul_ok own_none), trivial⟩⟩, ⟨⟨trivial, (oMul_ok own_none), trivial⟩, (oMul_ok own_none), trivial⟩⟩,
    trivial⟩⟩,
    ⟨⟨⟨bTuple_ok, ⟨trivial, trivial, ⟨⟨dk_Ratio2 A, by decide⟩, trivial, ⟨trivial, trivial⟩⟩⟩, trivial⟩, ⟨bTuple_ok, ⟨trivial, trivial, ⟨⟨dk_Ratio2 A, by decide⟩, trivial, ⟨trivial, trivial⟩⟩⟩, trivial⟩⟩,
    ⟨⟨⟨⟨d_law_is A, by decide⟩, ⟨⟨d_ratio_sum A, by decide⟩, trivial, trivial⟩, ⟨trivial, ⟨trivial, trivial⟩⟩⟩, ⟨⟨⟨d_law_is A, by decide⟩, ⟨⟨d_ratio_dot A, by decide⟩, trivial, ⟨trivial, trivial⟩⟩, ⟨trivial, ⟨trivial, trivial⟩⟩⟩, ⟨⟨⟨d_law_says A, by decide⟩, ⟨⟨d_are_ratios A, by decide⟩, trivial, trivial⟩, ⟨trivial, trivial⟩⟩, trivial⟩⟩⟩,
    trivial⟩⟩⟩⟩⟩⟩⟩
theorem d_law_sums_hold (A : At G) : FnD G f_law_sums_hold := by
  have h := fnD_of (n := 1) A.d_law_sums_hold A.bl b_law_sums_hold e_law_sums_hold s_law_sums_hold rfl (by decide) w_law_sums_hold (o_law_sums_hold A)
  exact h
/-! ### law -/
theorem s_law : FnScope ["script", "state", "t", "one", "great", "tried", "word", "bads", "bad", "n", "d"] ["script"] (defScope st_law) := C8.fnScope_by (by decide +kernel)
def b_law : Sb := (.cons (.fors (.nm 2 "t" ⟨222, 8, 222, 9⟩) (.rg1 (.int 6 0 ⟨222, 19, 222, 20⟩) ⟨222, 13, 222, 18⟩ ⟨222, 13, 222, 21⟩) (.cons (.ifs (.bop .Or (.no (.call f_law_ops_hold (.var 1 "state" ⟨223, 29, 223, 34⟩) .nil ⟨223, 15, 223, 28⟩ ⟨223, 15, 223, 35⟩) ⟨223, 11, 223, 35⟩) (.cons (.no (.call f_law_sums_hold (.var 1 "state" ⟨223, 58, 223, 63⟩) .nil ⟨223, 43, 223, 57⟩ ⟨223, 43, 223, 64⟩) ⟨223, 39, 223, 64⟩) .nil) ⟨223, 11, 223, 64⟩) (.cons (.ret (.bl false 0 ⟨224, 19, 224, 24⟩) ⟨224, 12, 224, 24⟩)
    .nil) .nil ⟨223, 8, 224, 24⟩)
    .nil) ⟨222, 4, 224, 24⟩)
    (.cons (.asg (.tp (.cons (.nm 3 "one" ⟨225, 4, 225, 7⟩) (.cons (.nm 4 "great" ⟨225, 9, 225, 14⟩) .nil)) 0 ⟨225, 4, 225, 14⟩) (.tup (.cons (.mk k_Ratio2 [] (.int 1 0 ⟨225, 24, 225, 25⟩) (.cons (.int 2 0 ⟨225, 27, 225, 28⟩) .nil) ⟨225, 18, 225, 23⟩ ⟨225, 18, 225, 29⟩) (.cons (.bi bInt (.of (.bin (.str "1" 0 ⟨225, 35, 225, 38⟩) (oAdd (some m_add)) (.bin (.str "0" 0 ⟨225, 41, 225, 44⟩) (oMul (some m_mul)) (.int 2000 0 ⟨225, 47, 225, 51⟩) ⟨225, 41, 225, 51⟩) ⟨225, 35, 225, 51⟩)) .nil ⟨225, 31, 225, 34⟩ ⟨225, 31, 225, 52⟩) .nil)) 0 ⟨225, 17, 225, 53⟩) ⟨225, 4, 225, 53⟩)
    (.cons (.ifs (.bop .Or (.cmp (.comp (.call f_law_told (.glo "_law_made" (.fn "_law_made") ⟨226, 18, 226, 27⟩) (.cons (.tup (.cons (.var 9 "n" ⟨226, 30, 226, 31⟩) (.cons (.int 0 0 ⟨226, 33, 226, 34⟩) .nil)) 0 ⟨226, 29, 226, 35⟩) .nil) ⟨226, 8, 226, 17⟩ ⟨226, 8, 226, 36⟩) (.nm 9 "n" ⟨226, 41, 226, 42⟩) (.seq (.of (.tup (.cons (.int 0 0 ⟨226, 47, 226, 48⟩) (.cons (.int 1 0 ⟨226, 50, 226, 51⟩) (.cons (.un (oNeg (some m_neg)) (.int 5 0 ⟨226, 54, 226, 55⟩) ⟨226, 53, 226, 55⟩) .nil))) 0 ⟨226, 46, 226, 56⟩))) .no ⟨.function, [(".0", .local), ("n", .local), ("_law_told", .globalImplicit), ("_law_made", .globalImplicit)], false, false, []⟩ [("n", 9)] ⟨226, 7, 226, 57⟩) oNe (.bin (.lst (.cons (.tup (.cons (.str "refused" 0 ⟨226, 63, 226, 72⟩) (.cons (.str "zero" 0 ⟨226, 74, 226, 80⟩) .nil)) 0 ⟨226, 62, 226, 81⟩) .nil) ⟨226, 61, 226, 82⟩) (oMul (some m_mul)) (.int 3 0 ⟨226, 85, 226, 86⟩) ⟨226, 61, 226, 86⟩) ⟨226, 7, 226, 86⟩) (.cons (.no (.call f_law_is (.mk k_Ratio2 [] (.int 0 0 ⟨226, 108, 226, 109⟩) (.cons (.un (oNeg (some m_neg)) (.int 7 0 ⟨226, 112, 226, 113⟩) ⟨226, 111, 226, 113⟩) .nil) ⟨226, 102, 226, 107⟩ ⟨226, 102, 226, 114⟩) (.cons (.int 0 0 ⟨226, 116, 226, 117⟩) (.cons (.int 1 0 ⟨226, 119, 226, 120⟩) .nil)) ⟨226, 94, 226, 101⟩ ⟨226, 94, 226, 121⟩) ⟨226, 90, 226, 121⟩) .nil) ⟨226, 7, 226, 121⟩) (.cons (.ret (.bl false 0 ⟨227, 15, 227, 20⟩) ⟨227, 8, 227, 20⟩)
    .nil) .nil ⟨226, 4, 227, 20⟩)
    (.cons (.asgC 5 "tried" ⟨228, 4, 228, 9⟩ (.tup (.cons (.glo "_law_made" (.fn "_law_made") ⟨228, 14, 228, 23⟩) (.cons (.tup (.cons (.var 9 "n" ⟨228, 26, 228, 27⟩) (.cons (.var 10 "d" ⟨228, 29, 228, 30⟩) .nil)) 0 ⟨228, 25, 228, 31⟩) .nil)) 0 ⟨228, 13, 228, 32⟩) (.tp (.cons (.nm 9 "n" ⟨228, 37, 228, 38⟩) (.cons (.nm 10 "d" ⟨228, 40, 228, 41⟩) .nil)) 0 ⟨228, 37, 228, 41⟩) (.seq (.of (.tup (.cons (.tup (.cons (.non 0 ⟨228, 47, 228, 51⟩) (.cons (.int 1 0 ⟨228, 53, 228, 54⟩) .nil)) 0 ⟨228, 46, 228, 55⟩) (.cons (.tup (.cons (.int 1 0 ⟨228, 58, 228, 59⟩) (.cons (.non 0 ⟨228, 61, 228, 65⟩) .nil)) 0 ⟨228, 57, 228, 66⟩) (.cons (.tup (.cons (.bl true 0 ⟨228, 69, 228, 73⟩) (.cons (.int 1 0 ⟨228, 75, 228, 76⟩) .nil)) 0 ⟨228, 68, 228, 77⟩) (.cons (.tup (.cons (.int 1 0 ⟨228, 80, 228, 81⟩) (.cons (.bl true 0 ⟨228, 83, 228, 87⟩) .nil)) 0 ⟨228, 79, 228, 88⟩) (.cons (.tup (.cons (.str "1" 0 ⟨228, 91, 228, 94⟩) (.cons (.int 1 0 ⟨228, 96, 228, 97⟩) .nil)) 0 ⟨228, 90, 228, 98⟩) (.cons (.tup (.cons (.var 3 "one" ⟨228, 101, 228, 104⟩) (.cons (.int 1 0 ⟨228, 106, 228, 107⟩) .nil)) 0 ⟨228, 100, 228, 108⟩) (.cons (.tup (.cons (.int 1 0 ⟨228, 111, 228, 112⟩) (.cons (.str "2" 0 ⟨228, 114, 228, 117⟩) .nil)) 0 ⟨228, 110, 228, 118⟩) .nil))))))) 0 ⟨228, 45, 228, 119⟩))) .no ⟨.function, [(".0", .local), ("n", .local), ("d", .local), ("_law_made", .globalImplicit)], false, false, []⟩ [("n", 9), ("d", 10)] ⟨228, 12, 228, 120⟩ ⟨228, 4, 228, 120⟩)
    (.cons (.fors (.nm 6 "word" ⟨229, 8, 229, 12⟩) (.seq (.of (.tup (.cons (.str "plus" 0 ⟨229, 17, 229, 23⟩) (.cons (.str "minus" 0 ⟨229, 25, 229, 32⟩) (.cons (.str "times" 0 ⟨229, 34, 229, 41⟩) (.cons (.str "less" 0 ⟨229, 43, 229, 49⟩) .nil)))) 0 ⟨229, 16, 229, 50⟩))) (.cons (.asg (.nm 5 "tried" ⟨230, 8, 230, 13⟩) (.bin (.var 5 "tried" ⟨230, 16, 230, 21⟩) (oAdd (some m_add)) (.comp (.tup (.cons (.glo "_law_act" (.fn "_law_act") ⟨230, 26, 230, 34⟩) (.cons (.tup (.cons (.var 3 "one" ⟨230, 37, 230, 40⟩) (.cons (.var 6 "word" ⟨230, 42, 230, 46⟩) (.cons (.var 8 "bad" ⟨230, 48, 230, 51⟩) .nil))) 0 ⟨230, 36, 230, 52⟩) .nil)) 0 ⟨230, 25, 230, 53⟩) (.nm 8 "bad" ⟨230, 58, 230, 61⟩) (.seq (.of (.tup (.cons (.non 0 ⟨230, 66, 230, 70⟩) (.cons (.int 1 0 ⟨230, 72, 230, 73⟩) (.cons (.str "1" 0 ⟨230, 75, 230, 78⟩) (.cons (.tup (.cons (.int 1 0 ⟨230, 81, 230, 82⟩) (.cons (.int 2 0 ⟨230, 84, 230, 85⟩) .nil)) 0 ⟨230, 80, 230, 86⟩) .nil)))) 0 ⟨230, 65, 230, 87⟩))) .no ⟨.function, [(".0", .local), ("bad", .local), ("_law_act", .globalImplicit), ("one", .free), ("word", .free)], false, false, []⟩ [("bad", 8)] ⟨230, 24, 230, 88⟩) ⟨230, 16, 230, 88⟩) ⟨230, 8, 230, 88⟩)
    .nil) ⟨229, 4, 230, 88⟩)
    (.cons (.asg (.nm 5 "tried" ⟨231, 4, 231, 9⟩) (.bin (.var 5 "tried" ⟨231, 12, 231, 17⟩) (oAdd (some m_add)) (.lst (.cons (.tup (.cons (.glo "_law_over" (.fn "_law_over") ⟨231, 22, 231, 31⟩) (.cons (.tup (.cons (.var 3 "one" ⟨231, 34, 231, 37⟩) (.cons (.int 2 0 ⟨231, 39, 231, 40⟩) .nil)) 0 ⟨231, 33, 231, 41⟩) .nil)) 0 ⟨231, 21, 231, 42⟩) (.cons (.tup (.cons (.glo "as_ratio" (.fn "as_ratio") ⟨231, 45, 231, 53⟩) (.cons (.tup (.cons (.non 0 ⟨231, 56, 231, 60⟩) .nil) 0 ⟨231, 55, 231, 62⟩) .nil)) 0 ⟨231, 44, 231, 63⟩) (.cons (.tup (.cons (.glo "as_ratio" (.fn "as_ratio") ⟨231, 66, 231, 74⟩) (.cons (.tup (.cons (.bl true 0 ⟨231, 77, 231, 81⟩) .nil) 0 ⟨231, 76, 231, 83⟩) .nil)) 0 ⟨231, 65, 231, 84⟩) (.cons (.tup (.cons (.glo "as_ratio" (.fn "as_ratio") ⟨231, 87, 231, 95⟩) (.cons (.tup (.cons (.str "1" 0 ⟨231, 98, 231, 101⟩) .nil) 0 ⟨231, 97, 231, 103⟩) .nil)) 0 ⟨231, 86, 231, 104⟩) (.cons (.tup (.cons (.glo "ratio_text" (.fn "ratio_text") ⟨231, 107, 231, 117⟩) (.cons (.tup (.cons (.int 1 0 ⟨231, 120, 231, 121⟩) .nil) 0 ⟨231, 119, 231, 123⟩) .nil)) 0 ⟨231, 106, 231, 124⟩) (.cons (.tup (.cons (.glo "ratio_text" (.fn "ratio_text") ⟨231, 127, 231, 137⟩) (.cons (.tup (.cons (.non 0 ⟨231, 140, 231, 144⟩) .nil) 0 ⟨231, 139, 231, 146⟩) .nil)) 0 ⟨231, 126, 231, 147⟩) .nil)))))) ⟨231, 20, 231, 148⟩) ⟨231, 12, 231, 148⟩) ⟨231, 4, 231, 148⟩)
    (.cons (.asg (.nm 7 "bads" ⟨232, 4, 232, 8⟩) (.lst (.cons (.non 0 ⟨232, 12, 232, 16⟩) (.cons (.int 5 0 ⟨232, 18, 232, 19⟩) (.cons (.str "" 0 ⟨232, 21, 232, 23⟩) (.cons (.str "-" 0 ⟨232, 25, 232, 28⟩) (.cons (.str "/" 0 ⟨232, 30, 232, 33⟩) (.cons (.str "1/" 0 ⟨232, 35, 232, 39⟩) (.cons (.str "/2" 0 ⟨232, 41, 232, 45⟩) (.cons (.str "1/0" 0 ⟨232, 47, 232, 52⟩) (.cons (.str "1/1" 0 ⟨232, 54, 232, 59⟩) (.cons (.str "2/4" 0 ⟨232, 61, 232, 66⟩) (.cons (.str "01" 0 ⟨232, 68, 232, 72⟩) (.cons (.str "-0" 0 ⟨232, 74, 232, 78⟩) (.cons (.str "0/1" 0 ⟨232, 80, 232, 85⟩) (.cons (.str "1/02" 0 ⟨232, 87, 232, 93⟩) (.cons (.str "1/-2" 0 ⟨232, 95, 232, 101⟩) (.cons (.str "+1" 0 ⟨232, 103, 232, 107⟩) (.cons (.str " 1" 0 ⟨232, 109, 232, 113⟩) (.cons (.str "1 " 0 ⟨232, 115, 232, 119⟩) (.cons (.str "1//2" 0 ⟨232, 121, 232, 127⟩) (.cons (.str "1/2/3" 0 ⟨232, 129, 232, 136⟩) (.cons (.str "1.5" 0 ⟨232, 138, 232, 143⟩) (.cons (.str "--1" 0 ⟨232, 145, 232, 150⟩) (.cons (.lst (.cons (.str "1" 0 ⟨232, 153, 232, 156⟩) .nil) ⟨232, 152, 232, 157⟩) .nil))))))))))))))))))))))) ⟨232, 11, 232, 158⟩) ⟨232, 4, 232, 158⟩)
    (.cons (.ifs (.bop .Or (.no (.bi bAll (.of (.comp (.cmp (.call f_law_told (.glo "read_ratio" (.fn "read_ratio") ⟨233, 26, 233, 36⟩) (.cons (.tup (.cons (.var 8 "bad" ⟨233, 39, 233, 42⟩) .nil) 0 ⟨233, 38, 233, 44⟩) .nil) ⟨233, 16, 233, 25⟩ ⟨233, 16, 233, 45⟩) (oEq true) (.tup (.cons (.str "text" 0 ⟨233, 50, 233, 56⟩) (.cons (.non 0 ⟨233, 58, 233, 62⟩) .nil)) 0 ⟨233, 49, 233, 63⟩) ⟨233, 16, 233, 63⟩) (.nm 8 "bad" ⟨233, 68, 233, 71⟩) (.seq (.of (.var 7 "bads" ⟨233, 75, 233, 79⟩))) .no ⟨.function, [(".0", .local), ("bad", .local), ("_law_told", .globalImplicit), ("read_ratio", .globalImplicit)], false, false, []⟩ [("bad", 8)] ⟨233, 15, 233, 80⟩)) .nil ⟨233, 11, 233, 14⟩ ⟨233, 11, 233, 81⟩) ⟨233, 7, 233, 81⟩) (.cons (.cmp (.call f_law_told (.glo "ratio_text" (.fn "ratio_text") ⟨233, 95, 233, 105⟩) (.cons (.tup (.cons (.mk k_Ratio1 [.int 1] (.var 4 "great" ⟨233, 114, 233, 119⟩) .nil ⟨233, 108, 233, 113⟩ ⟨233, 108, 233, 120⟩) .nil) 0 ⟨233, 107, 233, 122⟩) .nil) ⟨233, 85, 233, 94⟩ ⟨233, 85, 233, 123⟩) oNe (.tup (.cons (.str "refused" 0 ⟨233, 128, 233, 137⟩) (.cons (.str "long" 0 ⟨233, 139, 233, 145⟩) .nil)) 0 ⟨233, 127, 233, 146⟩) ⟨233, 85, 233, 146⟩) .nil) ⟨233, 7, 233, 146⟩) (.cons (.ret (.bl false 0 ⟨234, 15, 234, 20⟩) ⟨234, 8, 234, 20⟩)
    .nil) .nil ⟨233, 4, 234, 20⟩)
    (.cons (.ifs (.bop .Or (.cmp (.call f_law_told (.glo "read_ratio" (.fn "read_ratio") ⟨235, 17, 235, 27⟩) (.cons (.tup (.cons (.bin (.str "1" 0 ⟨235, 30, 235, 33⟩) (oAdd (some m_add)) (.bin (.str "0" 0 ⟨235, 36, 235, 39⟩) (oMul (some m_mul)) (.int 2000 0 ⟨235, 42, 235, 46⟩) ⟨235, 36, 235, 46⟩) ⟨235, 30, 235, 46⟩) .nil) 0 ⟨235, 29, 235, 48⟩) .nil) ⟨235, 7, 235, 16⟩ ⟨235, 7, 235, 49⟩) oNe (.tup (.cons (.str "text" 0 ⟨235, 54, 235, 60⟩) (.cons (.non 0 ⟨235, 62, 235, 66⟩) .nil)) 0 ⟨235, 53, 235, 67⟩) ⟨235, 7, 235, 67⟩) (.cons (.no (.cmp (.call f_read_ratio (.bin (.str "9" 0 ⟨235, 86, 235, 89⟩) (oMul (some m_mul)) (.int 2000 0 ⟨235, 92, 235, 96⟩) ⟨235, 86, 235, 96⟩) .nil ⟨235, 75, 235, 85⟩ ⟨235, 75, 235, 97⟩) (oEq true) (.mk k_Ratio1 [.int 1] (.bin (.var 4 "great" ⟨235, 107, 235, 112⟩) (oSub (some m_sub)) (.int 1 0 ⟨235, 115, 235, 116⟩) ⟨235, 107, 235, 116⟩) .nil ⟨235, 101, 235, 106⟩ ⟨235, 101, 235, 117⟩) ⟨235, 75, 235, 117⟩) ⟨235, 71, 235, 117⟩) (.cons (.cmp (.bi bLen (.of (.call f_ratio_text (.mk k_Ratio1 [.int 1] (.bin (.var 4 "great" ⟨235, 142, 235, 147⟩) (oSub (some m_sub)) (.int 1 0 ⟨235, 150, 235, 151⟩) ⟨235, 142, 235, 151⟩) .nil ⟨235, 136, 235, 141⟩ ⟨235, 136, 235, 152⟩) .nil ⟨235, 125, 235, 135⟩ ⟨235, 125, 235, 153⟩)) .nil ⟨235, 121, 235, 124⟩ ⟨235, 121, 235, 154⟩) oNe (.int 2000 0 ⟨235, 158, 235, 162⟩) ⟨235, 121, 235, 162⟩) .nil)) ⟨235, 7, 235, 162⟩) (.cons (.ret (.bl false 0 ⟨236, 15, 236, 20⟩) ⟨236, 8, 236, 20⟩)
    .nil) .nil ⟨235, 4, 236, 20⟩)
    (.cons (.ret (.bop .And (.cmp (.comp (.call f_are_ratios (.var 8 "bad" ⟨237, 23, 237, 26⟩) .nil ⟨237, 12, 237, 22⟩ ⟨237, 12, 237, 27⟩) (.nm 8 "bad" ⟨237, 32, 237, 35⟩) (.seq (.of (.tup (.cons (.non 0 ⟨237, 40, 237, 44⟩) (.cons (.tup .nil 0 ⟨237, 46, 237, 48⟩) (.cons (.lst (.cons (.var 3 "one" ⟨237, 51, 237, 54⟩) .nil) ⟨237, 50, 237, 55⟩) (.cons (.tup (.cons (.var 3 "one" ⟨237, 58, 237, 61⟩) (.cons (.int 1 0 ⟨237, 63, 237, 64⟩) .nil)) 0 ⟨237, 57, 237, 65⟩) (.cons (.tup (.cons (.var 3 "one" ⟨237, 68, 237, 71⟩) (.cons (.var 3 "one" ⟨237, 73, 237, 76⟩) .nil)) 0 ⟨237, 67, 237, 77⟩) .nil))))) 0 ⟨237, 39, 237, 78⟩))) .no ⟨.function, [(".0", .local), ("bad", .local), ("are_ratios", .globalImplicit)], false, false, []⟩ [("bad", 8)] ⟨237, 11, 237, 79⟩) (oEq true) (.lst (.cons (.bl false 0 ⟨237, 84, 237, 89⟩) (.cons (.bl true 0 ⟨237, 91, 237, 95⟩) (.cons (.bl false 0 ⟨237, 97, 237, 102⟩) (.cons (.bl false 0 ⟨237, 104, 237, 109⟩) (.cons (.bl true 0 ⟨237, 111, 237, 115⟩) .nil))))) ⟨237, 83, 237, 116⟩) ⟨237, 11, 237, 116⟩) (.cons (.call f_law_all_malformed (.var 5 "tried" ⟨237, 140, 237, 145⟩) .nil ⟨237, 121, 237, 139⟩ ⟨237, 121, 237, 146⟩) .nil) ⟨237, 11, 237, 146⟩) ⟨237, 4, 237, 146⟩)
    .nil))))))))))
theorem w_law : b_law.wf ["script", "state", "t", "one", "great", "tried", "word", "bads", "bad", "n", "d"] (defScope st_law) = true := by decide +kernel
theorem o_law (A : At G) : b_law.Ok G 13 := ⟨⟨trivial, ⟨⟨⟨⟨⟨d_law_ops_hold A, by decide⟩, trivial, trivial⟩, ⟨⟨⟨d_law_sums_hold A, by decide⟩, trivial, trivial⟩, trivial⟩⟩, ⟨trivial,
    trivial⟩, trivial⟩,
    trivial⟩⟩,
    ⟨⟨⟨⟨dk_Ratio2 A, by decide⟩, trivial, ⟨trivial, trivial⟩⟩, ⟨⟨(bInt_ok A.dig), ⟨trivial, (oAdd_ok (own_ok (o_Add A) (by decide))), ⟨trivial, (oMul_ok (own_ok (o_Mult A) (by decide))), trivial⟩⟩, trivial⟩, trivial⟩⟩,
    ⟨⟨⟨⟨⟨⟨trivial, ⟨trivial, ⟨⟨(oNeg_ok (neg_ok (o_neg A) (by decide))), trivial⟩, trivial⟩⟩⟩, trivial, ⟨⟨d_law_told A, by decide⟩, (glo_fn A.d_law_made), ⟨⟨trivial, ⟨trivial, trivial⟩⟩, trivial⟩⟩⟩, oNe_ok, ⟨⟨⟨trivial, ⟨trivial, trivial⟩⟩, trivial⟩, (oMul_ok (own_ok (o_Mult A) (by decide))), trivial⟩⟩, ⟨⟨⟨d_law_is A, by decide⟩, ⟨⟨dk_Ratio2 A, by decide⟩, trivial, ⟨⟨(oNeg_ok (neg_ok (o_neg A) (by decide))), trivial⟩, trivial⟩⟩, ⟨trivial, ⟨trivial, trivial⟩⟩⟩, trivial⟩⟩, ⟨trivial,
    trivial⟩, trivial⟩,
    ⟨⟨⟨⟨trivial, ⟨trivial, trivial⟩⟩, ⟨⟨trivial, ⟨trivial, trivial⟩⟩, ⟨⟨trivial, ⟨trivial, trivial⟩⟩, ⟨⟨trivial, ⟨trivial, trivial⟩⟩, ⟨⟨trivial, ⟨trivial, trivial⟩⟩, ⟨⟨trivial, ⟨trivial, trivial⟩⟩, ⟨⟨trivial, ⟨trivial, trivial⟩⟩, trivial⟩⟩⟩⟩⟩⟩⟩, trivial, ⟨(glo_fn A.d_law_made), ⟨⟨trivial, ⟨trivial, trivial⟩⟩, trivial⟩⟩⟩,
    ⟨⟨⟨trivial, ⟨trivial, ⟨trivial, ⟨trivial, trivial⟩⟩⟩⟩, ⟨⟨trivial, (oAdd_ok (own_ok (o_Add A) (by decide))), ⟨⟨trivial, ⟨trivial, ⟨trivial, ⟨⟨trivial, ⟨trivial, trivial⟩⟩, trivial⟩⟩⟩⟩, trivial, ⟨(glo_fn A.d_law_act), ⟨⟨trivial, ⟨trivial, ⟨trivial, trivial⟩⟩⟩, trivial⟩⟩⟩⟩,
    trivial⟩⟩,
    ⟨⟨trivial, (oAdd_ok (own_ok (o_Add A) (by decide))), ⟨⟨(glo_fn A.d_law_over), ⟨⟨trivial, ⟨trivial, trivial⟩⟩, trivial⟩⟩, ⟨⟨(glo_fn A.d_as_ratio), ⟨⟨trivial, trivial⟩, trivial⟩⟩, ⟨⟨(glo_fn A.d_as_ratio), ⟨⟨trivial, trivial⟩, trivial⟩⟩, ⟨⟨(glo_fn A.d_as_ratio), ⟨⟨trivial, trivial⟩, trivial⟩⟩, ⟨⟨(glo_fn A.d_ratio_text), ⟨⟨trivial, trivial⟩, trivial⟩⟩, ⟨⟨(glo_fn A.d_ratio_text), ⟨⟨trivial, trivial⟩, trivial⟩⟩, trivial⟩⟩⟩⟩⟩⟩⟩,
    ⟨⟨trivial, ⟨trivial, ⟨trivial, ⟨trivial, ⟨trivial, ⟨trivial, ⟨trivial, ⟨trivial, ⟨trivial, ⟨trivial, ⟨trivial, ⟨trivial, ⟨trivial, ⟨trivial, ⟨trivial, ⟨trivial, ⟨trivial, ⟨trivial, ⟨trivial, ⟨trivial, ⟨trivial, ⟨trivial, ⟨⟨trivial, trivial⟩, trivial⟩⟩⟩⟩⟩⟩⟩⟩⟩⟩⟩⟩⟩⟩⟩⟩⟩⟩⟩⟩⟩⟩⟩,
    ⟨⟨⟨⟨bAll_ok, ⟨trivial, trivial, ⟨⟨⟨d_law_told A, by decide⟩, (glo_fn A.d_read_ratio), ⟨⟨trivial, trivial⟩, trivial⟩⟩, (oEq_ok (eq_own (o_eq A) (by decide))), ⟨trivial, ⟨trivial, trivial⟩⟩⟩⟩, trivial⟩, ⟨⟨⟨⟨d_law_told A, by decide⟩, (glo_fn A.d_ratio_text), ⟨⟨⟨⟨dk_Ratio1 A, by decide⟩, trivial, trivial⟩, trivial⟩, trivial⟩⟩, oNe_ok, ⟨trivial, ⟨trivial, trivial⟩⟩⟩, trivial⟩⟩, ⟨trivial,
    trivial⟩, trivial⟩,
    ⟨⟨⟨⟨⟨⟨d_law_told A, by decide⟩, (glo_fn A.d_read_ratio), ⟨⟨⟨trivial, (oAdd_ok (own_ok (o_Add A) (by decide))), ⟨trivial, (oMul_ok (own_ok (o_Mult A) (by decide))), trivial⟩⟩, trivial⟩, trivial⟩⟩, oNe_ok, ⟨trivial, ⟨trivial, trivial⟩⟩⟩, ⟨⟨⟨⟨d_read_ratio A, by decide⟩, ⟨trivial, (oMul_ok (own_ok (o_Mult A) (by decide))), trivial⟩, trivial⟩, (oEq_ok (eq_own (o_eq A) (by decide))), ⟨⟨dk_Ratio1 A, by decide⟩, ⟨trivial, (oSub_ok (own_ok (o_Sub A) (by decide))), trivial⟩, trivial⟩⟩, ⟨⟨⟨bLen_ok, ⟨⟨d_ratio_text A, by decide⟩, ⟨⟨dk_Ratio1 A, by decide⟩, ⟨trivial, (oSub_ok (own_ok (o_Sub A) (by decide))), trivial⟩, trivial⟩, trivial⟩, trivial⟩, oNe_ok, trivial⟩, trivial⟩⟩⟩, ⟨trivial,
    trivial⟩, trivial⟩,
    ⟨⟨⟨⟨⟨trivial, ⟨trivial, ⟨⟨trivial, trivial⟩, ⟨⟨trivial, ⟨trivial, trivial⟩⟩, ⟨⟨trivial, ⟨trivial, trivial⟩⟩, trivial⟩⟩⟩⟩⟩, trivial, ⟨⟨d_are_ratios A, by decide⟩, trivial, trivial⟩⟩, (oEq_ok (eq_own (o_eq A) (by decide))), ⟨trivial, ⟨trivial, ⟨trivial, ⟨trivial, ⟨trivial, trivial⟩⟩⟩⟩⟩⟩, ⟨⟨⟨d_law_all_malformed A, by decide⟩, trivial, trivial⟩, trivial⟩⟩,
    trivial⟩⟩⟩⟩⟩⟩⟩⟩⟩⟩
/-- the first statement of law -/
def first_law : Stmt := .Assign [.Name "state" ⟨221, 4, 221, 9⟩] (.Call (.Name "_law_state" ⟨221, 12, 221, 22⟩) [.Name "script" ⟨221, 23, 221, 29⟩] [] ⟨221, 12, 221, 30⟩) ⟨221, 4, 221, 30⟩
theorem e_law : defBody st_law = first_law :: b_law.ast := by kernel_rfl
def n_law : Nat := 11
abbrev N_law : List Str := ["script", "state", "t", "one", "great", "tried", "word", "bads", "bad", "n", "d"]
def l_law : Nat := 13
end
end Dn.K00
/-! DnP00: what k00's text computes, in plain Lean. -/
namespace Dn.K00
open PySem L2 Dn
/-! ### common -/
theorem common_loop {c : DEnv → M Bool} {b : MS} (hc : ∀ x y s, c [.fz (.int x), .fz (.int y)] s = .ok (decide (0 < y)) s) (hb : ∀ x y s, y ≠ 0 → b [.fz (.int x), .fz (.int y)] s = .nx [.fz (.int y), .fz (.int (x.fmod y))] s) :
    ∀ (n : Nat) (x y : Int) (s : S), 0 ≤ x → 0 ≤ y → y.natAbs < n → whileL c b n [.fz (.int x), .fz (.int y)] s = .nx [.fz (.int (Int.gcd x y)), .fz (.int 0)] s
  | 0, x, y, s, _, _, h => absurd h (Nat.not_lt_zero _)
  | n + 1, x, y, s, hx, hy, h => by
    by_cases h0 : y = 0
    · subst h0
      rw [while_no (s1 := s) (by rw [hc]; rfl), Int.gcd_zero_right]
      congr
      omega
    · have hp : 0 < y := by omega
      rw [while_yes (s1 := s) (by rw [hc, decide_eq_true hp]) (hb x y s h0)]
      have hm : x.fmod y = x % y := Int.fmod_eq_emod_of_nonneg x hy
      have h1 := Int.emod_nonneg x h0
      have h2 := Int.emod_lt_of_pos x hp
      rw [hm, common_loop hc hb n y (x % y) s hy h1 (by omega)]
      have e : Int.gcd y (x % y) = Int.gcd x y := by
        obtain ⟨m, rfl⟩ := Int.eq_ofNat_of_zero_le hx
        obtain ⟨k, rfl⟩ := Int.eq_ofNat_of_zero_le hy
        rw [← Int.natCast_emod, Int.gcd_natCast_natCast, Int.gcd_natCast_natCast, Nat.gcd_comm m k, Nat.gcd_rec k m, Nat.gcd_comm]
      rw [e]
theorem abs_if (a : Int) : (if a < 0 then -a else a) = (a.natAbs : Int) := by split <;> omega
theorem g_common (a b : Int) (s : S) : f_common.g [.int a, .int b] s = .ok (.int (Int.gcd a b)) s := by
  simp [f_common, runB, b_common, bAbs, absD, abs_if]
  rw [common_loop (fun x y s => by rfl) (fun x y s h => by simp [oMod, modD, h])]
  · simp [Int.gcd]
  · omega
  · omega
  · simp [natAt]
theorem g_is_integer (d : D) (s : S) (h : kn d = true) : f_is_integer.g [d] s = .ok (.bl (isW d)) s := by
  cases d with
  | ins c fs =>
    cases c with
    | zero => simp [f_is_integer, b_is_integer, isTy, isTyD, kindB, insIn, isW]
    | succ c => cases h
  | _ => first | (cases h; done) | simp [f_is_integer, b_is_integer, isTy, isTyD, kindB, insIn, isW]
@[simp] theorem g_is_integer_int (a : Int) (s : S) : f_is_integer.g [.int a] s = .ok (.bl true) s := g_is_integer (.int a) s rfl
@[simp] theorem g_common' (a b : Int) (s : S) : f_common.g [.int a, .int b] s = .ok (.int (Int.gcd a b)) s := g_common a b s
@[simp] theorem n_is_integer : f_is_integer.n = 1 := rfl
@[simp] theorem n_common : f_common.n = 2 := rfl
theorem log_le {a b : Nat} (h : a ≤ b) : a.log2 ≤ b.log2 := by
  by_cases ha : a = 0
  · subst ha
    exact Nat.zero_le _
  · have hb : b ≠ 0 := by omega
    exact (Nat.le_log2 hb).mpr (Nat.le_trans (Nat.log2_self_le ha) h)
theorem gcd_le {a b : Int} (h : b ≠ 0) : Int.gcd a b ≤ b.natAbs := Nat.le_of_dvd (by omega) (Nat.gcd_dvd_right a.natAbs b.natAbs)
theorem num_pos {a b : Int} (h : 0 < b) : a.fdiv (Int.gcd a b) = (Rat.divInt a b).num := by
  rw [Rat.num_divInt, Int.gcd_comm b a, Int.sign_eq_one_of_pos h, Int.one_mul, Int.fdiv_eq_ediv_of_nonneg _ (by omega)]
theorem den_pos {a b : Int} (h : 0 < b) : b.fdiv (Int.gcd a b) = ((Rat.divInt a b).den : Int) := by
  rw [Rat.den_divInt, if_neg (by omega), Int.gcd_comm b a, Int.fdiv_eq_ediv_of_nonneg _ (by omega), Int.natCast_ediv]
  congr
  omega
theorem num_neg {a b : Int} (h : b < 0) : a.fdiv (-(Int.gcd a b : Int)) = (Rat.divInt a b).num := by
  rw [Rat.num_divInt, Int.gcd_comm b a, Int.sign_eq_neg_one_of_neg h, Int.neg_one_mul]
  have hd : ((Int.gcd a b : Nat) : Int) ∣ a := Int.gcd_dvd_left a b
  obtain ⟨k, hk⟩ := hd
  have h0 : ((Int.gcd a b : Nat) : Int) ≠ 0 := by
    have : Int.gcd a b ≠ 0 := by simp; omega
    omega
  generalize ((Int.gcd a b : Nat) : Int) = g at hk h0
  subst hk
  rw [← Int.mul_neg, Int.mul_ediv_cancel_left _ h0, show g * k = -g * -k by rw [Int.neg_mul_neg]]
  exact Int.mul_fdiv_cancel_left _ (by omega)
theorem den_neg {a b : Int} (h : b < 0) : b.fdiv (-(Int.gcd a b : Int)) = ((Rat.divInt a b).den : Int) := by
  rw [Rat.den_divInt, if_neg (by omega), Int.gcd_comm b a]
  have hd : ((Int.gcd a b : Nat) : Int) ∣ b := Int.gcd_dvd_right a b
  have h0 : ((Int.gcd a b : Nat) : Int) ≠ 0 := by
    have : Int.gcd a b ≠ 0 := by simp; omega
    omega
  rw [Int.natCast_ediv, show ((b.natAbs : Nat) : Int) = -b by omega]
  obtain ⟨k, hk⟩ := hd
  generalize ((Int.gcd a b : Nat) : Int) = g at hk h0
  subst hk
  rw [show g * k = -g * -k by rw [Int.neg_mul_neg], Int.mul_fdiv_cancel_left _ (by omega), Int.neg_mul_neg, ← Int.mul_neg, Int.mul_ediv_cancel_left _ h0]
/-- what Ratio(a, b) is -/
theorem i_Ratio (a b : Int) (s : S) (h : b ≠ 0) (hb : b.natAbs.log2 < 9000) : k_Ratio2.g [.int a, .int b] s = .ok [.int (Rat.divInt a b).num, .int (Rat.divInt a b).den] s := by
  have hg : Int.gcd a b ≠ 0 := by simp [h]
  have e1 : (b == 0) = false := by simpa using h
  have l : (Int.gcd a b).log2 < 9000 := Nat.lt_of_le_of_lt (log_le (gcd_le h)) hb
  by_cases hp : 0 < b
  · simp [k_Ratio2, b_i_Ratio, oEq, eqD, eqQ, scalD, flatD, mixD, eqF, e1, oGt, ordD, hp, oDiv, divD, divOk, hg, l]
    rw [q_initO_nx _ _ _ _ rfl, num_pos hp, den_pos hp]
  · have hn : b < 0 := by omega
    simp [k_Ratio2, b_i_Ratio, oEq, eqD, eqQ, scalD, flatD, mixD, eqF, e1, oGt, ordD, hp, oNeg, negD, oDiv, divD, divOk, hg, l]
    rw [q_initO_nx _ _ _ _ rfl, num_neg hn, den_neg hn]
theorem i_Ratio0 (a : Int) (s : S) : k_Ratio2.g [.int a, .int 0] s = .err ⟨3, .str "zero"⟩ s := by
  simp [k_Ratio2, b_i_Ratio, oEq, eqD, eqQ, scalD, flatD, mixD, eqF]
/-- a fraction as data -/
abbrev rq (r : Rat) : D := rD r.num r.den
theorem mulOk_of {a b : Int} (h : a.natAbs.log2 + b.natAbs.log2 < 1000000) : mulOk a b = true := by
  unfold mulOk
  rw [decide_eq_true h, Bool.or_true]
@[simp] theorem n_check_ratio : f_check_ratio.n = 1 := rfl
@[simp] theorem n_k2 : k_Ratio2.n = 2 := rfl
@[simp] theorem c_k2 : k_Ratio2.c = 0 := rfl
@[simp] theorem n_k1 : k_Ratio1.n = 1 := rfl
@[simp] theorem c_k1 : k_Ratio1.c = 0 := rfl
@[simp] theorem isIc_ins (x : Str) (p : Pos) (fs : List D) (s : S) : (isIc 0 x p cs).g (.ins 0 fs) s = .ok (.bl true) s := rfl
@[simp] theorem g_check_ratio (fs : List D) (s : S) : f_check_ratio.g [.ins 0 fs] s = .ok .non s := by
  simp [f_check_ratio, b_check_ratio]
theorem g_check_no (d : D) (s : S) (h : kn d = true) (hq : isQ d = false) : f_check_ratio.g [d] s = .err ⟨2, .str "a ratio"⟩ s := by
  simp [f_check_ratio, b_check_ratio, isIc_no _ _ d _ h hq]
theorem rat_add (p q : Rat) : Rat.divInt (p.num * q.den + q.num * p.den) (p.den * q.den) = p + q := by
  rw [← Rat.divInt_add_divInt _ _ (by have := p.den_nz; omega) (by have := q.den_nz; omega), Rat.num_divInt_den, Rat.num_divInt_den]
theorem rat_sub (p q : Rat) : Rat.divInt (p.num * q.den - q.num * p.den) (p.den * q.den) = p - q := by
  rw [← Rat.divInt_sub_divInt _ _ (by have := p.den_nz; omega) (by have := q.den_nz; omega), Rat.num_divInt_den, Rat.num_divInt_den]
theorem rat_mul (p q : Rat) : Rat.divInt (p.num * q.num) (p.den * q.den) = p * q := by
  rw [← Rat.divInt_mul_divInt, Rat.num_divInt_den, Rat.num_divInt_den]
/-- small enough for the program's arithmetic -/
structure Sm' (r : Rat) : Prop where
  n : r.num.natAbs.log2 < 4000
  d : r.den.log2 < 4000
theorem den_ne (r : Rat) : ((r.den : Nat) : Int) ≠ 0 := by have := r.den_nz; omega
theorem log_mul {a b : Nat} {i j : Nat} (ha : a.log2 < i) (hb : b.log2 < j) : (a * b).log2 < i + j := by
  by_cases h : a * b = 0
  · rw [h]
    have : Nat.log2 0 = 0 := by decide
    omega
  · have h1 : a ≠ 0 := fun e => h (by rw [e, Nat.zero_mul])
    have h2 : b ≠ 0 := fun e => h (by rw [e, Nat.mul_zero])
    rw [Nat.log2_lt h, Nat.pow_add]
    exact Nat.mul_lt_mul'' ((Nat.log2_lt h1).mp ha) ((Nat.log2_lt h2).mp hb)
theorem g_add {p q : Rat} (hp : Sm' p) (hq : Sm' q) (s : S) : m_add.g [rq p, rq q] s = .ok (rq (p + q)) s := by
  have e0 : (p.den : Int) * q.den ≠ 0 := by
    have := Nat.mul_ne_zero p.den_nz q.den_nz
    exact_mod_cast this
  have m1 : mulOk p.num q.den = true := mulOk_of (by have := hp.n; have := hq.d; simp; omega)
  have m2 : mulOk q.num p.den = true := mulOk_of (by have := hq.n; have := hp.d; simp; omega)
  have m3 : mulOk p.den q.den = true := mulOk_of (by have := hp.d; have := hq.d; simp; omega)
  have l : ((p.den : Int) * q.den).natAbs.log2 < 9000 := by
    rw [Int.natAbs_mul]
    have := log_mul hp.d hq.d
    simp
    omega
  simp [m_add, b_m_add, oAdd, addD, oMul, mulD, m1, m2, m3]
  rw [i_Ratio _ _ _ e0 l]
  simp [rat_add]
theorem sm_den {p q : Rat} (hp : Sm' p) (hq : Sm' q) : ((p.den : Int) * q.den).natAbs.log2 < 9000 ∧ (p.den : Int) * q.den ≠ 0 := by
  have := log_mul hp.d hq.d
  refine ⟨by rw [Int.natAbs_mul]; simp; omega, ?_⟩
  have := Nat.mul_ne_zero p.den_nz q.den_nz
  exact_mod_cast this
theorem g_sub {p q : Rat} (hp : Sm' p) (hq : Sm' q) (s : S) : m_sub.g [rq p, rq q] s = .ok (rq (p - q)) s := by
  have m1 : mulOk p.num q.den = true := mulOk_of (by have := hp.n; have := hq.d; simp; omega)
  have m2 : mulOk q.num p.den = true := mulOk_of (by have := hq.n; have := hp.d; simp; omega)
  have m3 : mulOk p.den q.den = true := mulOk_of (by have := hp.d; have := hq.d; simp; omega)
  simp [m_sub, b_m_sub, oSub, subD, oMul, mulD, m1, m2, m3]
  rw [i_Ratio _ _ _ (sm_den hp hq).2 (sm_den hp hq).1]
  simp [rat_sub]
theorem g_mul {p q : Rat} (hp : Sm' p) (hq : Sm' q) (s : S) : m_mul.g [rq p, rq q] s = .ok (rq (p * q)) s := by
  have m1 : mulOk p.num q.num = true := mulOk_of (by have := hp.n; have := hq.n; omega)
  have m3 : mulOk p.den q.den = true := mulOk_of (by have := hp.d; have := hq.d; simp; omega)
  simp [m_mul, b_m_mul, oMul, mulD, m1, m3]
  rw [i_Ratio _ _ _ (sm_den hp hq).2 (sm_den hp hq).1]
  simp [rat_mul]
theorem g_neg {p : Rat} (hp : Sm' p) (s : S) : m_neg.g [rq p] s = .ok (rq (-p)) s := by
  simp [m_neg, b_m_neg, oNeg, negD]
  rw [i_Ratio _ _ _ (den_ne p) (by have := hp.d; simp; omega)]
  rw [← Rat.neg_divInt, Rat.num_divInt_den]
  simp
theorem rat_div (p q : Rat) (h : q ≠ 0) : Rat.divInt (p.num * q.den) (p.den * q.num) = p / q := by
  rw [Rat.div_def, ← Rat.divInt_mul_divInt, Rat.num_divInt_den, ← Rat.inv_divInt, Rat.num_divInt_den]
theorem num_ne {q : Rat} (h : q ≠ 0) : q.num ≠ 0 := fun e => h (Rat.num_eq_zero.mp e)
theorem g_over {p q : Rat} (hp : Sm' p) (hq : Sm' q) (h : q ≠ 0) (s : S) : m_over.g [rq p, rq q] s = .ok (rq (p / q)) s := by
  have m1 : mulOk p.num q.den = true := mulOk_of (by have := hp.n; have := hq.d; simp; omega)
  have m3 : mulOk p.den q.num = true := mulOk_of (by have := hp.d; have := hq.n; simp; omega)
  have l : ((p.den : Int) * q.num).natAbs.log2 < 9000 := by
    rw [Int.natAbs_mul]
    have := log_mul hp.d hq.n
    simp
    omega
  simp [m_over, b_m_over, oMul, mulD, m1, m3]
  rw [i_Ratio _ _ _ (Int.mul_ne_zero (den_ne p) (num_ne h)) l, rat_div _ _ h]
  simp
theorem g_over0 {p q : Rat} (hp : Sm' p) (hq : Sm' q) (h : q = 0) (s : S) : m_over.g [rq p, rq q] s = .err ⟨3, .str "zero"⟩ s := by
  subst h
  have e1 : (1 : Int).natAbs.log2 = 0 := by decide
  have e0 : (0 : Int).natAbs.log2 = 0 := by decide
  have m1 : mulOk p.num 1 = true := mulOk_of (by have := hp.n; omega)
  have m3 : mulOk p.den 0 = true := mulOk_of (by have := hp.d; simp; omega)
  simp [m_over, b_m_over, oMul, mulD, m1, m3, i_Ratio0]
theorem g_less {p q : Rat} (hp : Sm' p) (hq : Sm' q) (s : S) : m_less.g [rq p, rq q] s = .ok (.bl (decide (p < q))) s := by
  have m1 : mulOk p.num q.den = true := mulOk_of (by have := hp.n; have := hq.d; simp; omega)
  have m2 : mulOk q.num p.den = true := mulOk_of (by have := hq.n; have := hp.d; simp; omega)
  simp [m_less, b_m_less, oMul, mulD, m1, m2, oLt, ordD, Rat.lt_iff]
theorem g_is_whole (p : Rat) (s : S) : m_is_whole.g [rq p] s = .ok (.bl (decide (p.den = 1))) s := by
  have e : ((p.den : Int) == 1) = decide (p.den = 1) := by
    by_cases h : p.den = 1
    · rw [h]; rfl
    · rw [decide_eq_false h]; simp; omega
  simp [m_is_whole, b_m_is_whole, oEq, eqD, eqQ, scalD, flatD, mixD, eqF, e]
theorem g_floor {p : Rat} (hp : Sm' p) (s : S) : m_floor.g [rq p] s = .ok (.int (p.num / p.den)) s := by
  have l : p.den.log2 < 9000 := by have := hp.d; omega
  simp [m_floor, b_m_floor, oDiv, divD, divOk, p.den_nz, l, Int.fdiv_eq_ediv_of_nonneg]
theorem g_sign (p : Rat) (s : S) : m_sign.g [rq p] s = .ok (.int (b2 (decide (0 < p.num)) - b2 (decide (p.num < 0)))) s := by
  simp [m_sign, b_m_sign, oGt, oLt, ordD, oSub, subD]
theorem ix0 (a b : Int) : ixD .st (.int 0) (a, b) = .ok (.int a) (a, b) := rfl
theorem ix1 (a b : Int) : ixD .st (.int 1) (a, b) = .ok (.int b) (a, b) := rfl
theorem g_take (m : Int) (h : 0 < m) (hl : m.natAbs.log2 < 9000) (s : S) : ∃ v s', (0 ≤ v ∧ v < m) ∧ f_law_take.g [.st, .int m] s = .ok (.int v) s' := by
  obtain ⟨a, b⟩ := s
  have h0 : m ≠ 0 := by omega
  have fm : ∀ x : Int, 0 ≤ x.fmod m ∧ x.fmod m < m := fun x => ⟨Int.fmod_nonneg_of_pos x h, Int.fmod_lt_of_pos x h⟩
  by_cases hp : 0 < a
  · refine ⟨a.fmod m, (a.fdiv m, b), fm a, ?_⟩
    simp [f_law_take, b_law_take, ix0, ix1, oGt, ordD, hp, bInt, intD, oMod, modD, h0, mSetSt, lift, oDiv, divD, divOk, hl, stD]
  · have mo : mulOk b 48271 = true := by
      unfold mulOk two64
      rw [show decide ((48271 : Int).natAbs < 18446744073709551616) = true by decide]
      simp
    have l7 : Nat.log2 7 < 9000 := by decide
    refine ⟨(((b * 48271 + 11).fmod 2147483647).fdiv 7).fmod m, (a, (b * 48271 + 11).fmod 2147483647), fm _, ?_⟩
    simp [f_law_take, b_law_take, ix0, ix1, oGt, ordD, hp, bInt, intD, oMod, modD, h0, mSetSt, lift, oDiv, divD, divOk, hl, stD, oMul, mulD, mo, oAdd, addD, l7]
@[simp] theorem n_take : f_law_take.n = 2 := rfl
@[simp] theorem n_pair : f_law_pair.n = 1 := rfl
theorem g_pair (s : S) : ∃ a b s', (a.natAbs ≤ 1000000000000 ∧ 0 < b ∧ b ≤ 1000000000000) ∧ f_law_pair.g [.st] s = .ok (.tup [.int a, .int b]) s' := by
  obtain ⟨v, s1, hv, e1⟩ := g_take 4 (by decide) (by decide) s
  obtain ⟨w, hw, hw2⟩ : ∃ w : Int, atI [D.int 12, D.int 7, D.int 1000003, D.int 1000000000000] v = some (.int w) ∧ 0 < w ∧ w ≤ 1000000000000 := by
    have : v = 0 ∨ v = 1 ∨ v = 2 ∨ v = 3 := by omega
    rcases this with rfl | rfl | rfl | rfl
    · exact ⟨12, rfl, by decide⟩
    · exact ⟨7, rfl, by decide⟩
    · exact ⟨1000003, rfl, by decide⟩
    · exact ⟨1000000000000, rfl, by decide⟩
  have lg : ∀ m : Int, 0 < m → m ≤ 3000000000000 → m.natAbs.log2 < 9000 := fun m h1 h2 => by
    have : m.natAbs < 2 ^ 9000 := Nat.lt_of_le_of_lt (show m.natAbs ≤ 3000000000000 by omega) (by decide +kernel)
    exact (Nat.log2_lt (by omega)).mpr this
  obtain ⟨x, s2, hx, e2⟩ := g_take (2 * w + 1) (by omega) (lg _ (by omega) (by omega)) s1
  obtain ⟨y, s3, hy, e3⟩ := g_take w (by omega) (lg _ (by omega) (by omega)) s2
  have mo : mulOk 2 w = true := by
    unfold mulOk two64
    rw [show decide ((2 : Int).natAbs < 18446744073709551616) = true by decide]
    simp
  have ix : ∀ s, ixD (.tup [D.int 12, D.int 7, D.int 1000003, D.int 1000000000000]) (.int v) s = .ok (.int w) s := fun s => by
    show (match atI [D.int 12, D.int 7, D.int 1000003, D.int 1000000000000] v with | some d => R.ok d s | none => .bad) = _
    rw [hw]
  refine ⟨x - w, 1 + y, s3, by omega, ?_⟩
  simp [f_law_pair, b_law_pair, sizeLine_eq, e1, ix, oMul, mulD, mo, oAdd, addD, e2, oSub, subD, e3]
theorem g_law_common (a b : Int) (s : S) : f_law_common.g [.int a, .int b] s = .ok (.int (Int.gcd a b)) s := by
  simp [f_law_common, b_law_common, bAbs, absD, abs_if]
  rw [common_loop (fun x y s => by rfl) (fun x y s h => by simp [oMod, modD, bInt, intD, h])]
  · simp [Int.gcd]
  · omega
  · omega
  · simp [natAt]
@[simp] theorem n_law_common : f_law_common.n = 2 := rfl
theorem g_plain (n d : Int) (h : d ≠ 0) (hd : d.natAbs.log2 < 9000) (s : S) : f_law_plain.g [.int n, .int d] s = .ok (.tup [.int (Rat.divInt n d).num, .int (Rat.divInt n d).den]) s := by
  have hg : Int.gcd n d ≠ 0 := by simp [h]
  have l : (Int.gcd n d).log2 < 9000 := Nat.lt_of_le_of_lt (log_le (gcd_le h)) hd
  by_cases hp : 0 < d
  · simp [f_law_plain, b_law_plain, g_law_common, oGt, ordD, hp, oDiv, divD, divOk, hg, l, sizeLine_eq, num_pos hp, den_pos hp]
  · have hn : 0 < -d := by omega
    have e1 := num_pos (a := -n) hn
    have e2 := den_pos (a := -n) hn
    rw [Rat.neg_divInt_neg, Int.gcd_neg, Int.neg_gcd] at e1 e2
    simp [f_law_plain, b_law_plain, g_law_common, oGt, ordD, hp, oDiv, divD, divOk, hg, l, sizeLine_eq, oNeg, negD, e1, e2]
@[simp] theorem n_law_plain : f_law_plain.n = 2 := rfl
@[simp] theorem n_law_is_whole : f_law_is_whole.n = 1 := rfl
theorem isTy_flat (T : String) (p : Pos) (d : D) (b : Bool) (s : S) (h : insIn cs d = true) (k : kindB T d = some b) : (isTy T p cs).g d s = .ok (.bl b) s := by
  show (if insIn cs d = true then isTyD T d else bad) s = _
  rw [if_pos h]
  unfold isTyD
  rw [k]
  rfl
theorem g_law_is_whole (d : D) (s : S) (h : kn d = true) : f_law_is_whole.g [d] s = .ok (.bl (isW d)) s := by
  cases d with
  | ins c fs =>
    cases c with
    | zero => simp [f_law_is_whole, b_law_is_whole, isTy, isTyD, kindB, insIn, isW]
    | succ c => cases h
  | _ => first | (cases h; done) | simp [f_law_is_whole, b_law_is_whole, isTy, isTyD, kindB, insIn, isW]
@[simp] theorem oEq_int (a b : Int) (s : S) : (oEq false).g (.int a) (.int b) s = .ok (.bl (a == b)) s := by
  simp [oEq, eqD, eqQ, scalD, flatD, mixD, eqF]
@[simp] theorem oEq_str (a b : Str) (s : S) : (oEq false).g (.str a) (.str b) s = .ok (.bl (a == b)) s := by
  simp [oEq, eqD, eqQ, scalD, flatD, mixD, eqF]
end Dn.K00
namespace Dn
open PySem L2
def compO (own : List Nat) (t : T) (ft : DEnv → M Bool) (fe : DEnv → M D) (env : DEnv) (xs : List D) (o : Option DEnv) (s : S) : R (List D) := match o with
  | none => .bad
  | some env' => (Dn.noErr (ft env' s)).bind fun b s => if b = true then (Dn.noErr (fe env' s)).bind fun d s => (compL own t ft fe env xs s).bind fun ds s => .ok (d :: ds) s else compL own t ft fe env xs s
@[simp] theorem q_comp1 (own : List Nat) (t : T) (ft : DEnv → M Bool) (fe : DEnv → M D) (env : DEnv) (x : D) (xs : List D) (s : S) : compL own t ft fe env (x :: xs) s = compO own t ft fe env xs (bindT t x (wipeD env own)) s := by
  unfold compO
  rw [compL]
  cases bindT t x (wipeD env own) <;> rfl
@[simp] theorem q_compO (own : List Nat) (t : T) (ft : DEnv → M Bool) (fe : DEnv → M D) (env env' : DEnv) (xs : List D) (s : S) : compO own t ft fe env xs (some env') s = (Dn.noErr (ft env' s)).bind fun b s => if b = true then (Dn.noErr (fe env' s)).bind fun d s => (compL own t ft fe env xs s).bind fun ds s => .ok (d :: ds) s else compL own t ft fe env xs s := rfl
@[simp] theorem q_wipe0 (env : DEnv) : wipeD env [] = env := rfl
@[simp] theorem q_wipe1 (env : DEnv) (i : Nat) (is : List Nat) : wipeD env (i :: is) = (wipeD env is).set i .un := rfl
@[simp] theorem q_no_tst (env : DEnv) (s : S) : Oe.no.tst env s = .ok true s := rfl
@[simp] theorem q_ixT (xs : List D) (i : Int) (s : S) : ixD (.tup xs) (.int i) s = atO (atI xs i) s := by
  unfold atO
  show (match atI xs i with | some d => R.ok d s | none => .bad) = _
  cases atI xs i <;> rfl
@[simp] theorem q_at0 (x : D) (xs : List D) : atI (x :: xs) 0 = some x := by
  have : ixN (xs.length + 1) 0 = some 0 := by
    unfold ixN
    rw [if_pos (by omega), if_pos (by omega)]
    rfl
  simp [atI, this]
@[simp] theorem q_at1 (x y : D) (xs : List D) : atI (x :: y :: xs) 1 = some y := by
  have : ixN (xs.length + 1 + 1) 1 = some 1 := by
    unfold ixN
    rw [if_pos (by omega), if_pos (by omega)]
    rfl
  simp [atI, this]
@[simp] theorem q_quD (f : List Bool → Bool) (xs : List D) (bs : List Bool) (s : S) (h : blsOf xs = some bs) : quD f [.lst xs] s = .ok (.bl (f bs)) s := by
  show (match blsOf xs with | some bs => rt (D.bl (f bs)) | none => bad) s = _
  rw [h]
  rfl
@[simp] theorem q_bls0 : blsOf [] = some [] := rfl
@[simp] theorem q_bls1 (b : Bool) (xs : List D) : blsOf (.bl b :: xs) = (blsOf xs).map (b :: ·) := by
  show (match blsOf xs with | _ => _) = _
  cases blsOf xs <;> rfl
end Dn
namespace Dn.K00
open PySem L2 Dn
theorem is_whole_int (a : Int) (s : S) : f_law_is_whole.g [.int a] s = .ok (.bl true) s := g_law_is_whole _ s rfl
theorem is_whole_str (a : Str) (s : S) : f_law_is_whole.g [.str a] s = .ok (.bl false) s := g_law_is_whole _ s rfl
theorem same_int (m : Nat) (a b : Int) (s : S) : g_law_same (m + 1) [.int a, .int b] s = .ok (.bl (a == b)) s := by
  simp [g_law_same, b_law_same, isTy, isTyD, kindB, insIn, oIs, isD, isNonD, is_whole_int]
theorem same_str (m : Nat) (a b : Str) (s : S) : g_law_same (m + 1) [.str a, .str b] s = .ok (.bl (a == b)) s := by
  simp [g_law_same, b_law_same, isTy, isTyD, kindB, insIn, oIs, isD, isNonD, is_whole_str]
theorem same_two' (m : Nat) (g : List D → M D) (hg : ∀ a b s, g [.int a, .int b] s = .ok (.bl (a == b)) s) (a b c d : Int) (s : S) :
    runB 3 (b_law_same ⟨"_law_same", 2, m, g⟩).den [.tup [.int a, .int b], .tup [.int c, .int d]] s = .ok (.bl (a == c && b == d)) s := by
  simp [b_law_same, isTy, isTyD, kindB, insIn, oIs, isD, bLen, lenD, bAll, rgD, rg1D, hg, sizeLine_eq, show List.range 2 = [0,1] from rfl]
@[simp] theorem n_says : f_law_says.n = 2 := rfl
@[simp] theorem n_same : f_law_same.n = 2 := rfl
@[simp] theorem n_law_is : f_law_is.n = 3 := rfl
theorem g_same_int (a b : Int) (s : S) : f_law_same.g [.int a, .int b] s = .ok (.bl (a == b)) s := same_int 5 a b s
theorem g_same_str (a b : Str) (s : S) : f_law_same.g [.str a, .str b] s = .ok (.bl (a == b)) s := same_str 5 a b s
theorem g_same_two (a b c d : Int) (s : S) : f_law_same.g [.tup [.int a, .int b], .tup [.int c, .int d]] s = .ok (.bl (a == c && b == d)) s := by
  have e : f_law_same.g = runB 3 (b_law_same ⟨"_law_same", 2, 6, g_law_same 5⟩).den := by
    unfold f_law_same
    show g_law_same (5 + 1) = _
    rw [g_law_same]
  rw [e]
  exact same_two' 6 _ (same_int 4) a b c d s
@[simp] theorem oEq_bl (a b : Bool) (s : S) : (oEq false).g (.bl a) (.bl b) s = .ok (.bl (a == b)) s := by
  simp [oEq, eqD, eqQ, scalD, flatD, mixD, eqF]
theorem g_says (a b : Bool) (s : S) : f_law_says.g [.bl a, .bl b] s = .ok (.bl (a == b)) s := by
  simp [f_law_says, b_law_says, isTy, isTyD, kindB, insIn]
theorem g_law_is (r : Rat) (n d : Int) (h : d ≠ 0) (hd : d.natAbs.log2 < 9000) (e : r = Rat.divInt n d) (s : S) : f_law_is.g [rq r, .int n, .int d] s = .ok (.bl true) s := by
  subst e
  simp [f_law_is, b_law_is, rq, rD, isIc_ins', sizeLine_eq, g_plain n d h hd, g_same_two]
end Dn.K00
namespace Dn.K00
open PySem L2 Dn
@[simp] theorem q_at2 (x y z : D) (xs : List D) : atI (x :: y :: z :: xs) 2 = some z := by
  have : ixN (xs.length + 1 + 1 + 1) 2 = some 2 := by
    unfold ixN
    rw [if_pos (by omega), if_pos (by omega)]
    rfl
  simp [atI, this]
@[simp] theorem n_over : m_over.n = 2 := rfl
theorem c_over (r : Rat) : isIns m_over.c (rq r) = true := rfl
@[simp] theorem n_law_over : f_law_over.n = 2 := rfl
theorem g_law_over {a b : Rat} (ha : Sm' a) (hb : Sm' b) (hz : b ≠ 0) (s : S) : f_law_over.g [rq a, rq b] s = .ok (rq (a / b)) s := by
  simp [f_law_over, b_law_over, c_over]
  rw [g_over ha hb hz]
  rfl
theorem g_law_over0 {a b : Rat} (ha : Sm' a) (hb : Sm' b) (hz : b = 0) (s : S) : f_law_over.g [rq a, rq b] s = .err ⟨3, .str "zero"⟩ s := by
  simp [f_law_over, b_law_over, c_over]
  rw [g_over0 ha hb hz]
  rfl
/-- what _law_told makes of an answer -/
def tellR : R D → R D
  | .ok d s => .ok (.tup [.str "told", d]) s
  | .err e s => outR (toldX e.c e.a s)
  | .bad => .bad
theorem told1 {y : Str} {c : Fn} (hf : fnAt acts y = some c) (hn : c.n = 1) (d : D) (s : S) : f_law_told.g [.fn y, .tup [d]] s = tellR (c.g [d] s) := by
  simp [f_law_told, b_law_told, Told, bLen, lenD, ordD, oGt, sizeLine_eq, hf, hn]
  cases c.g [d] s <;> simp [tellR, toldX]
theorem told2 {y : Str} {c : Fn} (hf : fnAt acts y = some c) (hn : c.n = 2) (d e : D) (s : S) : f_law_told.g [.fn y, .tup [d, e]] s = tellR (c.g [d, e] s) := by
  simp [f_law_told, b_law_told, Told, bLen, lenD, ordD, oGt, sizeLine_eq, hf, hn]
  cases c.g [d, e] s <;> simp [tellR, toldX]
theorem told3 {y : Str} {c : Fn} (hf : fnAt acts y = some c) (hn : c.n = 3) (d e f : D) (s : S) : f_law_told.g [.fn y, .tup [d, e, f]] s = tellR (c.g [d, e, f] s) := by
  simp [f_law_told, b_law_told, Told, bLen, lenD, ordD, oGt, sizeLine_eq, hf, hn]
  cases c.g [d, e, f] s <;> simp [tellR, toldX]
theorem fa_over : fnAt acts "_law_over" = some f_law_over := rfl
theorem fa_made : fnAt acts "_law_made" = some f_law_made := rfl
theorem fa_act : fnAt acts "_law_act" = some f_law_act := rfl
theorem fa_as : fnAt acts "as_ratio" = some f_as_ratio := rfl
theorem fa_text : fnAt acts "ratio_text" = some f_ratio_text := rfl
theorem fa_read : fnAt acts "read_ratio" = some f_read_ratio := rfl
end Dn.K00
namespace Dn
open PySem L2
/-! ### numbers in plain writing -/
def digB (c : Nat) : Bool := decide (48 ≤ c) && decide (c ≤ 57)
def isNum (a : List Nat) : Bool := !(a == []) && (a.all digB && (!(a.head? == some 48) || a == [48]))
theorem digs_all {a : List Nat} : a.all digB = true ↔ NumText.AllDigits a := by
  simp [digB, NumText.AllDigits]
theorem head_num (n : Nat) : 0 < n → (TL.numL n).head? ≠ some 48 := by
  induction n using Nat.strongRecOn with
  | _ n ih =>
    intro hp
    by_cases h : n < 10
    · rw [TL.numL_lt h]
      simp
      omega
    · rw [TL.numL_step (by omega)]
      have h1 := ih (n / 10) (by omega) (by omega)
      have h2 := TL.numL_ne (n / 10)
      generalize TL.numL (n / 10) = l at h1 h2
      cases l with
      | nil => exact absurd rfl h2
      | cons c l => exact h1
theorem isNum_num (n : Nat) : isNum (TL.numL n) = true := by
  have h1 := digs_all.mpr (TL.numL_digits n)
  have h2 := TL.numL_ne n
  by_cases h : n = 0
  · subst h
    decide
  · have h3 := head_num n (by omega)
    simp [isNum, h1, h2, h3]
theorem num_isNum {a : List Nat} (h : isNum a = true) : TL.numL (NumText.digitsVal a) = a := by
  simp [isNum] at h
  obtain ⟨h1, h2, h3⟩ := h
  have hd : NumText.AllDigits a := digs_all.mp (List.all_eq_true.mpr h2)
  have back : (a.map Char.ofNat).map Char.toNat = a := by
    rw [List.map_map]
    conv => rhs; rw [← List.map_id a]
    refine List.map_congr_left fun c hc => ?_
    have := hd c hc
    show (Char.ofNat c).toNat = c
    unfold Char.ofNat
    rw [dif_pos (Or.inl (by omega))]
    simp [Char.toNat, Char.ofNatAux]
  unfold TL.numL
  cases a with
  | nil => exact absurd rfl h1
  | cons c r =>
    by_cases hr : r = []
    · subst hr
      rw [NumText.toDigits_digitsVal 0 _ rfl hd (.inl rfl), back]
    · rw [NumText.toDigits_digitsVal r.length _ rfl hd (.inr ⟨c, r, rfl, by
        have := hd.head
        rcases h3 with h3 | h3
        · simp at h3
          omega
        · cases h3
          exact absurd rfl hr⟩), back]
theorem isNum_val {a : List Nat} (h : isNum a = true) : NumText.AllDigits a ∧ a ≠ [] := by
  simp [isNum] at h
  exact ⟨digs_all.mp (List.all_eq_true.mpr h.2.1), h.1⟩
/-! ### texts -/
abbrev tx (l : List Nat) : Str := SX.S l
@[simp] theorem q_itemsS (l : List Nat) (s : S) : itemsD (.str (tx l)) s = .ok (l.map fun c => .str (tx [c])) s := by
  show R.ok ((List.toArray l).toList.map fun c => D.str ⟨#[c]⟩) s = _
  rfl
theorem eq_tx (a b : List Nat) (s : S) : (oEq false).g (.str (tx a)) (.str (tx b)) s = .ok (.bl (a == b)) s := by
  simp [oEq, eqD, eqQ, scalD, flatD, mixD, eqF, SX.S_beq]
theorem ne_tx (a b : List Nat) (s : S) : oNe.g (.str (tx a)) (.str (tx b)) s = .ok (.bl (!(a == b))) s := by
  simp [oNe, neD, scalD, flatD, mixD, eqF, SX.S_beq]
theorem ix_tx (a : List Nat) (c : Nat) (s : S) : ixD (.str (tx (c :: a))) (.int 0) s = .ok (.str (tx [c])) s := by
  have : ixN (a.length + 1) 0 = some 0 := by
    unfold ixN
    rw [if_pos (by omega), if_pos (by omega)]
    rfl
  simp [ixD, atI, this]
theorem tx_emp : ("" : Str) = tx [] := by decide +kernel
theorem tx_0 : ("0" : Str) = tx [48] := by decide +kernel
theorem tx_minus : ("-" : Str) = tx [45] := by decide +kernel
theorem tx_over : ("/" : Str) = tx [47] := by decide +kernel
theorem tx_dig : ("0123456789" : Str) = tx [48, 49, 50, 51, 52, 53, 54, 55, 56, 57] := by decide +kernel
theorem in_dig (c : Nat) (s : S) : oIn.g (.str (tx [c])) (.str (tx [48, 49, 50, 51, 52, 53, 54, 55, 56, 57])) s = .ok (.bl (digB c)) s := by
  have e : decide (c ∈ [48, 49, 50, 51, 52, 53, 54, 55, 56, 57]) = digB c := by
    unfold digB
    rw [← Bool.decide_and]
    apply decide_eq_decide.mpr
    simp
    omega
  show R.ok (D.bl (decide (c ∈ [48, 49, 50, 51, 52, 53, 54, 55, 56, 57]))) s = _
  rw [e]
theorem compL_map {α : Type} {own : List Nat} {t : T} {ft : DEnv → M Bool} {fe : DEnv → M D} {env : DEnv} {s : S} {f g : α → D} : ∀ {xs : List α}, (∀ x ∈ xs, ∃ e, bindT t (f x) (wipeD env own) = some e ∧ ft e s = .ok true s ∧ fe e s = .ok (g x) s) → compL own t ft fe env (xs.map f) s = .ok (xs.map g) s
  | [], _ => rfl
  | x :: xs, h => by
    obtain ⟨e, h1, h2, h3⟩ := h x (List.mem_cons_self ..)
    have ih := compL_map (xs := xs) fun y hy => h y (List.mem_cons_of_mem _ hy)
    simp [h1, h2, h3, ih]
theorem bls_map {α : Type} (g : α → Bool) : ∀ xs : List α, blsOf (xs.map fun x => .bl (g x)) = some (xs.map g)
  | [] => rfl
  | x :: xs => by simp [bls_map g xs]
end Dn
namespace Dn.K00
open PySem L2 Dn
theorem g_is_number (a : List Nat) (s : S) : f_is_number.g [.str (tx a)] s = .ok (.bl (isNum a)) s := by
  have hc : ∀ (e : E), (∀ c, e.den [Sl.fz (D.str (tx a)), Sl.fz (.str (tx [c]))] s = .ok (.bl (digB c)) s) → ∀ (p : Pos) (x : Str), compL [1] (T.nm 1 x p) Oe.no.tst e.den [Sl.fz (D.str (tx a)), Sl.un] (List.map (fun c => D.str (tx [c])) a) s = .ok (a.map fun c => .bl (digB c)) s := fun e he p x =>
    compL_map fun c _ => ⟨_, rfl, rfl, he c⟩
  have hb : bAll.g [.lst (a.map fun c => .bl (digB c))] s = .ok (.bl (a.all digB)) s := by
    have h := q_quD (fun bs => bs.all id) _ _ s (bls_map digB a)
    rw [List.all_map] at h
    exact h
  simp [f_is_number, b_is_number, tx_emp, tx_0, tx_dig, ne_tx]
  rw [hc _ (fun c => by simp [in_dig])]
  simp only [q_bind_ok, hb]
  cases a with
  | nil => simp [isNum]
  | cons c r => 
    simp only [ix_tx, q_bind_ok, ne_tx, SX.S_beq, isNum]
    cases h1 : (c :: r).all digB <;> by_cases h2 : c = 48 <;> by_cases h3 : r = [] <;> simp [h2, h3]
end Dn.K00
namespace Dn
open PySem L2
theorem cut01 (a : List Nat) : cutS (tx a) (some 0) (some 1) = tx (a.take 1) := by
  unfold cutS
  cases a with
  | nil => rfl
  | cons c r =>
    show (⟨(((c :: r).drop (HT.sIx (tx (c :: r)).length 0 (some 0))).take (HT.sIx (tx (c :: r)).length (tx (c :: r)).length (some 1) - HT.sIx (tx (c :: r)).length 0 (some 0))).toArray⟩ : Str) = _
    rw [SX.S_len, show HT.sIx (c :: r).length 0 (some 0) = 0 by simp [HT.sIx], show HT.sIx (c :: r).length (c :: r).length (some 1) = 1 by simp [HT.sIx]]
    rfl
theorem cut1 (a : List Nat) : cutS (tx a) (some 1) none = tx (a.drop 1) := by
  rw [C8.cutS_slice, SX.slice_from (by decide)]
  rfl
theorem cut_to (a : List Nat) (i : Nat) : cutS (tx a) none (some (i : Int)) = tx (a.take i) := by
  rw [C8.cutS_slice, SX.slice_to (by omega)]
  rfl
theorem cut_from (a : List Nat) (i : Nat) : cutS (tx a) (some (i : Int)) none = tx (a.drop i) := by
  rw [C8.cutS_slice, SX.slice_from (by omega)]
  rfl
@[simp] theorem q_slS (x : Str) (lo hi : Option Int) (s : S) : slD (.str x) lo hi s = .ok (.str (cutS x lo hi)) s := rfl
/-- without the minus ahead -/
def bare (a : List Nat) : List Nat := if a.take 1 == [45] then a.drop 1 else a
def intV (a : List Nat) : Int := if a.take 1 == [45] then -(NumText.digitsVal (bare a) : Int) else NumText.digitsVal (bare a)
theorem int_tx {a : List Nat} (h : isNum (bare a) = true) (hl : a.length ≤ 4300) : intText? (tx a) = some (intV a) := by
  obtain ⟨h1, h2⟩ := isNum_val h
  cases a with
  | nil => exact absurd rfl h2
  | cons c r =>
    by_cases hc : c = 45
    · subst hc
      exact intText_neg (x := tx (45 :: r)) rfl h1 h2 (by rw [SX.S_len]; exact hl)
    · have e : bare (c :: r) = c :: r := by simp [bare, hc]
      have e2 : intV (c :: r) = NumText.digitsVal (c :: r) := by simp [intV, hc, e]
      rw [e] at h1 h2
      rw [e2]
      exact intText_digits (x := tx (c :: r)) h1 h2 (by rw [SX.S_len]; exact hl)
/-- an integer's text -/
def intL (n : Int) : List Nat := if n < 0 then 45 :: TL.numL n.natAbs else TL.numL n.natAbs
theorem str_tx (n : Int) : Str.ofString (toString n) = tx (intL n) := by
  by_cases h : n < 0
  · obtain ⟨m, rfl⟩ : ∃ m : Nat, n = -(m : Int) := ⟨n.natAbs, by omega⟩
    obtain ⟨k, rfl⟩ : ∃ k : Nat, m = k + 1 := ⟨m - 1, by omega⟩
    unfold intL
    rw [if_pos h, Int.natAbs_neg, Int.natAbs_natCast, Str.ofString_eq_toList]
    have e : toString (-((k + 1 : Nat) : Int)) = "-" ++ Nat.repr (k + 1) := rfl
    rw [e, String.toList_append, Nat.toList_repr]
    rfl
  · obtain ⟨m, rfl⟩ := Int.eq_ofNat_of_zero_le (show 0 ≤ n by omega)
    unfold intL
    rw [if_neg h, SX.num_S]
    rfl
theorem intL_V {a : List Nat} (h : isNum (bare a) = true) (h0 : bare a = [48] → a = [48]) : intL (intV a) = a := by
  have hb := num_isNum h
  unfold intV
  by_cases hc : a.take 1 == [45]
  · obtain ⟨r, rfl⟩ : ∃ r, a = 45 :: r := by
      cases a with
      | nil => simp at hc
      | cons c r => simp at hc; exact ⟨r, by rw [hc]⟩
    have eb : bare (45 :: r) = r := rfl
    rw [eb] at hb h h0
    have hp : NumText.digitsVal r ≠ 0 := fun e => by
      rw [e] at hb
      have := h0 (hb.symm.trans (by decide))
      cases this
    rw [if_pos hc, eb]
    unfold intL
    rw [if_pos (by omega), Int.natAbs_neg, Int.natAbs_natCast, hb]
  · have eb : bare a = a := by simp only [bare]; rw [if_neg hc]
    rw [if_neg hc, eb]
    rw [eb] at hb
    unfold intL
    rw [if_neg (by omega), Int.natAbs_natCast, hb]
theorem bare_intL (n : Int) : bare (intL n) = TL.numL n.natAbs := by
  unfold intL
  by_cases h : n < 0
  · rw [if_pos h]
    rfl
  · rw [if_neg h]
    have h1 := TL.numL_digits n.natAbs
    have h2 := TL.numL_ne n.natAbs
    generalize TL.numL n.natAbs = l at h1 h2
    cases l with
    | nil => rfl
    | cons c r =>
      have := h1.head
      simp [bare]
      omega
theorem intV_intL (n : Int) : intV (intL n) = n := by
  unfold intV
  rw [bare_intL, TL.numL_val]
  unfold intL
  by_cases h : n < 0
  · rw [if_pos h, if_pos (by rfl)]
    omega
  · rw [if_neg h]
    have h1 := TL.numL_digits n.natAbs
    have h2 := TL.numL_ne n.natAbs
    rw [if_neg]
    · omega
    · generalize TL.numL n.natAbs = l at h1 h2
      cases l with
      | nil => exact absurd rfl h2
      | cons c r =>
        have := h1.head
        simp
        omega
end Dn
namespace Dn.K00
open PySem L2 Dn
@[simp] theorem n_is_number : f_is_number.n = 1 := rfl
theorem part_no {a : List Nat} (h : 47 ∉ a) (hl : a.length ≤ 2000) (s : S) : mPart.g (.str (tx a)) [.str (tx [47])] s = .ok (.tup [.str (tx a), .str (tx []), .str (tx [])]) s := by
  have e : Txt.partition (tx a) (tx [47]) = (tx a, tx [], tx []) := SX.partition_none (by simp) (SX.par_head_none h)
  show gd (((tx [47]).length == 0) = false ∧ (Txt.partition (tx a) (tx [47])).1.length ≤ sizeLine ∧ (Txt.partition (tx a) (tx [47])).2.1.length ≤ sizeLine ∧ (Txt.partition (tx a) (tx [47])).2.2.length ≤ sizeLine) (rt (.tup [.str (Txt.partition (tx a) (tx [47])).1, .str (Txt.partition (tx a) (tx [47])).2.1, .str (Txt.partition (tx a) (tx [47])).2.2])) s = _
  rw [e]
  unfold gd
  rw [if_pos ⟨rfl, by rw [SX.S_len, sizeLine_eq]; omega, by rw [SX.S_len, sizeLine_eq]; simp, by rw [SX.S_len, sizeLine_eq]; simp⟩]
  rfl
theorem part_at {p q : List Nat} (h : 47 ∉ p) (hl : (p ++ 47 :: q).length ≤ 2000) (s : S) : mPart.g (.str (tx (p ++ 47 :: q))) [.str (tx [47])] s = .ok (.tup [.str (tx p), .str (tx [47]), .str (tx q)]) s := by
  have e : Txt.partition (tx (p ++ 47 :: q)) (tx [47]) = (tx p, tx [47], tx q) := SX.partition_some (by simp) (SX.par_head (sep := []) q h)
  show gd (((tx [47]).length == 0) = false ∧ (Txt.partition (tx (p ++ 47 :: q)) (tx [47])).1.length ≤ sizeLine ∧ (Txt.partition (tx (p ++ 47 :: q)) (tx [47])).2.1.length ≤ sizeLine ∧ (Txt.partition (tx (p ++ 47 :: q)) (tx [47])).2.2.length ≤ sizeLine) (rt (.tup [.str (Txt.partition (tx (p ++ 47 :: q)) (tx [47])).1, .str (Txt.partition (tx (p ++ 47 :: q)) (tx [47])).2.1, .str (Txt.partition (tx (p ++ 47 :: q)) (tx [47])).2.2])) s = _
  rw [e]
  unfold gd
  simp at hl
  rw [if_pos ⟨rfl, by rw [SX.S_len, sizeLine_eq]; omega, by rw [SX.S_len, sizeLine_eq]; simp, by rw [SX.S_len, sizeLine_eq]; omega⟩]
  rfl
theorem read_no {a : List Nat} (h : 47 ∉ a) (h1 : a ≠ []) (hl : a.length ≤ 2000) (s : S) : f_read_ratio.g [.str (tx a)] s =
    if isNum (bare a) = true ∧ (bare a = [48] → a = [48]) then .ok (rD (intV a) 1) s else .err ⟨4, .int 0⟩ s := by
  have hp : 1 ≤ (a.length : Int) := by
    have := List.length_pos_iff.mpr h1
    omega
  have hq : (a.length : Int) ≤ 2000 := by omega
  have ty : mPart.ty (D.str (tx a)) = true := rfl
  have k1 : ∀ n : Int, k_Ratio1.g [.int n, .int 1] s = .ok [.int n, .int 1] s := fun n => by
    have := i_Ratio n 1 s (by decide) (by decide)
    rw [show (Rat.divInt n 1).num = n by simp [Rat.num_divInt], show (Rat.divInt n 1).den = 1 by simp [Rat.den_divInt]] at this
    exact this
  have iv : isNum (bare a) = true → bInt.g [.str (tx a)] s = .ok (.int (intV a)) s := fun h => by
    show intD [.str (tx a)] s = _
    simp [intD, int_tx h (by omega)]
  obtain ⟨b, hb⟩ : ∃ b, b = bare a := ⟨_, rfl⟩
  rw [← hb] at iv ⊢
  by_cases c1 : a.take 1 = [45]
  · have e : a.tail = b := by
      rw [hb]
      simp [bare, c1]
    simp [f_read_ratio, b_read_ratio, isTy, isTyD, kindB, insIn, bLen, lenD, SX.S_len, oLe, ordD, hp, hq, tx_over, tx_0, tx_minus, tx_emp, part_no h hl, cut01, cut1, eq_tx, ne_tx, ty, c1, e, g_is_number]
    cases c2 : isNum b
    · simp
    · by_cases c4 : a = [48]
      · rw [c4] at c1
        simp at c1
      · by_cases c3 : b = [48] <;> simp [c3, c4, iv c2, k1, rD]
  · have e : a = b := by
      rw [hb]
      simp [bare, c1]
    simp [f_read_ratio, b_read_ratio, isTy, isTyD, kindB, insIn, bLen, lenD, SX.S_len, oLe, ordD, hp, hq, tx_over, tx_0, tx_minus, tx_emp, part_no h hl, cut01, cut1, eq_tx, ne_tx, ty, c1, g_is_number]
    rw [← e] at iv ⊢
    cases c2 : isNum a
    · simp
    · have iv' := iv c2
      by_cases c4 : a = [48]
      · subst c4
        simp [iv', k1, rD]
      · simp [c4, iv', k1, rD]
end Dn.K00
namespace Dn.K00
open PySem L2 Dn
theorem val_lt : ∀ (a : List Nat) (k : Nat), (∀ c ∈ a, c ≤ 57) → a.foldl (fun acc c => acc * 10 + (c - 48)) k < (k + 1) * 10 ^ a.length
  | [], k, _ => by simp
  | c :: a, k, h => by
    have h0 := h c (List.mem_cons_self ..)
    have ih := val_lt a (k * 10 + (c - 48)) fun d hd => h d (List.mem_cons_of_mem _ hd)
    show a.foldl _ (k * 10 + (c - 48)) < _
    refine Nat.lt_of_lt_of_le ih ?_
    rw [List.length_cons, Nat.pow_succ, Nat.mul_comm (10 ^ a.length) 10, ← Nat.mul_assoc]
    exact Nat.mul_le_mul_right _ (by omega)
theorem num_log {a : List Nat} (h : NumText.AllDigits a) (hl : a.length ≤ 2000) : (NumText.digitsVal a).log2 < 6660 := by
  have h1 : NumText.digitsVal a < 10 ^ 2000 := by
    have := val_lt a 0 fun c hc => (h c hc).2
    refine Nat.lt_of_lt_of_le this ?_
    rw [Nat.zero_add, Nat.one_mul]
    exact Nat.pow_le_pow_right (by decide) hl
  have h2 : (10 : Nat) ^ 2000 < 2 ^ 6660 := by decide +kernel
  by_cases h0 : NumText.digitsVal a = 0
  · rw [h0]
    decide
  · exact (Nat.log2_lt h0).mpr (Nat.lt_trans h1 h2)
theorem read_at {p q : List Nat} (h : 47 ∉ p) (hl : (p ++ 47 :: q).length ≤ 2000) (s : S) : f_read_ratio.g [.str (tx (p ++ 47 :: q))] s =
    if isNum (bare p) = true ∧ bare p ≠ [48] then
      if isNum q = true ∧ q ≠ [48] then
        if (Rat.divInt (intV p) (NumText.digitsVal q)).den = 1 ∨ TL.numL (Rat.divInt (intV p) (NumText.digitsVal q)).den ≠ q then .err ⟨4, .int p.length⟩ s
        else .ok (rq (Rat.divInt (intV p) (NumText.digitsVal q))) s
      else .err ⟨4, .int p.length⟩ s
    else .err ⟨4, .int 0⟩ s := by
  have hp : 1 ≤ ((p ++ 47 :: q).length : Int) := by simp; omega
  have hq : ((p ++ 47 :: q).length : Int) ≤ 2000 := by omega
  have hpq : p.length ≤ 2000 ∧ q.length ≤ 2000 := by simp at hl; omega
  have ty : mPart.ty (D.str (tx (p ++ 47 :: q))) = true := rfl
  have ne0 : ¬ p ++ 47 :: q = [48] := by
    cases p with
    | nil => simp
    | cons c p => simp
  have iv : isNum (bare p) = true → bInt.g [.str (tx p)] s = .ok (.int (intV p)) s := fun h => by
    show intD [.str (tx p)] s = _
    simp [intD, int_tx h (by omega)]
  have iq : isNum q = true → bInt.g [.str (tx q)] s = .ok (.int (NumText.digitsVal q)) s := fun h => by
    obtain ⟨h1, h2⟩ := isNum_val h
    show intD [.str (tx q)] s = _
    simp [intD, intText_digits (x := tx q) h1 h2 (by rw [SX.S_len]; omega)]
  have hd : isNum q = true → q ≠ [48] → ((NumText.digitsVal q : Nat) : Int) ≠ 0 := fun h hn e => by
    have := num_isNum h
    rw [show NumText.digitsVal q = 0 by omega] at this
    exact hn (this.symm.trans (by decide))
  have st : ∀ n : Nat, n ≤ 10 ^ 2000 → bStr.g [.int n] s = .ok (.str (tx (TL.numL n))) s := fun n hn => by
    have e : Str.ofString (toString (n : Int)) = tx (TL.numL n) := SX.num_S n
    have z1 : n.log2 < 12900 := by
      by_cases h0 : n = 0
      · rw [h0]
        decide
      · refine (Nat.log2_lt h0).mpr (Nat.lt_of_le_of_lt hn ?_)
        decide +kernel
    have z2 : (TL.numL n).length ≤ 2001 := TL.numL_len (by decide) (Nat.lt_of_le_of_lt hn (Nat.pow_lt_pow_right (by decide) (by decide)))
    show (if n.log2 < 12900 ∧ (Str.ofString (toString (n : Int))).length ≤ sizeLine then rt (D.str (Str.ofString (toString (n : Int)))) else bad) s = _
    rw [e, if_pos ⟨z1, by rw [SX.S_len, sizeLine_eq]; omega⟩]
    rfl
  have pa := part_at h hl s
  have lp : lenD [.str (tx p)] s = .ok (.int p.length) s := by
    have : (tx p).length = p.length := SX.S_len p
    show R.ok (D.int ((tx p).length : Nat)) s = _
    rw [this]
  obtain ⟨r, er⟩ : ∃ r, r = Rat.divInt (intV p) (NumText.digitsVal q) := ⟨_, rfl⟩
  have kr : isNum q = true → q ≠ [48] → k_Ratio2.g [.int (intV p), .int (NumText.digitsVal q)] s = .ok [.int r.num, .int r.den] s := fun h1 h2 => by
    rw [er]
    exact i_Ratio (intV p) (NumText.digitsVal q) s (hd h1 h2) (by
      rw [Int.natAbs_natCast]
      have := num_log (isNum_val h1).1 hpq.2
      omega)
  have sr : isNum q = true → q ≠ [48] → bStr.g [.int r.den] s = .ok (.str (tx (TL.numL r.den))) s := fun h1 h2 => st _ (by
    have := val_lt q 0 fun c hc => ((isNum_val h1).1 c hc).2
    have h3 : NumText.digitsVal q < 10 ^ q.length := by
      rw [Nat.zero_add, Nat.one_mul] at this
      exact this
    have h4 : (10 : Nat) ^ q.length ≤ 10 ^ 2000 := Nat.pow_le_pow_right (by decide) hpq.2
    have h5 : r.den ≤ NumText.digitsVal q := by
      rw [er, Rat.den_divInt]
      have := hd h1 h2
      split
      · omega
      · rw [Int.natAbs_natCast]
        exact Nat.div_le_self _ _
    exact Nat.le_of_lt (Nat.lt_of_le_of_lt h5 (Nat.lt_of_lt_of_le h3 h4)))
  obtain ⟨b, hb⟩ : ∃ b, b = bare p := ⟨_, rfl⟩
  generalize hr : p ++ 47 :: q = a at *
  rw [← hb] at iv ⊢
  rw [← er]
  clear hd st er
  have la : lenD [.str (tx a)] s = .ok (.int a.length) s := by
    have : (tx a).length = a.length := SX.S_len a
    show R.ok (D.int ((tx a).length : Nat)) s = _
    rw [this]
  have rest : ∀ c2 : isNum b = true, ∀ c3 : b ≠ [48], ∀ c4 : isNum q = true, ∀ c5 : q ≠ [48], True := fun _ _ _ _ => trivial
  by_cases c1 : p.take 1 = [45]
  · have e : p.tail = b := by
      rw [hb]
      simp [bare, c1]
    simp [f_read_ratio, b_read_ratio, isTy, isTyD, kindB, insIn, bLen, SX.S_len, oLe, ordD, lp, la, hp, hq, tx_over, tx_0, tx_minus, tx_emp, pa, cut01, cut1, eq_tx, ne_tx, ty, c1, e, g_is_number, ne0]
    cases c2 : isNum b
    · simp
    · by_cases c3 : b = [48]
      · simp [c3]
      · have iv' := iv c2
        cases c4 : isNum q
        · simp [c3, lp]
        · by_cases c5 : q = [48]
          · simp [c3, c5, lp]
          · have iq' := iq c4
            have kr' := kr c4 c5
            have sr' := sr c4 c5
            by_cases c6 : r.den = 1
            · simp [c3, c5, iv', iq', kr', c6, lp]
            · by_cases c7 : TL.numL r.den = q
              · have c6' : ¬ (r.den : Int) = 1 := by omega
                simp [c3, c5, iv', iq', kr', c6, c6', c7, lp, sr', ne_tx, rD]
              · have c6' : ¬ (r.den : Int) = 1 := by omega
                simp [c3, c5, iv', iq', kr', c6, c6', c7, lp, sr', ne_tx]
  · have e : p = b := by
      rw [hb]
      simp [bare, c1]
    simp [f_read_ratio, b_read_ratio, isTy, isTyD, kindB, insIn, bLen, SX.S_len, oLe, ordD, lp, la, hp, hq, tx_over, tx_0, tx_minus, tx_emp, pa, cut01, cut1, eq_tx, ne_tx, ty, c1, g_is_number, ne0]
    rw [← e] at iv ⊢
    cases c2 : isNum p
    · simp
    · by_cases c3 : p = [48]
      · simp [c3]
      · have iv' := iv c2
        cases c4 : isNum q
        · simp [c3, lp]
        · by_cases c5 : q = [48]
          · simp [c3, c5, lp]
          · have iq' := iq c4
            have kr' := kr c4 c5
            have sr' := sr c4 c5
            by_cases c6 : r.den = 1
            · simp [c3, c5, iv', iq', kr', c6, lp]
            · by_cases c7 : TL.numL r.den = q
              · have c6' : ¬ (r.den : Int) = 1 := by omega
                simp [c3, c5, iv', iq', kr', c6, c6', c7, lp, sr', ne_tx, rD]
              · have c6' : ¬ (r.den : Int) = 1 := by omega
                simp [c3, c5, iv', iq', kr', c6, c6', c7, lp, sr', ne_tx]
end Dn.K00
namespace Dn.K00
open PySem L2 Dn
/-- a fraction's text -/
def txL (r : Rat) : List Nat := intL r.num ++ (if r.den = 1 then [] else 47 :: TL.numL r.den)
@[simp] theorem n_check : f_check_ratio.n = 1 := rfl
theorem num_len {n : Nat} (h : n < 2 ^ 8000) : (TL.numL n).length ≤ 2409 := TL.numL_len (by decide) (Nat.lt_of_lt_of_le h (by decide +kernel))
theorem intL_len {n : Int} (h : n.natAbs < 2 ^ 8000) : (intL n).length ≤ 2410 := by
  have := num_len h
  unfold intL
  split
  · simp
    omega
  · omega
theorem str_int {n : Int} (h : n.natAbs < 2 ^ 8000) (s : S) : bStr.g [.int n] s = .ok (.str (tx (intL n))) s := by
  have z1 : n.natAbs.log2 < 12900 := by
    by_cases h0 : n.natAbs = 0
    · rw [h0]
      decide
    · exact (Nat.log2_lt h0).mpr (Nat.lt_trans h (Nat.pow_lt_pow_right (by decide) (by decide)))
  have z2 := intL_len h
  show (if n.natAbs.log2 < 12900 ∧ (Str.ofString (toString n)).length ≤ sizeLine then rt (D.str (Str.ofString (toString n))) else bad) s = _
  rw [str_tx, if_pos ⟨z1, by rw [SX.S_len, sizeLine_eq]; omega⟩]
  rfl
theorem str_nat {n : Nat} (h : n < 2 ^ 8000) (s : S) : bStr.g [.int n] s = .ok (.str (tx (TL.numL n))) s := by
  have := str_int (n := n) (by rw [Int.natAbs_natCast]; exact h) s
  rw [this]
  unfold intL
  rw [if_neg (by omega), Int.natAbs_natCast]
theorem add_tx {a b : List Nat} (h : (a ++ b).length ≤ 100000) (o : Option Mt) (s : S) : (oAdd o).g (.str (tx a)) (.str (tx b)) s = .ok (.str (tx (a ++ b))) s := by
  have e : tx a ++ tx b = tx (a ++ b) := SX.S_cat a b
  simp [oAdd, addD, e]
  simp [SX.S_len, sizeLine_eq] at h ⊢
  omega
theorem gt_int (a b : Int) (s : S) : oGt.g (.int a) (.int b) s = .ok (.bl (decide (b < a))) s := rfl
theorem g_ratio_text {r : Rat} (h1 : r.num.natAbs < 2 ^ 8000) (h2 : r.den < 2 ^ 8000) (s : S) :
    f_ratio_text.g [rq r] s = if (txL r).length ≤ 2000 then .ok (.str (tx (txL r))) s else .err ⟨3, .str "long"⟩ s := by
  have ab : ∀ n : Int, bAbs.g [.int n] s = .ok (.int n.natAbs) s := fun n => by
    show absD [.int n] s = _
    simp [absD, abs_if]
  obtain ⟨m, hm, hb⟩ : ∃ m : Int, bMax.g [.int r.num.natAbs, .int r.den] s = .ok (.int m) s ∧ Builtin.Int.intBits m ≤ 8000 :=
    ⟨if (r.den : Int) > r.num.natAbs then r.den else r.num.natAbs, rfl, PySem.intBits_le_iff.mpr (by split <;> omega)⟩
  have bt : mBits.g (.int m) [] s = .ok (.int (Builtin.Int.intBits m : Nat)) s := rfl
  have ty : mBits.ty (.int m) = true := rfl
  have mo : mulOk 4 2000 = true := by decide
  have h8 : ¬ (8000 : Int) < (Builtin.Int.intBits m : Nat) := by omega
  have l1 := intL_len h1
  have l2 := num_len h2
  have ln : ∀ l : List Nat, bLen.g [.str (tx l)] s = .ok (.int l.length) s := fun l => by
    show R.ok (D.int ((tx l).length : Nat)) s = _
    rw [SX.S_len]
  by_cases hd : r.den = 1
  · have e : txL r = intL r.num := by simp [txL, hd]
    rw [e]
    have hm' : bMax.g [.int r.num.natAbs, .int 1] s = .ok (.int m) s := by
      rw [hd] at hm
      exact hm
    simp [f_ratio_text, b_ratio_text, rq, rD, ab, hm', bt, ty, oMul, mulD, mo, gt_int, h8, hd, str_int h1, ln]
    by_cases c : (intL r.num).length ≤ 2000
    · rw [if_neg (by omega), if_pos c]
    · rw [if_pos (by omega), if_neg c]
  · have e : txL r = intL r.num ++ 47 :: TL.numL r.den := by simp [txL, hd]
    have hd' : ¬ (r.den : Int) = 1 := by omega
    rw [e]
    simp [f_ratio_text, b_ratio_text, rq, rD, ab, hm, bt, ty, oMul, mulD, mo, gt_int, h8, hd', str_int h1, str_nat h2, ln, tx_over]
    rw [add_tx (by simp; omega), q_bind_ok, add_tx (by simp; omega)]
    generalize ha : intL r.num ++ [47] ++ TL.numL r.den = a
    have ha' : intL r.num ++ 47 :: TL.numL r.den = a := by rw [← ha]; simp
    have la : (intL r.num).length + ((TL.numL r.den).length + 1) = a.length := by
      rw [← ha']
      simp
    simp [ln, gt_int]
    rw [la, ha']
    by_cases c : a.length ≤ 2000
    · rw [if_neg (by omega), if_pos c]
    · rw [if_pos (by omega), if_neg c]
end Dn.K00
namespace Dn.K00
open PySem L2 Dn
/-! ### what a text reads as, and is the text of -/
theorem len_tx (l : List Nat) (s : S) : bLen.g [.str (tx l)] s = .ok (.int l.length) s := by
  show R.ok (D.int ((tx l).length : Nat)) s = _
  rw [SX.S_len]
theorem read_len {a : List Nat} (h : ¬ (1 ≤ a.length ∧ a.length ≤ 2000)) (s : S) : f_read_ratio.g [.str (tx a)] s = .err ⟨4, .int 0⟩ s := by
  by_cases c : (1 : Int) ≤ a.length
  · have c2 : ¬ (a.length : Int) ≤ 2000 := by omega
    simp [f_read_ratio, b_read_ratio, isTy, isTyD, kindB, insIn, len_tx, oLe, ordD, c, c2]
  · simp [f_read_ratio, b_read_ratio, isTy, isTyD, kindB, insIn, len_tx, oLe, ordD, c]
theorem intL_no (n : Int) : 47 ∉ intL n := by
  have h := TL.numL_digits n.natAbs
  unfold intL
  split
  · intro m
    rcases List.mem_cons.mp m with m | m
    · cases m
    · have := h _ m
      omega
  · intro m
    have := h _ m
    omega
theorem intL_ne (n : Int) : intL n ≠ [] := by
  unfold intL
  split
  · simp
  · exact TL.numL_ne _
theorem num_small {a : List Nat} (h : isNum a = true) (hl : a.length ≤ 2000) : NumText.digitsVal a < 2 ^ 8000 := by
  have := num_log (isNum_val h).1 hl
  by_cases h0 : NumText.digitsVal a = 0
  · rw [h0]
    exact Nat.pow_pos (by decide)
  · exact (Nat.log2_lt h0).mp (by omega)
theorem bare_len (a : List Nat) : (bare a).length ≤ a.length := by
  unfold bare
  split
  · simp
  · exact Nat.le_refl _
theorem intV_small {a : List Nat} (h : isNum (bare a) = true) (hl : a.length ≤ 2000) : (intV a).natAbs < 2 ^ 8000 := by
  have := num_small h (Nat.le_trans (bare_len a) hl)
  unfold intV
  split
  · rw [Int.natAbs_neg, Int.natAbs_natCast]
    exact this
  · rw [Int.natAbs_natCast]
    exact this
theorem reads (a : List Nat) (s : S) : (∃ r : Rat, f_read_ratio.g [.str (tx a)] s = .ok (rq r) s ∧ txL r = a ∧ a.length ≤ 2000 ∧ r.num.natAbs < 2 ^ 8000 ∧ r.den < 2 ^ 8000) ∨ ∃ n : Int, f_read_ratio.g [.str (tx a)] s = .err ⟨4, .int n⟩ s := by
  by_cases hl : 1 ≤ a.length ∧ a.length ≤ 2000
  · have h1 : a ≠ [] := fun e => by
      rw [e] at hl
      simp at hl
    by_cases h : 47 ∈ a
    · obtain ⟨p, q, rfl, hp⟩ := List.eq_append_cons_of_mem h
      rw [read_at hp hl.2 s]
      have lp : p.length ≤ 2000 ∧ q.length ≤ 2000 := by
        have := hl.2
        simp at this
        omega
      by_cases c1 : isNum (bare p) = true ∧ bare p ≠ [48]
      · rw [if_pos c1]
        by_cases c2 : isNum q = true ∧ q ≠ [48]
        · rw [if_pos c2]
          obtain ⟨r, er⟩ : ∃ r, r = Rat.divInt (intV p) (NumText.digitsVal q) := ⟨_, rfl⟩
          rw [← er]
          by_cases c3 : r.den = 1 ∨ TL.numL r.den ≠ q
          · rw [if_pos c3]
            exact .inr ⟨_, rfl⟩
          · rw [if_neg c3]
            have hd : r.den ≠ 1 := fun e => c3 (.inl e)
            have hq : TL.numL r.den = q := Classical.byContradiction fun e => c3 (.inr e)
            have ev : NumText.digitsVal q = r.den := by rw [← hq, TL.numL_val]
            have en : r.num = intV p := by
              have e1 : Rat.divInt r.num r.den = Rat.divInt (intV p) r.den := by
                rw [Rat.num_divInt_den, er, ← er, ← ev]
                exact er
              rw [Rat.divInt_eq_divInt_iff (den_ne r) (den_ne r)] at e1
              exact Int.eq_of_mul_eq_mul_right (den_ne r) e1
            have e : txL r = p ++ 47 :: q := by
              unfold txL
              rw [if_neg hd, hq, en, intL_V c1.1 fun e => absurd e c1.2]
            refine .inl ⟨r, rfl, e, hl.2, ?_, ?_⟩
            · rw [en]
              exact intV_small c1.1 lp.1
            · rw [← ev]
              exact num_small c2.1 lp.2
        · rw [if_neg c2]
          exact .inr ⟨_, rfl⟩
      · rw [if_neg c1]
        exact .inr ⟨_, rfl⟩
    · rw [read_no h h1 hl.2 s]
      by_cases c1 : isNum (bare a) = true ∧ (bare a = [48] → a = [48])
      · rw [if_pos c1]
        obtain ⟨r, er⟩ : ∃ r, r = Rat.divInt (intV a) 1 := ⟨_, rfl⟩
        have e1 : r.num = intV a := by rw [er]; simp [Rat.num_divInt]
        have e2 : r.den = 1 := by rw [er]; simp [Rat.den_divInt]
        refine .inl ⟨r, by rw [rq, e1, e2]; rfl, ?_, hl.2, ?_, ?_⟩
        · unfold txL
          rw [if_pos e2, e1, intL_V c1.1 c1.2, List.append_nil]
        · rw [e1]
          exact intV_small c1.1 hl.2
        · rw [e2]
          exact Nat.one_lt_two_pow (by decide)
      · rw [if_neg c1]
        exact .inr ⟨_, rfl⟩
  · exact .inr ⟨_, read_len hl s⟩
theorem read_txL {r : Rat} (hl : (txL r).length ≤ 2000) (s : S) : f_read_ratio.g [.str (tx (txL r))] s = .ok (rq r) s := by
  have b1 : isNum (bare (intL r.num)) = true := by rw [bare_intL]; exact isNum_num _
  by_cases hd : r.den = 1
  · have e : txL r = intL r.num := by simp [txL, hd]
    rw [e] at hl ⊢
    have b2 : bare (intL r.num) = [48] → intL r.num = [48] := fun h => by
      rw [bare_intL] at h
      have h0 : r.num.natAbs = 0 := by rw [← TL.numL_val r.num.natAbs, h]; rfl
      rw [show r.num = 0 by omega]
      decide
    rw [read_no (intL_no _) (intL_ne _) hl, if_pos ⟨b1, b2⟩, intV_intL, rq, hd]
    rfl
  · have e : txL r = intL r.num ++ 47 :: TL.numL r.den := by simp [txL, hd]
    rw [e] at hl ⊢
    have n0 : r.num ≠ 0 := fun e => hd (by
      have := r.reduced
      rw [e] at this
      simpa using this)
    have c1 : isNum (bare (intL r.num)) = true ∧ bare (intL r.num) ≠ [48] := ⟨b1, fun h => by
      rw [bare_intL] at h
      have h0 : r.num.natAbs = 0 := by rw [← TL.numL_val r.num.natAbs, h]; rfl
      omega⟩
    have c2 : isNum (TL.numL r.den) = true ∧ TL.numL r.den ≠ [48] := ⟨isNum_num _, fun h => by
      have h0 : r.den = 0 := by rw [← TL.numL_val r.den, h]; rfl
      exact r.den_nz h0⟩
    rw [read_at (intL_no _) hl, if_pos c1, if_pos c2, intV_intL, TL.numL_val, Rat.num_divInt_den, if_neg]
    intro h
    rcases h with h | h
    · exact hd h
    · exact h rfl
/-! ### _law_reads_itself -/
@[simp] theorem n_reads : f_read_ratio.n = 1 := rfl
@[simp] theorem n_text : f_ratio_text.n = 1 := rfl
@[simp] theorem n_told : f_law_told.n = 2 := rfl
@[simp] theorem n_reads_itself : f_law_reads_itself.n = 1 := rfl
theorem eqT_str (a b : Str) (s : S) : (oEq true).g (.str a) (.str b) s = .ok (.bl (a == b)) s := by
  simp [oEq, eqD, eqQ, scalD, flatD, mixD, eqF]
theorem told_text (r : Rat) (s : S) : (oEq true).g (.tup [.str "told", rq r]) (.tup [.str "text", .non]) s = .ok (.bl false) s := rfl
theorem text_text (s : S) : (oEq true).g (.tup [.str "text", .non]) (.tup [.str "text", .non]) s = .ok (.bl true) s := rfl
theorem g_reads_itself (a : List Nat) (s : S) : f_law_reads_itself.g [.str (tx a)] s = .ok (.bl true) s := by
  rcases reads a s with ⟨r, h, e, hl, h1, h2⟩ | ⟨n, h⟩
  · have t := g_ratio_text h1 h2 s
    rw [e, if_pos hl] at t
    have q := told_text r s
    have c := isIc_ins' 
    simp only [rq, rD] at h t q
    simp [f_law_reads_itself, b_law_reads_itself, told1 fa_read rfl, h, tellR, sizeLine_eq, q, eqT_str, isIc_ins', t]
  · simp [f_law_reads_itself, b_law_reads_itself, told1 fa_read rfl, h, tellR, toldX, whD, sizeLine_eq, text_text]
end Dn.K00
namespace Dn.K00
open PySem L2 Dn
/-! ### sizes -/
theorem lt_log {a k : Nat} (h : a < 2 ^ k) (hk : 0 < k) : a.log2 < k := by
  by_cases h0 : a = 0
  · rw [h0]
    exact hk
  · exact (Nat.log2_lt h0).mpr h
theorem div_num {n d : Int} (hd : 0 < d) : (Rat.divInt n d).num.natAbs ≤ n.natAbs := by
  rw [← num_pos hd]
  obtain ⟨k, hk⟩ : ((Int.gcd n d : Nat) : Int) ∣ n := Int.gcd_dvd_left n d
  have h0 : Int.gcd n d ≠ 0 := by simp; omega
  generalize Int.gcd n d = g at hk h0
  subst hk
  rw [Int.mul_fdiv_cancel_left _ (by omega), Int.natAbs_mul, Int.natAbs_natCast]
  exact Nat.le_mul_of_pos_left _ (by omega)
theorem div_den {n d : Int} (hd : 0 < d) : (Rat.divInt n d).den ≤ d.natAbs := by
  rw [Rat.den_divInt, if_neg (by omega)]
  exact Nat.div_le_self _ _
theorem sm_of {n d : Int} (hd : 0 < d) (h1 : n.natAbs < 2 ^ 4000) (h2 : d.natAbs < 2 ^ 4000) : Sm' (Rat.divInt n d) :=
  ⟨lt_log (Nat.lt_of_le_of_lt (div_num hd) h1) (by decide), lt_log (Nat.lt_of_le_of_lt (div_den hd) h2) (by decide)⟩
theorem mo_of {x y : Int} (hx : x.natAbs < 2 ^ 4000) (hy : y.natAbs < 2 ^ 4000) : mulOk x y = true := mulOk_of (by
  have := lt_log hx (by decide)
  have := lt_log hy (by decide)
  omega)
@[simp] theorem q_itemsT (xs : List D) (s : S) : itemsD (.tup xs) s = .ok xs s := rfl
@[simp] theorem q_itemsL (xs : List D) (s : S) : itemsD (.lst xs) s = .ok xs s := rfl
/-! ### the bent texts -/
theorem ix_signs (w : Int) (h : 0 ≤ w ∧ w < 8) (s : S) : ∃ c, ixD (.str "0-/17 +.") (.int w) s = .ok (.str (tx [c])) s := by
  have : w = 0 ∨ w = 1 ∨ w = 2 ∨ w = 3 ∨ w = 4 ∨ w = 5 ∨ w = 6 ∨ w = 7 := by omega
  rcases this with rfl | rfl | rfl | rfl | rfl | rfl | rfl | rfl <;> exact ⟨_, rfl⟩
theorem cut_from1 (a : List Nat) (i : Nat) : cutS (tx a) (some ((i : Int) + 1)) none = tx (a.drop (i + 1)) := cut_from a (i + 1)
theorem loop_ops {b : MS} {t : T} {e0 e1 e2 e3 e4 e5 e6 e8 e9 e10 e11 e14 : Sl} (ht : ∀ d e7 e12 e13, bindT t d [e0, e1, e2, e3, e4, e5, e6, e7, e8, e9, e10, e11, e12, e13, e14] = some [e0, e1, e2, e3, e4, e5, e6, e7, e8, e9, e10, e11, .fz d, e13, e14])
    (hb : ∀ e7 e12 e13 s, ∃ f7 f13 s', b [e0, e1, e2, e3, e4, e5, e6, e7, e8, e9, e10, e11, e12, e13, e14] s = .nx [e0, e1, e2, e3, e4, e5, e6, f7, e8, e9, e10, e11, e12, f13, e14] s') :
    ∀ (xs : List D) (e7 e12 e13 : Sl) (s : S), ∃ f7 f12 f13 s', forL t b xs [e0, e1, e2, e3, e4, e5, e6, e7, e8, e9, e10, e11, e12, e13, e14] s = .nx [e0, e1, e2, e3, e4, e5, e6, f7, e8, e9, e10, e11, f12, f13, e14] s'
  | [], e7, e12, e13, s => ⟨e7, e12, e13, s, rfl⟩
  | x :: xs, e7, e12, e13, s => by
    obtain ⟨f7, f13, s1, h⟩ := hb e7 (.fz x) e13 s
    obtain ⟨g7, g12, g13, s2, h2⟩ := loop_ops ht hb xs f7 (.fz x) f13 s1
    refine ⟨g7, g12, g13, s2, ?_⟩
    unfold forL
    rw [ht]
    show (match b _ s with | .nx env2 s2 => forL t b xs env2 s2 | o => o) = _
    rw [h]
    exact h2
theorem bend {e0 e1 e2 e3 e4 e5 e6 e7 e8 e9 e10 e12 e13 e14 : Sl} {l : List Nat} (hl : 0 < l.length) (h2 : l.length ≤ 5000) (s : S) (h0 : e0 = .fz .st) :
    ∃ f7 f13 s', Sb.den (match b_law_ops_hold with
      | .cons _ (.cons _ (.cons _ (.cons _ (.cons _ (.cons _ (.cons _ (.cons _ (.cons _ (.cons _ (.cons _ (.cons (.fors _ _ b _) _))))))))))) => b
      | _ => .nil) [e0, e1, e2, e3, e4, e5, e6, e7, e8, e9, e10, .fz (.str (tx l)), e12, e13, e14] s = .nx [e0, e1, e2, e3, e4, e5, e6, f7, e8, e9, e10, .fz (.str (tx l)), e12, f13, e14] s' := by
  subst h0
  obtain ⟨v, s1, hv, t1⟩ := g_take l.length (by omega) (lt_log (k := 9000) (by rw [Int.natAbs_natCast]; exact Nat.lt_of_le_of_lt h2 (by decide +kernel)) (by decide)) s
  obtain ⟨w, s2, hw, t2⟩ := g_take 8 (by decide) (by decide) s1
  obtain ⟨i, rfl⟩ := Int.eq_ofNat_of_zero_le hv.1
  obtain ⟨c, hc⟩ := ix_signs w hw s2
  refine ⟨.fz (.str (tx [c])), .fz (.int i), s2, ?_⟩
  have a1 : ∀ s, (oAdd (some m_add)).g (.str (tx (l.take i))) (.str (tx [c])) s = .ok (.str (tx (l.take i ++ [c]))) s := add_tx (by simp; omega) _
  have a2 : ∀ s, (oAdd (some m_add)).g (.str (tx (l.take i ++ [c]))) (.str (tx (l.drop i))) s = .ok (.str (tx (l.take i ++ [c] ++ l.drop i))) s := add_tx (by simp; omega) _
  have a3 : ∀ s, (oAdd (some m_add)).g (.str (tx (l.take i))) (.str (tx (l.drop (i + 1)))) s = .ok (.str (tx (l.take i ++ l.drop (i + 1)))) s := add_tx (by simp; omega) _
  have a4 : ∀ s, (oAdd (some m_add)).g (.str (tx (l.take i ++ [c]))) (.str (tx (l.drop (i + 1)))) s = .ok (.str (tx (l.take i ++ [c] ++ l.drop (i + 1)))) s := add_tx (by simp; omega) _
  have a5 : ∀ s, (oAdd (some m_add)).g (.int i) (.int 1) s = .ok (.int (i + 1)) s := fun _ => rfl
  simp only [b_law_ops_hold]
  generalize l.take i ++ [c] ++ l.drop i = z1 at *
  generalize l.take i ++ [c] ++ l.drop (i + 1) = z2 at *
  generalize l.take i ++ l.drop (i + 1) = z3 at *
  generalize l.take i ++ [c] = z4 at *
  simp [len_tx, t1, t2, hc, cut_to, cut_from, cut_from1, a1, a2, a3, a4, a5, g_reads_itself, bAll, sizeLine_eq]
end Dn.K00
namespace Dn
open PySem L2
/-! ### one statement after the other -/
theorem stp {st : Sm} {r : Sb} {env : DEnv} {s : S} {o : O} (env' : DEnv) (s' : S) (h : st.den env s = .nx env' s') (h2 : Sb.den r env' s' = o) : Sb.den (.cons st r) env s = o := by
  rw [q_cons, h, q_then_nx]
  exact h2
theorem stp_no {c : E} {a : Sb} {p : Pos} {r : Sb} {env : DEnv} {s : S} {o : O} (s' : S) (h : c.tst env s = .ok false s') (h2 : Sb.den r env s' = o) : Sb.den (.cons (.ifs c a .nil p) r) env s = o := by
  refine stp env s' ?_ h2
  rw [q_ifs, h, q_toO_ok]
  rfl
theorem add_int (o : Own2) (a b : Int) (s : S) : (oAdd o).g (.int a) (.int b) s = .ok (.int (a + b)) s := rfl
theorem sub_int (o : Own2) (a b : Int) (s : S) : (oSub o).g (.int a) (.int b) s = .ok (.int (a - b)) s := rfl
theorem neg_int (o : Own2) (a : Int) (s : S) : (oNeg o).g (.int a) s = .ok (.int (-a)) s := rfl
theorem mul_int (o : Own2) {a b : Int} (h : mulOk a b = true) (s : S) : (oMul o).g (.int a) (.int b) s = .ok (.int (a * b)) s := by
  simp [oMul, mulD, h]
theorem lt_int (a b : Int) (s : S) : oLt.g (.int a) (.int b) s = .ok (.bl (decide (a < b))) s := rfl
theorem eqT_int (o : Bool) (a b : Int) (s : S) : (oEq o).g (.int a) (.int b) s = .ok (.bl (a == b)) s := by
  simp [oEq, eqD, eqQ, scalD, flatD, mixD, eqF]
theorem ne_str (a b : Str) (s : S) : oNe.g (.str a) (.str b) s = .ok (.bl (!(a == b))) s := by
  simp [oNe, neD, scalD, flatD, mixD, eqF]
theorem mod_int {b : Int} (h : b ≠ 0) (a : Int) (s : S) : oMod.g (.int a) (.int b) s = .ok (.int (a.fmod b)) s := by
  simp [oMod, modD, h]
theorem fdiv_int {b : Int} (h : b ≠ 0) (h2 : b.natAbs.log2 < 9000) (a : Int) (s : S) : oDiv.g (.int a) (.int b) s = .ok (.int (a.fdiv b)) s := by
  simp [oDiv, divD, divOk, h, h2]
end Dn
namespace Dn.K00
open PySem L2 Dn
theorem add_q {p q : Rat} (hp : Sm' p) (hq : Sm' q) (s : S) : (oAdd (some m_add)).g (rq p) (rq q) s = .ok (rq (p + q)) s := g_add hp hq s
theorem sub_q {p q : Rat} (hp : Sm' p) (hq : Sm' q) (s : S) : (oSub (some m_sub)).g (rq p) (rq q) s = .ok (rq (p - q)) s := g_sub hp hq s
theorem mul_q {p q : Rat} (hp : Sm' p) (hq : Sm' q) (s : S) : (oMul (some m_mul)).g (rq p) (rq q) s = .ok (rq (p * q)) s := g_mul hp hq s
theorem neg_q {p : Rat} (hp : Sm' p) (s : S) : (oNeg (some m_neg)).g (rq p) s = .ok (rq (-p)) s := g_neg hp s
theorem eq_rq (p q : Rat) (s : S) : (oEq true).g (rq p) (rq q) s = .ok (.bl (decide (p = q))) s := by
  have e : decide (p = q) = (p.num == q.num && (p.den : Int) == q.den) := by
    by_cases h : p = q
    · rw [h]
      simp
    · rw [decide_eq_false h]
      by_cases h1 : p.num = q.num
      · have h2 : ¬ (p.den : Int) = q.den := fun e => h (Rat.ext h1 (by omega))
        simp [h1, h2]
      · simp [h1]
  rw [e]
  rfl
theorem eq_none (p : Rat) (s : S) : (oEq true).g (rq p) .non s = .ok (.bl false) s := rfl
theorem eq_rint (p : Rat) (a : Int) (s : S) : (oEq true).g (rq p) (.int a) s = .ok (.bl false) s := rfl
theorem eq_rstr (p : Rat) (a : Str) (s : S) : (oEq true).g (rq p) (.str a) s = .ok (.bl false) s := rfl
theorem eq_rtup (p : Rat) (a : List D) (s : S) : (oEq true).g (rq p) (.tup a) s = .ok (.bl false) s := rfl
theorem ne_strs {a b c d : Str} (h1 : SeqAt.shaped (.tuple [.str a, .str b]) = true) (h2 : SeqAt.shaped (.tuple [.str c, .str d]) = true) (s : S) : oNe.g (.tup [.str a, .str b]) (.tup [.str c, .str d]) s = .ok (.bl (!(a == c && b == d))) s := by
  have e : plainEq (.tup [.str a, .str b]) (.tup [.str c, .str d]) = some (a == c && b == d) := by
    simp [plainEq, toPy, toPyL, h1, h2, PyData.eqv, PyData.eqvAll]
  simp [oNe, neD, scalD, flatD, e]
theorem shp_zero : SeqAt.shaped (.tuple [.str "refused", .str "zero"]) = true := by decide +kernel
theorem told_zero (s : S) : oNe.g (.tup [.str "refused", .str "zero"]) (.tup [.str "refused", .str "zero"]) s = .ok (.bl false) s := by
  rw [ne_strs shp_zero shp_zero]
  rfl
@[simp] theorem n_less : m_less.n = 2 := rfl
@[simp] theorem n_sign : m_sign.n = 1 := rfl
@[simp] theorem n_whole : m_is_whole.n = 1 := rfl
@[simp] theorem n_floor : m_floor.n = 1 := rfl
@[simp] theorem n_as : f_as_ratio.n = 1 := rfl
theorem c_less (p : Rat) : isIns m_less.c (rq p) = true := rfl
theorem c_sign (p : Rat) : isIns m_sign.c (rq p) = true := rfl
theorem c_whole (p : Rat) : isIns m_is_whole.c (rq p) = true := rfl
theorem c_floor (p : Rat) : isIns m_floor.c (rq p) = true := rfl
theorem int_int (a : Int) (s : S) : bInt.g [.int a] s = .ok (.int a) s := rfl
theorem k1_int (n : Int) (s : S) : k_Ratio1.g [.int n, .int 1] s = .ok [.int n, .int 1] s := by
  have := i_Ratio n 1 s (by decide) (by decide)
  rw [show (Rat.divInt n 1).num = n by simp [Rat.num_divInt], show (Rat.divInt n 1).den = 1 by simp [Rat.den_divInt]] at this
  exact this
theorem q_one (n : Int) : rq (Rat.divInt n 1) = .ins 0 [.int n, .int 1] := by
  rw [rq, show (Rat.divInt n 1).num = n by simp [Rat.num_divInt], show (Rat.divInt n 1).den = 1 by simp [Rat.den_divInt]]
  rfl
theorem as_int (n : Int) (s : S) : f_as_ratio.g [.int n] s = .ok (.ins 0 [.int n, .int 1]) s := by
  simp [f_as_ratio, b_as_ratio, k1_int]
theorem as_q (p : Rat) (s : S) : f_as_ratio.g [rq p] s = .ok (rq p) s := by
  simp [f_as_ratio, b_as_ratio, rD, g_is_integer _ _ (show kn (D.ins 0 [.int p.num, .int p.den]) = true from rfl), isW]
theorem num_mul {n d : Int} (h : d ≠ 0) : (Rat.divInt n d).num * d = n * (Rat.divInt n d).den :=
  (Rat.divInt_eq_divInt_iff (den_ne _) h).mp (Rat.num_divInt_den _)
theorem den_gt (r : Rat) : (0 : Int) < r.den := by
  have := r.den_nz
  omega
theorem sgn_of {x n d e : Int} (hd : 0 < d) (he : 0 < e) (h : x * d = n * e) : (0 < x ↔ 0 < n) ∧ (x < 0 ↔ n < 0) := by
  rcases Int.lt_trichotomy x 0 with c | c | c
  · have h1 := Int.mul_neg_of_neg_of_pos c hd
    rcases Int.lt_trichotomy n 0 with k | k | k
    · omega
    · rw [k, Int.zero_mul] at h
      omega
    · have := Int.mul_pos k he
      omega
  · rw [c, Int.zero_mul] at h
    rcases Int.lt_trichotomy n 0 with k | k | k
    · have := Int.mul_neg_of_neg_of_pos k he
      omega
    · omega
    · have := Int.mul_pos k he
      omega
  · have h1 := Int.mul_pos c hd
    rcases Int.lt_trichotomy n 0 with k | k | k
    · have := Int.mul_neg_of_neg_of_pos k he
      omega
    · rw [k, Int.zero_mul] at h
      omega
    · omega
theorem divInt_pos {n d : Int} (h : 0 < d) : 0 < (Rat.divInt n d).num ↔ 0 < n := (sgn_of h (den_gt _) (num_mul (by omega))).1
theorem divInt_neg {n d : Int} (h : 0 < d) : (Rat.divInt n d).num < 0 ↔ n < 0 := (sgn_of h (den_gt _) (num_mul (by omega))).2
theorem divInt_less {a b c d : Int} (hb : 0 < b) (hd : 0 < d) : Rat.divInt a b < Rat.divInt c d ↔ a * d < c * b := by
  rw [Rat.lt_iff]
  have e1 := num_mul (n := a) (d := b) (by omega)
  have e2 := num_mul (n := c) (d := d) (by omega)
  have p1 := den_gt (Rat.divInt a b)
  have p2 := den_gt (Rat.divInt c d)
  generalize (Rat.divInt a b).num = n1 at *
  generalize ((Rat.divInt a b).den : Int) = d1 at *
  generalize (Rat.divInt c d).num = n2 at *
  generalize ((Rat.divInt c d).den : Int) = d2 at *
  rw [← Int.mul_lt_mul_right (Int.mul_pos hb hd), ← Int.mul_lt_mul_right (b := a * d) (Int.mul_pos p1 p2)]
  rw [show n1 * d2 * (b * d) = n1 * b * (d2 * d) by ac_rfl, show n2 * d1 * (b * d) = n2 * d * (d1 * b) by ac_rfl, e1, e2,
    show a * d1 * (d2 * d) = a * d * (d1 * d2) by ac_rfl, show c * d2 * (d1 * b) = c * b * (d1 * d2) by ac_rfl]
theorem divInt_whole {a b : Int} (hb : 0 < b) : (Rat.divInt a b).den = 1 ↔ a.fmod b = 0 := by
  have h := den_pos (a := a) hb
  rw [← Int.dvd_iff_fmod_eq_zero]
  obtain ⟨k, hk⟩ : ((Int.gcd a b : Nat) : Int) ∣ b := Int.gcd_dvd_right a b
  have g0 : Int.gcd a b ≠ 0 := by simp; omega
  obtain ⟨g, hg⟩ : ∃ g, g = Int.gcd a b := ⟨_, rfl⟩
  rw [← hg] at h hk g0
  have hk2 : b.fdiv g = k := by
    conv => lhs; lhs; rw [hk]
    exact Int.mul_fdiv_cancel_left _ (by omega)
  rw [hk2] at h
  constructor
  · intro e
    rw [e] at h
    have : b = g := by rw [hk, h]; simp
    rw [this, hg]
    exact Int.gcd_dvd_left a b
  · intro e
    have e2 : Int.gcd a b = b.natAbs := by
      apply Nat.dvd_antisymm
      · exact Nat.gcd_dvd_right _ _
      · exact Nat.dvd_gcd (Int.natAbs_dvd_natAbs.mpr e) (Nat.dvd_refl _)
    have e3 : (g : Int) = b := by rw [hg, e2]; omega
    rw [e3] at hk
    have : k = 1 := by
      have : b * k = b * 1 := by omega
      exact Int.eq_of_mul_eq_mul_left (by omega) this
    omega
theorem divInt_floor {a b : Int} (hb : 0 < b) : (Rat.divInt a b).num / (Rat.divInt a b).den = a.fdiv b := by
  have h1 := num_pos (a := a) hb
  have h2 := den_pos (a := a) hb
  obtain ⟨k, hk⟩ : ((Int.gcd a b : Nat) : Int) ∣ b := Int.gcd_dvd_right a b
  obtain ⟨m, hm⟩ : ((Int.gcd a b : Nat) : Int) ∣ a := Int.gcd_dvd_left a b
  have g0 : Int.gcd a b ≠ 0 := by simp; omega
  rw [← h1, ← h2]
  generalize Int.gcd a b = g at *
  rw [hk, hm, Int.mul_fdiv_cancel_left _ (by omega), Int.mul_fdiv_cancel_left _ (by omega), Int.fdiv_eq_ediv_of_nonneg _ (by omega)]
  exact (Int.mul_ediv_mul_of_pos _ _ (by omega)).symm
end Dn.K00
namespace Dn.K00
open PySem L2 Dn
@[simp] theorem n_ops : f_law_ops_hold.n = 1 := rfl
theorem small {x : Int} (h : x.natAbs ≤ 1000000000000) : x.natAbs < 2 ^ 4000 := Nat.lt_of_le_of_lt h (by decide +kernel)
theorem small2 {x y : Int} (hx : x.natAbs ≤ 1000000000000) (hy : y.natAbs ≤ 1000000000000) : (x * y).natAbs < 2 ^ 2000 := by
  rw [Int.natAbs_mul]
  exact Nat.lt_of_le_of_lt (Nat.mul_le_mul hx hy) (by decide +kernel)
theorem log_of {x : Int} (h : x.natAbs < 2 ^ 4000) : x.natAbs.log2 < 9000 := Nat.lt_trans (lt_log h (by decide)) (by decide)
theorem told_over {p q : Rat} (hp : Sm' p) (hq : Sm' q) (s : S) : f_law_told.g [.fn "_law_over", .tup [rq p, rq q]] s = if q = 0 then .ok (.tup [.str "refused", .str "zero"]) s else .ok (.tup [.str "told", rq (p / q)]) s := by
  rw [told2 fa_over rfl]
  by_cases h : q = 0
  · rw [if_pos h, g_law_over0 hp hq h]
    rfl
  · rw [if_neg h, g_law_over hp hq h]
    rfl
theorem divInt_zero {n d : Int} (h : d ≠ 0) : Rat.divInt n d = 0 ↔ n = 0 := by
  rw [show (0 : Rat) = Rat.divInt 0 1 from rfl, Rat.divInt_eq_divInt_iff h (by decide)]
  omega
theorem len_txL {p : Rat} (h1 : p.num.natAbs < 10 ^ 13) (h2 : p.den < 10 ^ 13) : (txL p).length ≤ 28 := by
  have l1 : (intL p.num).length ≤ 14 := by
    have := TL.numL_len (by decide) h1
    unfold intL
    split
    · simp
      omega
    · omega
  have l2 := TL.numL_len (by decide) h2
  unfold txL
  split
  · simp
    omega
  · simp
    omega
theorem g_ops (s : S) : ∃ s', f_law_ops_hold.g [.st] s = .ok (.bl true) s' := by
  obtain ⟨a, b, s1, ⟨ha, hb1, hb2⟩, e1⟩ := g_pair s
  obtain ⟨c, d, s2, ⟨hc, hd1, hd2⟩, e2⟩ := g_pair s1
  obtain ⟨v, s3, hv, e3⟩ := g_take 2 (by decide) (by decide) s2
  have nb : b.natAbs ≤ 1000000000000 := by omega
  have nd : d.natAbs ≤ 1000000000000 := by omega
  obtain ⟨p, ep⟩ : ∃ p, p = Rat.divInt a b := ⟨_, rfl⟩
  obtain ⟨q, eq⟩ : ∃ q, q = Rat.divInt c d := ⟨_, rfl⟩
  have sp : Sm' p := by rw [ep]; exact sm_of hb1 (small ha) (small nb)
  have sq : Sm' q := by rw [eq]; exact sm_of hd1 (small hc) (small nd)
  have mo : ∀ {x y : Int}, x.natAbs ≤ 1000000000000 → y.natAbs ≤ 1000000000000 → ∀ (o : Own2) (s : S), (oMul o).g (.int x) (.int y) s = .ok (.int (x * y)) s := fun hx hy o s => mul_int o (mo_of (small hx) (small hy)) s
  obtain ⟨sg, hsg⟩ : ∃ sg : Int, sg = 1 - 2 * v := ⟨_, rfl⟩
  have sg1 : sg = 1 ∨ sg = -1 := by omega
  have sg2 : sg.natAbs ≤ 1000000000000 := by omega
  -- the text
  have np : p.num.natAbs < 10 ^ 13 := by
    have := div_num (n := a) hb1
    rw [← ep] at this
    omega
  have dp : p.den < 10 ^ 13 := by
    have := div_den (n := a) hb1
    rw [← ep] at this
    omega
  have lt := len_txL np dp
  have nz : 0 < (txL p).length := by
    have := List.length_pos_iff.mpr (intL_ne p.num)
    unfold txL
    rw [List.length_append]
    omega
  have p8 : (10 : Nat) ^ 13 < 2 ^ 8000 := by decide +kernel
  have tp := fun s => g_ratio_text (r := p) (Nat.lt_trans np p8) (Nat.lt_trans dp p8) s
  have rp := fun s => read_txL (r := p) (by omega) s
  obtain ⟨tl, etl⟩ : ∃ tl, tl = txL p := ⟨_, rfl⟩
  rw [← etl] at lt nz rp
  have tp : ∀ s, f_ratio_text.g [rq p] s = .ok (.str (tx tl)) s := fun s => by
    rw [tp s, ← etl, if_pos (by omega)]
  obtain ⟨told, htold⟩ : ∃ t, t = if q = 0 then (.tup [.str "refused", .str "zero"]) else D.tup [.str "told", rq (p / q)] := ⟨_, rfl⟩
  have tq : ∀ s, f_law_told.g [.fn "_law_over", .tup [rq p, rq q]] s = .ok told s := fun s => by
    rw [told_over sp sq, htold]
    split <;> rfl
  have I : ∀ (r : Rat) (n d : Int) (s : S), d ≠ 0 → d.natAbs < 2 ^ 4000 → r = Rat.divInt n d → f_law_is.g [rq r, .int n, .int d] s = .ok (.bl true) s := fun r n d s h0 h1 h2 => g_law_is r n d h0 (log_of h1) h2 s
  have b0 : b ≠ 0 := by omega
  have d0 : d ≠ 0 := by omega
  have m2 : ∀ {x y : Int}, x.natAbs ≤ 1000000000000 → y.natAbs ≤ 1000000000000 → (x * y).natAbs < 2 ^ 4000 := fun hx hy => Nat.lt_trans (small2 hx hy) (Nat.pow_lt_pow_right (by decide) (by decide))
  obtain ⟨f7, f12, f13, s4, hl⟩ := loop_ops (t := .nm 12 "s" ⟨192, 8, 192, 9⟩) (fun _ _ _ _ => rfl)
    (fun e7 e12 e13 s => bend (e1 := .fz (.int a)) (e2 := .fz (.int b)) (e3 := .fz (.int c)) (e4 := .fz (.int d)) (e5 := .fz (rq p)) (e6 := .fz (rq q)) (e7 := e7) (e8 := .fz told)
      (e9 := .fz (.int p.num)) (e10 := .fz (.int p.den)) (e12 := e12) (e13 := e13) (e14 := .un) nz (by omega) s rfl) (rgD 0 6) (.fz (.int sg)) .un .un s3
  simp only [b_law_ops_hold] at hl
  refine ⟨s4, ?_⟩
  suffices h : Sb.den b_law_ops_hold [.fz .st, .un, .un, .un, .un, .un, .un, .un, .un, .un, .un, .un, .un, .un, .un] s = .rt (.bl true) s4 by
    show runB 15 b_law_ops_hold.den [.st] s = _
    rw [q_runB]
    show outR (Sb.den b_law_ops_hold [.fz .st, .un, .un, .un, .un, .un, .un, .un, .un, .un, .un, .un, .un, .un, .un] s) = _
    rw [h]
    rfl
  unfold b_law_ops_hold
  refine stp [.fz .st, .fz (.int a), .fz (.int b), .fz (.int c), .fz (.int d), .un, .un, .un, .un, .un, .un, .un, .un, .un, .un] s2 ?_ ?_
  · simp [e1, e2, sizeLine_eq]
  have K : ∀ s, k_Ratio2.g [.int a, .int b] s = .ok [.int p.num, .int p.den] s := fun s => by rw [i_Ratio a b s b0 (log_of (small nb)), ep]
  have K2 : ∀ s, k_Ratio2.g [.int c, .int d] s = .ok [.int q.num, .int q.den] s := fun s => by rw [i_Ratio c d s d0 (log_of (small nd)), eq]
  refine stp [.fz .st, .fz (.int a), .fz (.int b), .fz (.int c), .fz (.int d), .fz (rq p), .fz (rq q), .fz (.int sg), .un, .un, .un, .un, .un, .un, .un] s3 ?_ ?_
  · have mv : ∀ s, (oMul (some m_mul)).g (.int 2) (.int v) s = .ok (.int (2 * v)) s := mo (by decide) (by omega) _
    simp [K, K2, e3, mv, sub_int, ← hsg, sizeLine_eq, rD]
  have Kp : ∀ s, k_Ratio2.g [.int (sg * a), .int (sg * b)] s = .ok [.int p.num, .int p.den] s := fun s => by
    rw [i_Ratio (sg * a) (sg * b) s (by rcases sg1 with e | e <;> rw [e] <;> omega) (log_of (m2 sg2 nb)), Rat.divInt_mul_left (by omega), ep]
  refine stp_no s3 ?_ ?_
  · have i1 := fun s => I p a b s b0 (small nb) ep
    have i3 := fun s => I (Rat.divInt a 1) a 1 s (by decide) (by decide) rfl
    simp only [q_one] at i3
    have x1 := mo sg2 ha (some m_mul)
    have x2 := mo sg2 nb (some m_mul)
    generalize sg * a = sa at *
    generalize sg * b = sb at *
    simp only [rq, rD] at i1
    simp [i1, i3, x1, x2, Kp, k1_int, rD]
  have M1 := mo ha nd (some m_mul)
  have M2 := mo hc nb (some m_mul)
  have M3 := mo nb nd (some m_mul)
  have M4 := mo ha hc (some m_mul)
  have M5 := mo nb hc (some m_mul)
  have bd0 : b * d ≠ 0 := Int.mul_ne_zero b0 d0
  refine stp_no s3 ?_ ?_
  · have i1 := fun s => I (p + q) (a * d + c * b) (b * d) s bd0 (m2 nb nd) (by rw [ep, eq, Rat.divInt_add_divInt _ _ b0 d0])
    have i2 := fun s => I (p - q) (a * d - c * b) (b * d) s bd0 (m2 nb nd) (by rw [ep, eq, Rat.divInt_sub_divInt _ _ b0 d0])
    have i3 := fun s => I (p * q) (a * c) (b * d) s bd0 (m2 nb nd) (by rw [ep, eq, Rat.divInt_mul_divInt])
    have i4 := fun s => I (-p) (-a) b s b0 (small nb) (by rw [ep, Rat.neg_divInt])
    have o1 := add_q sp sq
    have o2 := sub_q sp sq
    have o3 := mul_q sp sq
    have o4 := neg_q sp
    generalize p + q = r1 at *
    generalize p - q = r2 at *
    generalize p * q = r3 at *
    generalize -p = r4 at *
    generalize a * d = ad at *
    generalize c * b = cb at *
    generalize b * d = bd at *
    generalize a * c = ac at *
    simp only [rq, rD] at i1 i2 i3 i4 o1 o2 o3 o4
    simp [i1, i2, i3, i4, o1, o2, o3, o4, M1, M2, M3, M4, add_int, sub_int, neg_int, rD]
  refine stp [.fz .st, .fz (.int a), .fz (.int b), .fz (.int c), .fz (.int d), .fz (rq p), .fz (rq q), .fz (.int sg), .fz told, .un, .un, .un, .un, .un, .un] s3 ?_ ?_
  · simp only [rq, rD] at tq
    simp [tq, sizeLine_eq, rD]
  refine stp_no s3 ?_ ?_
  · by_cases c0 : c = 0
    · have q0 : q = 0 := by rw [eq, divInt_zero d0]; exact c0
      rw [if_pos q0] at htold
      rw [htold]
      simp [eqT_int, c0, told_zero, sizeLine_eq]
    · have q0 : ¬ q = 0 := by rw [eq, divInt_zero d0]; exact c0
      rw [if_neg q0] at htold
      rw [htold]
      have i1 := fun s => I (p / q) (a * d) (b * c) s (Int.mul_ne_zero b0 c0) (m2 nb hc) (by rw [ep, eq, Rat.div_def, Rat.inv_divInt, Rat.divInt_mul_divInt])
      generalize p / q = r1 at *
      generalize a * d = ad at *
      generalize b * c = bc at *
      simp only [rq, rD] at i1
      simp [eqT_int, c0, ne_str, i1, M1, M5, sizeLine_eq, rD]
  refine stp_no s3 ?_ ?_
  · have l1 := g_less sp sq
    have l2 : decide (p < q) = decide (a * d < c * b) := by
      apply decide_eq_decide.mpr
      rw [ep, eq]
      exact divInt_less hb1 hd1
    rw [l2] at l1
    have l3 := eq_rq p q
    have l4 : decide (p = q) = (a * d == c * b) := by
      rw [Bool.eq_iff_iff]
      simp only [decide_eq_true_eq, beq_iff_eq]
      rw [ep, eq]
      exact Rat.divInt_eq_divInt_iff b0 d0
    rw [l4] at l3
    have l5 := g_sign p
    have l6 : decide (0 < p.num) = decide (0 < a) := by
      apply decide_eq_decide.mpr
      rw [ep]
      exact divInt_pos hb1
    have l7 : decide (p.num < 0) = decide (a < 0) := by
      apply decide_eq_decide.mpr
      rw [ep]
      exact divInt_neg hb1
    rw [l6, l7] at l5
    have c1 := c_less p
    have c2 := c_sign p
    generalize a * d = ad at *
    generalize c * b = cb at *
    simp only [rq, rD] at l1 l3 l5 c1 c2
    rcases Int.lt_trichotomy a 0 with h | h | h
    · have h' : ¬ 0 < a := by omega
      simp [c1, c2, l1, l3, l5, M1, M2, lt_int, eqT_int, g_says, g_same_int, gt_int, h, h', b2, neg_int, rD]
    · subst h
      simp [c1, c2, l1, l3, l5, M1, M2, lt_int, eqT_int, g_says, g_same_int, gt_int, b2, rD]
    · have h' : ¬ a < 0 := by omega
      simp [c1, c2, l1, l3, l5, M1, M2, lt_int, eqT_int, g_says, g_same_int, gt_int, h, h', b2, rD]
  refine stp_no s3 ?_ ?_
  · have l1 := g_is_whole p
    have l2 : decide (p.den = 1) = (a.fmod b == 0) := by
      rw [Bool.eq_iff_iff]
      simp only [decide_eq_true_eq, beq_iff_eq]
      rw [ep]
      exact divInt_whole hb1
    rw [l2] at l1
    have l3 := g_floor sp
    rw [show p.num / (p.den : Int) = a.fdiv b by rw [ep]; exact divInt_floor hb1] at l3
    have c1 := c_whole p
    have c2 := c_floor p
    have x1 := eq_none p
    have x2 := eq_rint p a
    have x3 := eq_rstr p "0"
    have x4 := eq_rtup p [.int p.num, .int p.den]
    have o1 := mod_int b0 a
    have o2 := fdiv_int b0 (log_of (small nb)) a
    simp only [rq, rD] at l1 l3 c1 c2 x1 x2 x3 x4
    generalize a.fmod b = z1 at *
    generalize a.fdiv b = z2 at *
    simp [c1, c2, l1, l3, x1, x2, x3, x4, o1, o2, int_int, eqT_int, g_says, g_same_int, bAny, sizeLine_eq, rD]
  refine stp [.fz .st, .fz (.int a), .fz (.int b), .fz (.int c), .fz (.int d), .fz (rq p), .fz (rq q), .fz (.int sg), .fz told, .fz (.int p.num), .fz (.int p.den), .un, .un, .un, .un] s3 ?_ ?_
  · have l1 := g_plain a b b0 (log_of (small nb))
    rw [← ep] at l1
    simp [l1]
  refine stp [.fz .st, .fz (.int a), .fz (.int b), .fz (.int c), .fz (.int d), .fz (rq p), .fz (rq q), .fz (.int sg), .fz told, .fz (.int p.num), .fz (.int p.den), .fz (.str (tx tl)), .un, .un, .un] s3 ?_ ?_
  · have l1 := str_int (Nat.lt_trans np p8)
    have l2 := str_nat (Nat.lt_trans dp p8)
    have k1 := intL_len (Nat.lt_trans np p8)
    have k2 := num_len (Nat.lt_trans dp p8)
    by_cases h : p.den = 1
    · have e : tl = intL p.num ++ [] := by rw [etl]; simp [txL, h]
      have x1 : ∀ s, (oAdd (some m_add)).g (.str (tx (intL p.num))) (.str (tx [])) s = .ok (.str (tx tl)) s := fun s => by
        rw [e]
        exact add_tx (by simp; omega) _ s
      simp [l1, gt_int, h, tx_emp, x1]
    · have h' : (1 : Int) < p.den := by
        have := p.den_nz
        omega
      have e : tl = intL p.num ++ ([47] ++ TL.numL p.den) := by rw [etl]; simp [txL, h]
      have x1 : ∀ s, (oAdd (some m_add)).g (.str (tx (intL p.num))) (.str (tx ([47] ++ TL.numL p.den))) s = .ok (.str (tx tl)) s := fun s => by
        rw [e]
        exact add_tx (by simp; omega) _ s
      have x2 : ∀ s, (oAdd (some m_add)).g (.str (tx [47])) (.str (tx (TL.numL p.den))) s = .ok (.str (tx ([47] ++ TL.numL p.den))) s := add_tx (by simp; omega) _
      generalize [47] ++ TL.numL p.den = z at *
      simp [l1, l2, gt_int, h', tx_over, x1, x2]
  refine stp_no s3 ?_ ?_
  · have x := eq_rq p p
    rw [decide_eq_true rfl] at x
    simp only [rq, rD] at tp rp x
    simp [tp, rp, x, g_same_str, rD]
  refine stp [.fz .st, .fz (.int a), .fz (.int b), .fz (.int c), .fz (.int d), .fz (rq p), .fz (rq q), f7, .fz told, .fz (.int p.num), .fz (.int p.den), .fz (.str (tx tl)), f12, f13, .un] s4 ?_ ?_
  · rw [q_fors]
    exact hl
  have i3 := fun s => I (Rat.divInt a 1) a 1 s (by decide) (by decide) rfl
  have x := eq_rq p p
  have y := as_q p
  rw [decide_eq_true rfl] at x
  simp only [q_one] at i3
  simp only [rq, rD] at x y
  simp [i3, x, y, as_int, rD]
end Dn.K00
namespace Dn
open PySem L2
theorem for_step {t : T} {b : MS} {x : D} {xs : List D} {env env' env2 : DEnv} {s s2 : S} (h1 : bindT t x env = some env') (h2 : b env' s = .nx env2 s2) : forL t b (x :: xs) env s = forL t b xs env2 s2 := by
  conv => lhs; unfold forL
  rw [h1]
  show (match b env' s with | .nx env2 s2 => forL t b xs env2 s2 | o => o) = _
  rw [h2]
theorem rgD_len (lo : Int) (n : Nat) : (rgD lo n).length = n := by simp [rgD]
end Dn
namespace Dn.K00
open PySem L2 Dn
/-! ### sums -/
abbrev PI := Int × Int
def qv (p : PI) : Rat := Rat.divInt p.1 p.2
def pD (p : PI) : D := .tup [.int p.1, .int p.2]
def fD (p : PI) : D := .ins 0 [.int (qv p).num, .int (qv p).den]
theorem fD_eq (p : PI) : rq (qv p) = fD p := rfl
def fo1 (p : PI) (q : PI) : PI := (p.1 * q.2 + q.1 * p.2, p.2 * q.2)
def fo (ps : List PI) (p : PI) : PI := ps.foldl fo1 p
structure Fr (p : PI) (j : Nat) : Prop where
  d : 0 < p.2
  n : p.1.natAbs ≤ 2 ^ (100 * j)
  b : p.2.natAbs ≤ 2 ^ (100 * j)
structure Bd (p : PI) : Prop where
  d : 0 < p.2
  n : p.1.natAbs ≤ 2 ^ 90
  b : p.2.natAbs ≤ 2 ^ 90
theorem Fr.lt {p : PI} {j : Nat} (h : Fr p j) (hj : j ≤ 30) : p.1.natAbs < 2 ^ 4000 ∧ p.2.natAbs < 2 ^ 4000 := by
  have : 2 ^ (100 * j) < 2 ^ 4000 := Nat.pow_lt_pow_right (by decide) (by omega)
  exact ⟨Nat.lt_of_le_of_lt h.n this, Nat.lt_of_le_of_lt h.b this⟩
theorem Bd.lt {p : PI} (h : Bd p) : p.1.natAbs < 2 ^ 4000 ∧ p.2.natAbs < 2 ^ 4000 := by
  have : 2 ^ 90 < 2 ^ 4000 := Nat.pow_lt_pow_right (by decide) (by decide)
  exact ⟨Nat.lt_of_le_of_lt h.n this, Nat.lt_of_le_of_lt h.b this⟩
theorem Fr.sm {p : PI} {j : Nat} (h : Fr p j) (hj : j ≤ 30) : Sm' (qv p) := sm_of h.d (h.lt hj).1 (h.lt hj).2
theorem Bd.sm {p : PI} (h : Bd p) : Sm' (qv p) := sm_of h.d h.lt.1 h.lt.2
theorem Fr.step {p q : PI} {j : Nat} (h : Fr p j) (hq : Bd q) : Fr (fo1 p q) (j + 1) := by
  have e : 2 ^ (100 * (j + 1)) = 2 ^ (100 * j) * (2 ^ 90 * 2 ^ 10) := by
    rw [← Nat.pow_add, ← Nat.pow_add]
    congr 1
  have k1 : p.1.natAbs * q.2.natAbs ≤ 2 ^ (100 * j) * 2 ^ 90 := Nat.mul_le_mul h.n hq.b
  have k2 : q.1.natAbs * p.2.natAbs ≤ 2 ^ (100 * j) * 2 ^ 90 := by
    rw [Nat.mul_comm (2 ^ (100 * j))]
    exact Nat.mul_le_mul hq.n h.b
  have k3 : p.2.natAbs * q.2.natAbs ≤ 2 ^ (100 * j) * 2 ^ 90 := Nat.mul_le_mul h.b hq.b
  have e2 : 2 ^ (100 * j) * (2 ^ 90 * 2 ^ 10) = 1024 * (2 ^ (100 * j) * 2 ^ 90) := by
    rw [← Nat.mul_assoc, Nat.mul_comm]
  refine ⟨Int.mul_pos h.d hq.d, ?_, ?_⟩
  · rw [e, e2]
    show (p.1 * q.2 + q.1 * p.2).natAbs ≤ _
    refine Nat.le_trans (Int.natAbs_add_le _ _) ?_
    rw [Int.natAbs_mul, Int.natAbs_mul]
    omega
  · rw [e, e2]
    show (p.2 * q.2).natAbs ≤ _
    rw [Int.natAbs_mul]
    omega
theorem Fr.fold : ∀ {ps : List PI} {p : PI} {j : Nat}, Fr p j → (∀ q ∈ ps, Bd q) → Fr (fo ps p) (j + ps.length)
  | [], _, _, h, _ => h
  | q :: ps, p, j, h, hb => by
    have := Fr.fold (ps := ps) (h.step (hb q (List.mem_cons_self ..))) fun r hr => hb r (List.mem_cons_of_mem _ hr)
    rw [show j + 1 + ps.length = j + (q :: ps).length by simp; omega] at this
    exact this
theorem qv_add {p q : PI} (hp : 0 < p.2) (hq : 0 < q.2) : qv p + qv q = qv (fo1 p q) := Rat.divInt_add_divInt _ _ (by omega) (by omega)
def sumB : Sb := match b_ratio_sum with
  | .cons _ (.cons (.fors _ _ b _) _) => b
  | _ => .nil
theorem sum_loop : ∀ (ps : List PI) (p : PI) (j : Nat) (e0 e2 : Sl) (s : S), Fr p j → (∀ q ∈ ps, Bd q) → j + ps.length ≤ 30 →
    ∃ f2, forL (.nm 2 "own" ⟨112, 8, 112, 11⟩) sumB.den (ps.map fD) [e0, .fz (fD p), e2] s = .nx [e0, .fz (fD (fo ps p)), f2] s
  | [], p, j, e0, e2, s, _, _, _ => ⟨e2, rfl⟩
  | q :: ps, p, j, e0, e2, s, h, hb, hj => by
    have hq := hb q (List.mem_cons_self ..)
    rw [List.length_cons] at hj
    obtain ⟨f2, ih⟩ := sum_loop ps (fo1 p q) (j + 1) e0 (.fz (fD q)) s (h.step hq) (fun r hr => hb r (List.mem_cons_of_mem _ hr)) (by omega)
    refine ⟨f2, ?_⟩
    have a := add_q (h.sm (by omega)) hq.sm
    rw [qv_add h.d hq.d] at a
    simp only [fD_eq] at a
    rw [List.map_cons, for_step (env' := [e0, .fz (fD p), .fz (fD q)]) (env2 := [e0, .fz (fD (fo1 p q)), .fz (fD q)]) (s2 := s) rfl (by simp [sumB, b_ratio_sum, a])]
    exact ih
theorem g_ratio_sum {d : D} {ps : List PI} (hd : ∀ s, itemsD d s = .ok (ps.map fD) s) (hb : ∀ q ∈ ps, Bd q) (hj : ps.length ≤ 30) (s : S) : f_ratio_sum.g [d] s = .ok (fD (fo ps (0, 1))) s := by
  obtain ⟨f2, h⟩ := sum_loop ps (0, 1) 0 (.fz d) .un s ⟨by decide, by decide, by decide⟩ hb (by omega)
  simp only [sumB, b_ratio_sum] at h
  have e : fD (0, 1) = .ins 0 [.int 0, .int 1] := rfl
  suffices h : Sb.den b_ratio_sum [.fz d, .un, .un] s = .rt (fD (fo ps (0, 1))) s by
    show runB 3 b_ratio_sum.den [d] s = _
    rw [q_runB]
    show outR (Sb.den b_ratio_sum [.fz d, .un, .un] s) = _
    rw [h]
    rfl
  unfold b_ratio_sum
  refine stp [.fz d, .fz (fD (0, 1)), .un] s ?_ ?_
  · rw [e]
    simp [k1_int]
  refine stp [.fz d, .fz (fD (fo ps (0, 1))), f2] s ?_ ?_
  · rw [q_fors]
    simp only [q_is_seq, q_of, q_var]
    show toO ((itemsD d) s) _ = _
    rw [hd]
    exact h
  · simp
/-! ### products -/
def mq (z : PI × PI) : PI := (z.1.1 * z.2.1, z.1.2 * z.2.2)
structure Bh (p : PI) : Prop where
  d : 0 < p.2
  n : p.1.natAbs ≤ 1000000000000
  b : p.2.natAbs ≤ 1000000000000
theorem Bh.bd {p : PI} (h : Bh p) : Bd p := ⟨h.d, Nat.le_trans h.n (by decide), Nat.le_trans h.b (by decide)⟩
theorem Bh.mq {z : PI × PI} (h1 : Bh z.1) (h2 : Bh z.2) : Bd (mq z) := by
  refine ⟨Int.mul_pos h1.d h2.d, ?_, ?_⟩
  · show (z.1.1 * z.2.1).natAbs ≤ _
    rw [Int.natAbs_mul]
    exact Nat.le_trans (Nat.mul_le_mul h1.n h2.n) (by decide)
  · show (z.1.2 * z.2.2).natAbs ≤ _
    rw [Int.natAbs_mul]
    exact Nat.le_trans (Nat.mul_le_mul h1.b h2.b) (by decide)
theorem qv_mul (z : PI × PI) : qv z.1 * qv z.2 = qv (mq z) := Rat.divInt_mul_divInt _ _
theorem zip_map (f : PI → D) (ps qs : List PI) : zipD (ps.map f) (qs.map f) = (ps.zip qs).map fun z => .tup [f z.1, f z.2] := by
  simp [zipD, List.zip_map, Function.comp_def]
@[simp] theorem n_sum : f_ratio_sum.n = 1 := rfl
@[simp] theorem n_dot : f_ratio_dot.n = 2 := rfl
@[simp] theorem n_are : f_are_ratios.n = 1 := rfl
@[simp] theorem n_sums : f_law_sums_hold.n = 1 := rfl
theorem mem_zip {ps qs : List PI} {z : PI × PI} (h : z ∈ ps.zip qs) : z.1 ∈ ps ∧ z.2 ∈ qs := List.of_mem_zip (show (z.1, z.2) ∈ ps.zip qs from h)
theorem g_dot {ps qs : List PI} (h1 : ∀ p ∈ ps, Bh p) (h2 : ∀ p ∈ qs, Bh p) (hj : ps.length ≤ 30) (s : S) : f_ratio_dot.g [.tup (ps.map fD), .tup (qs.map fD)] s = .ok (fD (fo ((ps.zip qs).map mq) (0, 1))) s := by
  have hz : zp2D [.tup (ps.map fD), .tup (qs.map fD)] s = .ok ((ps.zip qs).map fun z => .tup [fD z.1, fD z.2]) s := by
    show R.ok (zipD (ps.map fD) (qs.map fD)) s = _
    rw [zip_map]
  have hb : ∀ q ∈ (ps.zip qs).map mq, Bd q := fun q hq => by
    obtain ⟨z, hz, rfl⟩ := List.mem_map.mp hq
    exact Bh.mq (h1 _ (mem_zip hz).1) (h2 _ (mem_zip hz).2)
  have hs := g_ratio_sum (d := .lst (((ps.zip qs).map mq).map fD)) (ps := (ps.zip qs).map mq) (fun _ => rfl) hb (by simp; omega)
  have hc : ∀ (e : E) (env : DEnv), (∀ z ∈ ps.zip qs, ∀ a b, e.den [a, b, .fz (fD z.1), .fz (fD z.2)] s = .ok (fD (mq z)) s) → ∀ (a b : Sl) (x y : Str) (p q r : Pos), compL [2, 3] (.tp (.cons (.nm 2 x p) (.cons (.nm 3 y q) .nil)) 0 r) Oe.no.tst e.den [a, b, .un, .un] ((ps.zip qs).map fun z => .tup [fD z.1, fD z.2]) s = .ok ((ps.zip qs).map fun z => fD (mq z)) s := fun e env he a b x y p q r =>
    compL_map fun z hz => ⟨_, rfl, rfl, he z hz a b⟩
  suffices h : Sb.den b_ratio_dot [.fz (.tup (ps.map fD)), .fz (.tup (qs.map fD)), .un, .un] s = .rt (fD (fo ((ps.zip qs).map mq) (0, 1))) s by
    show runB 4 b_ratio_dot.den [.tup (ps.map fD), .tup (qs.map fD)] s = _
    rw [q_runB]
    show outR (Sb.den b_ratio_dot [.fz (.tup (ps.map fD)), .fz (.tup (qs.map fD)), .un, .un] s) = _
    rw [h]
    rfl
  unfold b_ratio_dot
  simp [hz]
  rw [hc _ [] (fun z hz a b => by
    have m := mul_q (h1 _ (mem_zip hz).1).bd.sm (h2 _ (mem_zip hz).2).bd.sm
    rw [qv_mul] at m
    simp only [fD_eq] at m
    simp [m])]
  simp
  rw [List.map_map] at hs
  rw [show (ps.zip qs).map (fun z => fD (mq z)) = (ps.zip qs).map (fD ∘ mq) from rfl, hs]
  rfl
theorem g_are {xs : List D} (h : ∀ x ∈ xs, ∃ fs, x = .ins 0 fs) (s : S) : f_are_ratios.g [.tup xs] s = .ok (.bl true) s := by
  have hc : ∀ (e : E), (∀ x ∈ xs, ∀ a, e.den [a, .fz x] s = .ok (.bl true) s) → ∀ (a : Sl) (x : Str) (p : Pos), compL [1] (.nm 1 x p) Oe.no.tst e.den [a, .un] (xs.map id) s = .ok (xs.map fun _ => .bl true) s := fun e he a x p =>
    compL_map fun z hz => ⟨_, rfl, rfl, he z hz a⟩
  rw [show xs.map id = xs by simp] at hc
  have hb : bAll.g [.lst (xs.map fun _ => .bl true)] s = .ok (.bl true) s := by
    have h := q_quD (fun bs => bs.all id) _ _ s (bls_map (fun _ : D => true) xs)
    rw [List.all_map] at h
    refine h.trans ?_
    simp
  suffices h : Sb.den b_are_ratios [.fz (.tup xs), .un] s = .rt (.bl true) s by
    show runB 2 b_are_ratios.den [.tup xs] s = _
    rw [q_runB]
    show outR (Sb.den b_are_ratios [.fz (.tup xs), .un] s) = _
    rw [h]
    rfl
  unfold b_are_ratios
  simp [isTy, isTyD, kindB, insIn]
  rw [hc _ (fun x hx a => by
    obtain ⟨fs, rfl⟩ := h x hx
    simp)]
  simp [hb]
/-! ### the law's own sums -/
theorem comp_pairs {own : List Nat} {t : T} {fe : DEnv → M D} {env : DEnv} (h : ∀ (x : D) (s : S), ∃ (env' : DEnv) (p : PI) (s' : S), bindT t x (wipeD env own) = some env' ∧ Bh p ∧ fe env' s = .ok (pD p) s') :
    ∀ (xs : List D) (s : S), ∃ (ps : List PI) (s' : S), ps.length = xs.length ∧ (∀ p ∈ ps, Bh p) ∧ compL own t Oe.no.tst fe env xs s = .ok (ps.map pD) s'
  | [], s => ⟨[], s, rfl, fun _ h => absurd h (List.not_mem_nil), rfl⟩
  | x :: xs, s => by
    obtain ⟨env', p, s1, e1, hp, e2⟩ := h x s
    obtain ⟨ps, s2, hl, hb, e3⟩ := comp_pairs h xs s1
    refine ⟨p :: ps, s2, by simp [hl], fun q hq => ?_, ?_⟩
    · rcases List.mem_cons.mp hq with rfl | hq
      · exact hp
      · exact hb q hq
    · rw [q_comp1, e1, q_compO, q_no_tst, q_noErr_ok, q_bind_ok, if_pos rfl, e2, q_noErr_ok, q_bind_ok, e3]
      rfl
theorem pair_p (s : S) : ∃ (p : PI) (s' : S), Bh p ∧ f_law_pair.g [.st] s = .ok (pD p) s' := by
  obtain ⟨a, b, s', ⟨h1, h2, h3⟩, e⟩ := g_pair s
  exact ⟨(a, b), s', ⟨h2, h1, by show b.natAbs ≤ _; omega⟩, e⟩
def lawB1 : Sb := match b_law_sums_hold with
  | .cons _ (.cons _ (.cons _ (.cons (.fors _ _ b _) _))) => b
  | _ => .nil
def lawB2 : Sb := match b_law_sums_hold with
  | .cons _ (.cons _ (.cons _ (.cons _ (.cons (.fors _ _ b _) _)))) => b
  | _ => .nil
abbrev tAB : T := .tp (.cons (.nm 7 "a" ⟨206, 8, 206, 9⟩) (.cons (.nm 8 "b" ⟨206, 11, 206, 12⟩) .nil)) 0 ⟨206, 8, 206, 12⟩
abbrev tABCE : T := .tp (.cons (.tp (.cons (.nm 7 "a" ⟨208, 9, 208, 10⟩) (.cons (.nm 8 "b" ⟨208, 12, 208, 13⟩) .nil)) 0 ⟨208, 8, 208, 14⟩) (.cons (.tp (.cons (.nm 9 "c" ⟨208, 17, 208, 18⟩) (.cons (.nm 10 "e" ⟨208, 20, 208, 21⟩) .nil)) 0 ⟨208, 16, 208, 22⟩) .nil)) 0 ⟨208, 8, 208, 22⟩
theorem law_loop1 {e0 e1 e2 e5 e6 e9 e10 e11 e12 e13 : Sl} : ∀ (ps : List PI) (p : PI) (j : Nat) (e7 e8 : Sl) (s : S), Fr p j → (∀ q ∈ ps, Bh q) → j + ps.length ≤ 30 →
    ∃ f7 f8, forL tAB lawB1.den (ps.map pD) [e0, e1, e2, .fz (.int p.1), .fz (.int p.2), e5, e6, e7, e8, e9, e10, e11, e12, e13] s =
      .nx [e0, e1, e2, .fz (.int (fo ps p).1), .fz (.int (fo ps p).2), e5, e6, f7, f8, e9, e10, e11, e12, e13] s
  | [], p, j, e7, e8, s, _, _, _ => ⟨e7, e8, rfl⟩
  | q :: ps, p, j, e7, e8, s, h, hb, hj => by
    have hq := hb q (List.mem_cons_self ..)
    rw [List.length_cons] at hj
    obtain ⟨f7, f8, ih⟩ := law_loop1 ps (fo1 p q) (j + 1) (.fz (.int q.1)) (.fz (.int q.2)) s (h.step hq.bd) (fun r hr => hb r (List.mem_cons_of_mem _ hr)) (by omega)
    refine ⟨f7, f8, ?_⟩
    have l := h.lt (by omega)
    have m1 := mul_int none (mo_of l.1 hq.bd.lt.2)
    have m2 := mul_int none (mo_of hq.bd.lt.1 l.2)
    have m3 := mul_int none (mo_of l.2 hq.bd.lt.2)
    rw [List.map_cons, for_step (env' := [e0, e1, e2, .fz (.int p.1), .fz (.int p.2), e5, e6, .fz (.int q.1), .fz (.int q.2), e9, e10, e11, e12, e13])
      (env2 := [e0, e1, e2, .fz (.int (fo1 p q).1), .fz (.int (fo1 p q).2), e5, e6, .fz (.int q.1), .fz (.int q.2), e9, e10, e11, e12, e13]) (s2 := s) rfl (by
        simp [lawB1, b_law_sums_hold, m1, m2, m3, add_int, fo1])]
    exact ih
theorem law_loop2 {e0 e1 e2 e3 e4 e11 e12 e13 : Sl} : ∀ (ps : List (PI × PI)) (p : PI) (j : Nat) (e7 e8 e9 e10 : Sl) (s : S), Fr p j → (∀ z ∈ ps, Bh z.1 ∧ Bh z.2) → j + ps.length ≤ 30 →
    ∃ f7 f8 f9 f10, forL tABCE lawB2.den (ps.map fun z => .tup [pD z.1, pD z.2]) [e0, e1, e2, e3, e4, .fz (.int p.1), .fz (.int p.2), e7, e8, e9, e10, e11, e12, e13] s =
      .nx [e0, e1, e2, e3, e4, .fz (.int (fo (ps.map mq) p).1), .fz (.int (fo (ps.map mq) p).2), f7, f8, f9, f10, e11, e12, e13] s
  | [], p, j, e7, e8, e9, e10, s, _, _, _ => ⟨e7, e8, e9, e10, rfl⟩
  | z :: ps, p, j, e7, e8, e9, e10, s, h, hb, hj => by
    obtain ⟨h1, h2⟩ := hb z (List.mem_cons_self ..)
    rw [List.length_cons] at hj
    obtain ⟨f7, f8, f9, f10, ih⟩ := law_loop2 ps (fo1 p (mq z)) (j + 1) (.fz (.int z.1.1)) (.fz (.int z.1.2)) (.fz (.int z.2.1)) (.fz (.int z.2.2)) s (h.step (Bh.mq h1 h2)) (fun r hr => hb r (List.mem_cons_of_mem _ hr)) (by omega)
    refine ⟨f7, f8, f9, f10, ?_⟩
    have l := h.lt (by omega)
    have s1 := h.step h1.bd
    have lp : ∀ x y : Int, x.natAbs ≤ 2 ^ (100 * j) → y.natAbs ≤ 1000000000000 → (x * y).natAbs < 2 ^ 4000 := fun x y hx hy => by
      rw [Int.natAbs_mul]
      have k1 : 2 ^ (100 * j) ≤ 2 ^ 3000 := Nat.pow_le_pow_right (by decide) (by omega)
      refine Nat.lt_of_le_of_lt (Nat.mul_le_mul (Nat.le_trans hx k1) hy) (by decide +kernel)
    have m1 := mul_int none (mo_of l.1 h1.bd.lt.2)
    have m2 := mul_int none (mo_of (lp _ _ h.n h1.b) h2.bd.lt.2)
    have m3 := mul_int none (mo_of h1.bd.lt.1 h2.bd.lt.1)
    have m4 := mul_int none (mo_of (Bh.mq h1 h2).lt.1 l.2)
    have m5 := mul_int none (mo_of l.2 h1.bd.lt.2)
    have m6 := mul_int none (mo_of (lp _ _ h.b h1.b) h2.bd.lt.2)
    simp only [mq] at m4
    rw [List.map_cons, for_step (env' := [e0, e1, e2, e3, e4, .fz (.int p.1), .fz (.int p.2), .fz (.int z.1.1), .fz (.int z.1.2), .fz (.int z.2.1), .fz (.int z.2.2), e11, e12, e13])
      (env2 := [e0, e1, e2, e3, e4, .fz (.int (fo1 p (mq z)).1), .fz (.int (fo1 p (mq z)).2), .fz (.int z.1.1), .fz (.int z.1.2), .fz (.int z.2.1), .fz (.int z.2.2), e11, e12, e13]) (s2 := s) rfl (by
        simp [lawB2, b_law_sums_hold, m1, m2, m3, m4, m5, m6, add_int, fo1, mq, Int.mul_assoc])]
    exact ih
end Dn.K00
namespace Dn.K00
open PySem L2 Dn
theorem rg1_of {k : Int} (h : 0 ≤ k ∧ k < 5) (s : S) : rg1D [.int k] s = .ok (rgD 0 k.toNat) s := by
  show (if k ≤ 16777216 ∧ -16777216 ≤ k then rt (rgD 0 k.toNat) else bad) s = _
  rw [if_pos (by omega)]
  rfl
theorem tup_of (xs : List D) (s : S) : bTuple.g [.lst xs] s = .ok (.tup xs) s := rfl
theorem zpl_of (xs ys : List D) (s : S) : zp2D [.lst xs, .lst ys] s = .ok (zipD xs ys) s := rfl
theorem is_fo {ps : List PI} (hb : ∀ q ∈ ps, Bd q) (hj : ps.length ≤ 30) (s : S) : f_law_is.g [fD (fo ps (0, 1)), .int (fo ps (0, 1)).1, .int (fo ps (0, 1)).2] s = .ok (.bl true) s := by
  have f : Fr (fo ps (0, 1)) (0 + ps.length) := Fr.fold ⟨by decide, by decide, by decide⟩ hb
  have l := f.lt (by omega)
  have d := f.d
  exact g_law_is (qv (fo ps (0, 1))) _ _ (by omega) (log_of l.2) rfl s
theorem comp_mk {t : T} {own : List Nat} {fe : DEnv → M D} {env : DEnv} {s : S} {ps : List PI} (h : ∀ p ∈ ps, ∃ e, bindT t (pD p) (wipeD env own) = some e ∧ fe e s = .ok (fD p) s) : compL own t Oe.no.tst fe env (ps.map pD) s = .ok (ps.map fD) s :=
  compL_map fun p hp => by
    obtain ⟨e, h1, h2⟩ := h p hp
    exact ⟨e, h1, rfl, h2⟩
theorem mk_p {p : PI} (h : Bh p) (s : S) : k_Ratio2.g [.int p.1, .int p.2] s = .ok [.int (qv p).num, .int (qv p).den] s := i_Ratio _ _ _ (by have := h.d; omega) (log_of h.bd.lt.2)
theorem g_sums (s : S) : ∃ s', f_law_sums_hold.g [.st] s = .ok (.bl true) s' := by
  obtain ⟨k, s1, hk, e1⟩ := g_take 5 (by decide) (by decide) s
  have cp : ∀ (i : Nat) (x : Str) (p q r w : Pos) (xs : List D) (env : DEnv), env[0]? = some (.fz .st) → i ≠ 0 → ∀ s, ∃ (ps : List PI) (s' : S), ps.length = xs.length ∧ (∀ p ∈ ps, Bh p) ∧ compL [i] (.nm i x p) Oe.no.tst (E.call f_law_pair (.var 0 "state" q) .nil r w).den env xs s = .ok (ps.map pD) s' := fun i x p q r w xs env h0 hi =>
    comp_pairs (fun x s => by
      obtain ⟨z, s', hz, e⟩ := pair_p s
      refine ⟨_, z, s', rfl, hz, ?_⟩
      have : (List.set (wipeD env [i]) i (.fz x))[0]? = some (Sl.fz .st) := by
        simp [hi, h0]
      simp [hi, h0, e]) xs
  obtain ⟨ps, s2, l1, b1, e2⟩ := cp 13 "t" ⟨203, 34, 203, 35⟩ ⟨203, 23, 203, 28⟩ ⟨203, 13, 203, 22⟩ ⟨203, 13, 203, 29⟩ (rgD 0 k.toNat) [.fz .st, .un, .un, .un, .un, .un, .un, .un, .un, .un, .un, .un, .un, .un] rfl (by decide) s1
  obtain ⟨m, s3, hm, e3⟩ := g_take 5 (by decide) (by decide) s2
  obtain ⟨qs, s4, l2, b2, e4⟩ := cp 13 "t" ⟨204, 33, 204, 34⟩ ⟨204, 22, 204, 27⟩ ⟨204, 12, 204, 21⟩ ⟨204, 12, 204, 28⟩ (rgD 0 m.toNat) [.fz .st, .fz (.lst (ps.map pD)), .un, .un, .un, .un, .un, .un, .un, .un, .un, .un, .un, .un] rfl (by decide) s3
  rw [rgD_len] at l1 l2
  have bd1 : ∀ q ∈ ps, Bd q := fun q h => (b1 q h).bd
  have bz : ∀ z ∈ ps.zip qs, Bh z.1 ∧ Bh z.2 := fun z h => ⟨b1 _ (mem_zip h).1, b2 _ (mem_zip h).2⟩
  have bm : ∀ q ∈ (ps.zip qs).map mq, Bd q := fun q hq => by
    obtain ⟨z, hz, rfl⟩ := List.mem_map.mp hq
    exact Bh.mq (bz z hz).1 (bz z hz).2
  have lz : (ps.zip qs).length ≤ ps.length := by simp; omega
  obtain ⟨f7, f8, hl1⟩ := law_loop1 (e0 := .fz .st) (e1 := .fz (.lst (ps.map pD))) (e2 := .fz (.lst (qs.map pD))) (e5 := .fz (.int 0)) (e6 := .fz (.int 1)) (e9 := .un) (e10 := .un) (e11 := .un) (e12 := .un) (e13 := .un) ps (0, 1) 0 .un .un s4 ⟨by decide, by decide, by decide⟩ b1 (by omega)
  obtain ⟨g7, g8, g9, g10, hl2⟩ := law_loop2 (e0 := .fz .st) (e1 := .fz (.lst (ps.map pD))) (e2 := .fz (.lst (qs.map pD))) (e3 := .fz (.int (fo ps (0, 1)).1)) (e4 := .fz (.int (fo ps (0, 1)).2)) (e11 := .un) (e12 := .un) (e13 := .un) (ps.zip qs) (0, 1) 0 f7 f8 .un .un s4 ⟨by decide, by decide, by decide⟩ bz (by omega)
  simp only [lawB1, lawB2, b_law_sums_hold] at hl1 hl2
  refine ⟨s4, ?_⟩
  suffices h : Sb.den b_law_sums_hold [.fz .st, .un, .un, .un, .un, .un, .un, .un, .un, .un, .un, .un, .un, .un] s = .rt (.bl true) s4 by
    show runB 14 b_law_sums_hold.den [.st] s = _
    rw [q_runB]
    show outR (Sb.den b_law_sums_hold [.fz .st, .un, .un, .un, .un, .un, .un, .un, .un, .un, .un, .un, .un, .un] s) = _
    rw [h]
    rfl
  unfold b_law_sums_hold
  refine stp [.fz .st, .fz (.lst (ps.map pD)), .un, .un, .un, .un, .un, .un, .un, .un, .un, .un, .un, .un] s2 ?_ ?_
  · simp [e1, rg1_of hk, e2]
  refine stp [.fz .st, .fz (.lst (ps.map pD)), .fz (.lst (qs.map pD)), .un, .un, .un, .un, .un, .un, .un, .un, .un, .un, .un] s4 ?_ ?_
  · simp [e3, rg1_of hm, e4]
  refine stp [.fz .st, .fz (.lst (ps.map pD)), .fz (.lst (qs.map pD)), .fz (.int 0), .fz (.int 1), .fz (.int 0), .fz (.int 1), .un, .un, .un, .un, .un, .un, .un] s4 ?_ ?_
  · simp [sizeLine_eq]
  refine stp [.fz .st, .fz (.lst (ps.map pD)), .fz (.lst (qs.map pD)), .fz (.int (fo ps (0, 1)).1), .fz (.int (fo ps (0, 1)).2), .fz (.int 0), .fz (.int 1), f7, f8, .un, .un, .un, .un, .un] s4 ?_ ?_
  · rw [q_fors]
    exact hl1
  refine stp [.fz .st, .fz (.lst (ps.map pD)), .fz (.lst (qs.map pD)), .fz (.int (fo ps (0, 1)).1), .fz (.int (fo ps (0, 1)).2), .fz (.int (fo ((ps.zip qs).map mq) (0, 1)).1), .fz (.int (fo ((ps.zip qs).map mq) (0, 1)).2), g7, g8, g9, g10, .un, .un, .un] s4 ?_ ?_
  · rw [q_fors]
    rw [← zip_map] at hl2
    exact hl2
  refine stp [.fz .st, .fz (.lst (ps.map pD)), .fz (.lst (qs.map pD)), .fz (.int (fo ps (0, 1)).1), .fz (.int (fo ps (0, 1)).2), .fz (.int (fo ((ps.zip qs).map mq) (0, 1)).1), .fz (.int (fo ((ps.zip qs).map mq) (0, 1)).2), g7, g8, g9, g10, .fz (.tup (ps.map fD)), .fz (.tup (qs.map fD)), .un] s4 ?_ ?_
  · have c1 : ∀ (e : E) (env : DEnv), (∀ p ∈ ps, ∃ e', bindT tAB (pD p) (wipeD env [7, 8]) = some e' ∧ e.den e' s4 = .ok (fD p) s4) → compL [7, 8] (.tp (.cons (.nm 7 "a" ⟨210, 39, 210, 40⟩) (.cons (.nm 8 "b" ⟨210, 42, 210, 43⟩) .nil)) 0 ⟨210, 39, 210, 43⟩) Oe.no.tst e.den env (ps.map pD) s4 = .ok (ps.map fD) s4 := fun e env h => comp_mk h
    have c2 : ∀ (e : E) (env : DEnv), (∀ p ∈ qs, ∃ e', bindT tAB (pD p) (wipeD env [7, 8]) = some e' ∧ e.den e' s4 = .ok (fD p) s4) → compL [7, 8] (.tp (.cons (.nm 7 "a" ⟨210, 79, 210, 80⟩) (.cons (.nm 8 "b" ⟨210, 82, 210, 83⟩) .nil)) 0 ⟨210, 79, 210, 83⟩) Oe.no.tst e.den env (qs.map pD) s4 = .ok (qs.map fD) s4 := fun e env h => comp_mk h
    simp
    rw [c1 _ _ (fun p hp => ⟨_, rfl, by
      have := mk_p (b1 p hp) s4
      simp [this, fD]⟩)]
    simp [tup_of]
    rw [c2 _ _ (fun p hp => ⟨_, rfl, by
      have := mk_p (b2 p hp) s4
      simp [this, fD]⟩)]
    simp [tup_of]
  have r1 := g_ratio_sum (d := .tup (ps.map fD)) (fun _ => rfl) bd1 (by omega)
  have r2 := g_dot b1 b2 (by omega)
  have r3 := is_fo bd1 (by omega)
  have r4 := is_fo bm (by simp; omega)
  have r5 := g_are (xs := ps.map fD) (fun x hx => by
    obtain ⟨p, _, rfl⟩ := List.mem_map.mp hx
    exact ⟨_, rfl⟩)
  generalize fo ps (0, 1) = z1 at *
  generalize fo ((ps.zip qs).map mq) (0, 1) = z2 at *
  generalize ps.map fD = x1 at *
  generalize qs.map fD = x2 at *
  simp [r1, r2, r3, r4, r5, g_says]
end Dn.K00
namespace Dn.K00
open PySem L2 Dn
/-! ### the law's fixed part -/
def nth : Nat → Sb → Sm
  | 0, .cons a _ => a
  | n + 1, .cons _ r => nth n r
  | _, .nil => .ret (.non 0 ⟨0, 0, 0, 0⟩) ⟨0, 0, 0, 0⟩
def oneD : D := .ins 0 [.int 1, .int 2]
/-- what stands at i after a statement -/
def after (i : Nat) (o : O) : D := match o with
  | .nx env _ => match env[i]? with
    | some (.fz d) => d
    | _ => .non
  | _ => .non
def tr3 : D := after 5 ((nth 3 b_law).den [.un, .fz .st, .un, .fz oneD, .un, .un, .un, .un, .un, .un, .un] (0, 0))
def tr4 : D := after 5 ((nth 4 b_law).den [.un, .fz .st, .un, .fz oneD, .un, .fz tr3, .un, .un, .un, .un, .un] (0, 0))
def tr5 : D := after 5 ((nth 5 b_law).den [.un, .fz .st, .un, .fz oneD, .un, .fz tr4, .un, .un, .un, .un, .un] (0, 0))
def bads : D := after 7 ((nth 6 b_law).den [.un, .fz .st, .un, .fz oneD, .un, .fz tr5, .un, .un, .un, .un, .un] (0, 0))
theorem st2 (g : D) (f2 : Sl) (s : S) : (nth 2 b_law).den [.un, .fz .st, f2, .fz oneD, .fz g, .un, .un, .un, .un, .un, .un] s = .nx [.un, .fz .st, f2, .fz oneD, .fz g, .un, .un, .un, .un, .un, .un] s := by kernel_rfl
theorem st3 (g : D) (f2 : Sl) (s : S) : (nth 3 b_law).den [.un, .fz .st, f2, .fz oneD, .fz g, .un, .un, .un, .un, .un, .un] s = .nx [.un, .fz .st, f2, .fz oneD, .fz g, .fz tr3, .un, .un, .un, .un, .un] s := by kernel_rfl
theorem st4 (g : D) (f2 : Sl) (s : S) : (nth 4 b_law).den [.un, .fz .st, f2, .fz oneD, .fz g, .fz tr3, .un, .un, .un, .un, .un] s = .nx [.un, .fz .st, f2, .fz oneD, .fz g, .fz tr4, .fz (.str "less"), .un, .un, .un, .un] s := by kernel_rfl
theorem st5 (g : D) (f2 : Sl) (s : S) : (nth 5 b_law).den [.un, .fz .st, f2, .fz oneD, .fz g, .fz tr4, .fz (.str "less"), .un, .un, .un, .un] s = .nx [.un, .fz .st, f2, .fz oneD, .fz g, .fz tr5, .fz (.str "less"), .un, .un, .un, .un] s := by kernel_rfl
theorem st6 (g : D) (f2 : Sl) (s : S) : (nth 6 b_law).den [.un, .fz .st, f2, .fz oneD, .fz g, .fz tr5, .fz (.str "less"), .un, .un, .un, .un] s = .nx [.un, .fz .st, f2, .fz oneD, .fz g, .fz tr5, .fz (.str "less"), .fz bads, .un, .un, .un] s := by kernel_rfl
theorem st9 (g : D) (f2 : Sl) (s : S) : (nth 9 b_law).den [.un, .fz .st, f2, .fz oneD, .fz g, .fz tr5, .fz (.str "less"), .fz bads, .un, .un, .un] s = .rt (.bl true) s := by kernel_rfl
/-- the first question of a statement -/
def or0 : Sm → E
  | .ifs (.bop _ e _ _) _ _ _ => e
  | _ => .non 0 ⟨0, 0, 0, 0⟩
theorem st7a (g : D) (f2 : Sl) (s : S) : (or0 (nth 7 b_law)).tst [.un, .fz .st, f2, .fz oneD, .fz g, .fz tr5, .fz (.str "less"), .fz bads, .un, .un, .un] s = .ok false s := by kernel_rfl
end Dn.K00
namespace Dn.K00
open PySem L2 Dn
/-! ### two thousand signs -/
def zs : List Nat := List.replicate 2000 48
def ns : List Nat := List.replicate 2000 57
def gl : List Nat := 49 :: zs
def gN : Nat := NumText.digitsVal gl
theorem mul_tx (o : Own2) (c : Nat) (s : S) : (oMul o).g (.str (tx [c])) (.int 2000) s = .ok (.str (tx (List.replicate 2000 c))) s := by
  have e : Txt.mul (tx [c]) 2000 = tx (List.replicate 2000 c) := by
    rw [← SX.S_tl (Txt.mul (tx [c]) 2000)]
    exact congrArg SX.S (PyProof.Rows.mul_one_list c 2000)
  show (if (1 : Int) < 2000 ∧ (tx [c]).length * (2000 : Int).toNat ≤ 16777216 ∧ 0 < (tx [c]).length then rt (D.str (Txt.mul (tx [c]) 2000)) s else .bad) = _
  have l : (tx [c]).length = 1 := SX.S_len [c]
  rw [e, l, if_pos (by decide)]
  rfl
theorem gl_len : gl.length = 2001 := by simp [gl, zs]
theorem ns_len : ns.length = 2000 := by simp [ns]
theorem gl_num : isNum gl = true := by decide +kernel
theorem ns_num : isNum ns = true := by decide +kernel
theorem gl_bare : bare gl = gl := rfl
theorem ns_bare : bare ns = ns := by
  unfold bare
  rw [if_neg (by decide +kernel)]
theorem gN_lt : gN < 2 ^ 8000 := by decide +kernel
theorem ns_val : NumText.digitsVal ns + 1 = gN := by decide +kernel
theorem gN_text : TL.numL gN = gl := num_isNum gl_num
theorem ns_text : TL.numL (gN - 1) = ns := by
  rw [show gN - 1 = NumText.digitsVal ns by have := ns_val; omega]
  exact num_isNum ns_num
theorem gl_V : intV gl = gN := rfl
theorem ns_V : intV ns = (gN : Int) - 1 := by
  unfold intV
  rw [if_neg (by decide +kernel), ns_bare]
  have := ns_val
  omega
theorem int_gen {a : List Nat} (h : isNum (bare a) = true) (hl : a.length ≤ 4300) (s : S) : bInt.g [.str (tx a)] s = .ok (.int (intV a)) s := by
  show intD [.str (tx a)] s = _
  simp [intD, int_tx h hl]
theorem int_gl (s : S) : bInt.g [.str (tx gl)] s = .ok (.int gN) s := by
  rw [int_gen (a := gl) (by rw [gl_bare]; exact gl_num) (by rw [gl_len]; decide), gl_V]
theorem gl_add (o : Own2) (s : S) : (oAdd o).g (.str (tx [49])) (.str (tx zs)) s = .ok (.str (tx gl)) s := add_tx (a := [49]) (b := zs) (by simp [zs]) o s
theorem txL_one (n : Nat) : txL (Rat.divInt n 1) = TL.numL n := by
  have e1 : (Rat.divInt (n : Int) 1).num = n := by simp [Rat.num_divInt]
  have e2 : (Rat.divInt (n : Int) 1).den = 1 := by simp [Rat.den_divInt]
  unfold txL
  rw [if_pos e2, e1, List.append_nil]
  unfold intL
  rw [if_neg (by omega), Int.natAbs_natCast]
theorem text_one {n : Nat} (h : n < 2 ^ 8000) (s : S) : f_ratio_text.g [.ins 0 [.int n, .int 1]] s = if (TL.numL n).length ≤ 2000 then .ok (.str (tx (TL.numL n))) s else .err ⟨3, .str "long"⟩ s := by
  rw [← q_one, g_ratio_text (by rw [show (Rat.divInt (n : Int) 1).num = n by simp [Rat.num_divInt], Int.natAbs_natCast]; exact h) (by rw [show (Rat.divInt (n : Int) 1).den = 1 by simp [Rat.den_divInt]]; exact Nat.one_lt_two_pow (by decide)), txL_one]
theorem text_gN (s : S) : f_law_told.g [.fn "ratio_text", .tup [.ins 0 [.int gN, .int 1]]] s = .ok (.tup [.str "refused", .str "long"]) s := by
  rw [told1 fa_text rfl, text_one gN_lt, gN_text, gl_len]
  rfl
theorem read_gl (s : S) : f_law_told.g [.fn "read_ratio", .tup [.str (tx gl)]] s = .ok (.tup [.str "text", .non]) s := by
  rw [told1 fa_read rfl, read_len (by rw [gl_len]; decide)]
  rfl
theorem read_ns (s : S) : f_read_ratio.g [.str (tx ns)] s = .ok (.ins 0 [.int (gN - 1), .int 1]) s := by
  rw [read_no (by decide +kernel) (by decide +kernel) (by rw [ns_len]; decide), if_pos ⟨by rw [ns_bare]; exact ns_num, fun h => absurd h (by rw [ns_bare]; decide +kernel)⟩, ns_V]
theorem text_ns (s : S) : f_ratio_text.g [.ins 0 [.int (gN - 1), .int 1]] s = .ok (.str (tx ns)) s := by
  have e : ((gN : Int) - 1) = ((gN - 1 : Nat) : Int) := by
    have := ns_val
    omega
  rw [e, text_one (by have := gN_lt; omega), ns_text, if_pos (by rw [ns_len]; decide)]
theorem ne_long (s : S) : oNe.g (.tup [.str "refused", .str "long"]) (.tup [.str "refused", .str "long"]) s = .ok (.bl false) s := by kernel_rfl
theorem ne_text (s : S) : oNe.g (.tup [.str "text", .non]) (.tup [.str "text", .non]) s = .ok (.bl false) s := by kernel_rfl
theorem tx_1 : ("1" : Str) = tx [49] := by decide +kernel
theorem tx_9 : ("9" : Str) = tx [57] := by decide +kernel
theorem one_k (s : S) : k_Ratio2.g [.int 1, .int 2] s = .ok [.int 1, .int 2] s := by kernel_rfl
theorem eq_ns (s : S) : (oEq true).g (.ins 0 [.int (gN - 1), .int 1]) (.ins 0 [.int (gN - 1), .int 1]) s = .ok (.bl true) s := by
  have := eq_rq (Rat.divInt (gN - 1) 1) (Rat.divInt (gN - 1) 1) s
  rw [decide_eq_true rfl, q_one] at this
  exact this
theorem st1' {zs gl : List Nat} {G : Int} (m : ∀ s, (oMul (some m_mul)).g (.str (tx [48])) (.int 2000) s = .ok (.str (tx zs)) s) (ad : ∀ s, (oAdd (some m_add)).g (.str (tx [49])) (.str (tx zs)) s = .ok (.str (tx gl)) s)
    (ig : ∀ s, bInt.g [.str (tx gl)] s = .ok (.int G) s) (f2 : Sl) (s : S) : (nth 1 b_law).den [.un, .fz .st, f2, .un, .un, .un, .un, .un, .un, .un, .un] s = .nx [.un, .fz .st, f2, .fz oneD, .fz (.int G), .un, .un, .un, .un, .un, .un] s := by
  simp [nth, b_law, one_k, tx_0, tx_1, m, ad, ig, sizeLine_eq, oneD]
theorem st7' {G : Int} (tg : ∀ s, f_law_told.g [.fn "ratio_text", .tup [.ins 0 [.int G, .int 1]]] s = .ok (.tup [.str "refused", .str "long"]) s) (f2 : Sl) (s : S) : (nth 7 b_law).den [.un, .fz .st, f2, .fz oneD, .fz (.int G), .fz tr5, .fz (.str "less"), .fz bads, .un, .un, .un] s = .nx [.un, .fz .st, f2, .fz oneD, .fz (.int G), .fz tr5, .fz (.str "less"), .fz bads, .un, .un, .un] s := by
  have h := st7a (.int G) f2 s
  generalize tr5 = t5 at *
  generalize bads = bd at *
  simp only [nth, b_law, or0] at h
  simp only [nth, b_law]
  rw [q_ifs, q_t_bop]
  simp only [q_tB2, h, q_bind_ok]
  simp [k1_int, tg, ne_long, sizeLine_eq]
theorem st8' {zs gl ns : List Nat} {G : Int} (m : ∀ s, (oMul (some m_mul)).g (.str (tx [48])) (.int 2000) s = .ok (.str (tx zs)) s) (m2 : ∀ s, (oMul (some m_mul)).g (.str (tx [57])) (.int 2000) s = .ok (.str (tx ns)) s) (ad : ∀ s, (oAdd (some m_add)).g (.str (tx [49])) (.str (tx zs)) s = .ok (.str (tx gl)) s)
    (rg : ∀ s, f_law_told.g [.fn "read_ratio", .tup [.str (tx gl)]] s = .ok (.tup [.str "text", .non]) s) (rn : ∀ s, f_read_ratio.g [.str (tx ns)] s = .ok (.ins 0 [.int (G - 1), .int 1]) s) (tn : ∀ s, f_ratio_text.g [.ins 0 [.int (G - 1), .int 1]] s = .ok (.str (tx ns)) s)
    (en : ∀ s, (oEq true).g (.ins 0 [.int (G - 1), .int 1]) (.ins 0 [.int (G - 1), .int 1]) s = .ok (.bl true) s) (ln : ns.length = 2000) (f2 : Sl) (s : S) :
    (nth 8 b_law).den [.un, .fz .st, f2, .fz oneD, .fz (.int G), .fz tr5, .fz (.str "less"), .fz bads, .un, .un, .un] s = .nx [.un, .fz .st, f2, .fz oneD, .fz (.int G), .fz tr5, .fz (.str "less"), .fz bads, .un, .un, .un] s := by
  generalize tr5 = t5 at *
  generalize bads = bd at *
  have ne2 : oNe.g (.int 2000) (.int 2000) s = .ok (.bl false) s := rfl
  simp [nth, b_law, tx_0, tx_1, tx_9, m, m2, ad, rg, ne_text, rn, k1_int, sub_int, en, tn, len_tx, ln, ne2, sizeLine_eq]
end Dn.K00
namespace Dn.K00
open PySem L2 Dn
/-! ### the whole law -/
def lawB0 : Sb := match b_law with
  | .cons (.fors _ _ b _) _ => b
  | _ => .nil
theorem loop0 : ∀ (xs : List D) (e2 : Sl) (s : S), ∃ f2 s', forL (.nm 2 "t" ⟨222, 8, 222, 9⟩) lawB0.den xs [.un, .fz .st, e2, .un, .un, .un, .un, .un, .un, .un, .un] s = .nx [.un, .fz .st, f2, .un, .un, .un, .un, .un, .un, .un, .un] s'
  | [], e2, s => ⟨e2, s, rfl⟩
  | x :: xs, e2, s => by
    obtain ⟨s1, h1⟩ := g_ops s
    obtain ⟨s2, h2⟩ := g_sums s1
    obtain ⟨f2, s', ih⟩ := loop0 xs (.fz x) s2
    refine ⟨f2, s', ?_⟩
    rw [for_step (env' := [.un, .fz .st, .fz x, .un, .un, .un, .un, .un, .un, .un, .un]) (env2 := [.un, .fz .st, .fz x, .un, .un, .un, .un, .un, .un, .un, .un]) (s2 := s2) rfl (by simp [lawB0, b_law, h1, h2])]
    exact ih
theorem law_true (s : S) : ∃ s', b_law.den (startL 11) s = .rt (.bl true) s' := by
  obtain ⟨f2, s', h⟩ := loop0 (rgD 0 6) .un s
  refine ⟨s', ?_⟩
  show Sb.den b_law [.un, .fz .st, .un, .un, .un, .un, .un, .un, .un, .un, .un] s = _
  have m := fun s => mul_tx (some m_mul) 48 s
  have m2 := fun s => mul_tx (some m_mul) 57 s
  have a1 := st1' (zs := zs) (gl := gl) (G := gN) m (gl_add _) int_gl f2 s'
  have a7 := st7' (G := gN) text_gN f2 s'
  have a8 := st8' (zs := zs) (gl := gl) (ns := ns) (G := gN) m m2 (gl_add _) read_gl read_ns text_ns eq_ns ns_len f2 s'
  generalize (gN : Int) = G at *
  have a2 := st2 (.int G) f2 s'
  have a3 := st3 (.int G) f2 s'
  have a4 := st4 (.int G) f2 s'
  have a5 := st5 (.int G) f2 s'
  have a6 := st6 (.int G) f2 s'
  have a9 := st9 (.int G) f2 s'
  generalize tr3 = t3 at *
  generalize tr4 = t4 at *
  generalize tr5 = t5 at *
  generalize bads = bd at *
  simp only [lawB0, b_law, nth] at h a1 a2 a3 a4 a5 a6 a7 a8 a9
  unfold b_law
  refine stp _ _ ?_ (stp _ _ a1 (stp _ _ a2 (stp _ _ a3 (stp _ _ a4 (stp _ _ a5 (stp _ _ a6 (stp _ _ a7 (stp _ _ a8 ?_))))))))
  · rw [q_fors]
    exact h
  · rw [q_cons, a9, q_then_rt]
end Dn.K00
namespace Dn.K00
open PySem L2 Dn
section
variable {P : Program} {w : World} {K : PySem.W.Frag} {h base : Heap} {mg : Str → Option Value}
  {C0 C2 C3 C4 CF fL fS : Addr}
  {f_are_ratios : Addr} {od_are_ratios an_are_ratios : Option Addr} {sl_are_ratios : Array (Option Value)} {oc_are_ratios kV_are_ratios dc_are_ratios pm_are_ratios cd_are_ratios ct_are_ratios : Value}
  {f_m_eq : Addr} {od_m_eq an_m_eq : Option Addr} {sl_m_eq : Array (Option Value)} {oc_m_eq kV_m_eq dc_m_eq pm_m_eq cd_m_eq ct_m_eq : Value}
  {f_common : Addr} {od_common an_common : Option Addr} {sl_common : Array (Option Value)} {oc_common kV_common dc_common pm_common cd_common ct_common : Value}
  {f_is_integer : Addr} {od_is_integer an_is_integer : Option Addr} {sl_is_integer : Array (Option Value)} {oc_is_integer kV_is_integer dc_is_integer pm_is_integer cd_is_integer ct_is_integer : Value}
  {TD : Addr} {cTD : Value} {dTD : Option Addr} {sTD : Array (Option Value)} {nTD : Nat} {tkD : Tok}
  {f_init : Addr} {od_init an_init : Option Addr} {sl_init : Array (Option Value)} {oc_init kV_init dc_init pm_init cd_init ct_init : Value}
  {f_law_made : Addr} {od_law_made an_law_made : Option Addr} {sl_law_made : Array (Option Value)} {oc_law_made kV_law_made dc_law_made pm_law_made cd_law_made ct_law_made : Value}
  {f_check_ratio : Addr} {od_check_ratio an_check_ratio : Option Addr} {sl_check_ratio : Array (Option Value)} {oc_check_ratio kV_check_ratio dc_check_ratio pm_check_ratio cd_check_ratio ct_check_ratio : Value}
  {f_m_over : Addr} {od_m_over an_m_over : Option Addr} {sl_m_over : Array (Option Value)} {oc_m_over kV_m_over dc_m_over pm_m_over cd_m_over ct_m_over : Value}
  {f_law_over : Addr} {od_law_over an_law_over : Option Addr} {sl_law_over : Array (Option Value)} {oc_law_over kV_law_over dc_law_over pm_law_over cd_law_over ct_law_over : Value}
  {f_m_mul : Addr} {od_m_mul an_m_mul : Option Addr} {sl_m_mul : Array (Option Value)} {oc_m_mul kV_m_mul dc_m_mul pm_m_mul cd_m_mul ct_m_mul : Value}
  {f_m_less : Addr} {od_m_less an_m_less : Option Addr} {sl_m_less : Array (Option Value)} {oc_m_less kV_m_less dc_m_less pm_m_less cd_m_less ct_m_less : Value}
  {f_m_sub : Addr} {od_m_sub an_m_sub : Option Addr} {sl_m_sub : Array (Option Value)} {oc_m_sub kV_m_sub dc_m_sub pm_m_sub cd_m_sub ct_m_sub : Value}
  {f_m_add : Addr} {od_m_add an_m_add : Option Addr} {sl_m_add : Array (Option Value)} {oc_m_add kV_m_add dc_m_add pm_m_add cd_m_add ct_m_add : Value}
  {f_law_act : Addr} {od_law_act an_law_act : Option Addr} {sl_law_act : Array (Option Value)} {oc_law_act kV_law_act dc_law_act pm_law_act cd_law_act ct_law_act : Value}
  {f_as_ratio : Addr} {od_as_ratio an_as_ratio : Option Addr} {sl_as_ratio : Array (Option Value)} {oc_as_ratio kV_as_ratio dc_as_ratio pm_as_ratio cd_as_ratio ct_as_ratio : Value}
  {f_ratio_text : Addr} {od_ratio_text an_ratio_text : Option Addr} {sl_ratio_text : Array (Option Value)} {oc_ratio_text kV_ratio_text dc_ratio_text pm_ratio_text cd_ratio_text ct_ratio_text : Value}
  {f_is_number : Addr} {od_is_number an_is_number : Option Addr} {sl_is_number : Array (Option Value)} {oc_is_number kV_is_number dc_is_number pm_is_number cd_is_number ct_is_number : Value}
  {f_read_ratio : Addr} {od_read_ratio an_read_ratio : Option Addr} {sl_read_ratio : Array (Option Value)} {oc_read_ratio kV_read_ratio dc_read_ratio pm_read_ratio cd_read_ratio ct_read_ratio : Value}
  {f_law_told : Addr} {od_law_told an_law_told : Option Addr} {sl_law_told : Array (Option Value)} {oc_law_told kV_law_told dc_law_told pm_law_told cd_law_told ct_law_told : Value}
  {f_law_all_malformed : Addr} {od_law_all_malformed an_law_all_malformed : Option Addr} {sl_law_all_malformed : Array (Option Value)} {oc_law_all_malformed kV_law_all_malformed dc_law_all_malformed pm_law_all_malformed cd_law_all_malformed ct_law_all_malformed : Value}
  {f_m_neg : Addr} {od_m_neg an_m_neg : Option Addr} {sl_m_neg : Array (Option Value)} {oc_m_neg kV_m_neg dc_m_neg pm_m_neg cd_m_neg ct_m_neg : Value}
  {f_law_common : Addr} {od_law_common an_law_common : Option Addr} {sl_law_common : Array (Option Value)} {oc_law_common kV_law_common dc_law_common pm_law_common cd_law_common ct_law_common : Value}
  {f_law_plain : Addr} {od_law_plain an_law_plain : Option Addr} {sl_law_plain : Array (Option Value)} {oc_law_plain kV_law_plain dc_law_plain pm_law_plain cd_law_plain ct_law_plain : Value}
  {f_law_is_whole : Addr} {od_law_is_whole an_law_is_whole : Option Addr} {sl_law_is_whole : Array (Option Value)} {oc_law_is_whole kV_law_is_whole dc_law_is_whole pm_law_is_whole cd_law_is_whole ct_law_is_whole : Value}
  {f_law_same : Addr} {od_law_same an_law_same : Option Addr} {sl_law_same : Array (Option Value)} {oc_law_same kV_law_same dc_law_same pm_law_same cd_law_same ct_law_same : Value}
  {f_law_is : Addr} {od_law_is an_law_is : Option Addr} {sl_law_is : Array (Option Value)} {oc_law_is kV_law_is dc_law_is pm_law_is cd_law_is ct_law_is : Value}
  {f_law_reads_itself : Addr} {od_law_reads_itself an_law_reads_itself : Option Addr} {sl_law_reads_itself : Array (Option Value)} {oc_law_reads_itself kV_law_reads_itself dc_law_reads_itself pm_law_reads_itself cd_law_reads_itself ct_law_reads_itself : Value}
  {f_law_take : Addr} {od_law_take an_law_take : Option Addr} {sl_law_take : Array (Option Value)} {oc_law_take kV_law_take dc_law_take pm_law_take cd_law_take ct_law_take : Value}
  {f_m_is_whole : Addr} {od_m_is_whole an_m_is_whole : Option Addr} {sl_m_is_whole : Array (Option Value)} {oc_m_is_whole kV_m_is_whole dc_m_is_whole pm_m_is_whole cd_m_is_whole ct_m_is_whole : Value}
  {f_law_says : Addr} {od_law_says an_law_says : Option Addr} {sl_law_says : Array (Option Value)} {oc_law_says kV_law_says dc_law_says pm_law_says cd_law_says ct_law_says : Value}
  {f_m_floor : Addr} {od_m_floor an_m_floor : Option Addr} {sl_m_floor : Array (Option Value)} {oc_m_floor kV_m_floor dc_m_floor pm_m_floor cd_m_floor ct_m_floor : Value}
  {f_m_sign : Addr} {od_m_sign an_m_sign : Option Addr} {sl_m_sign : Array (Option Value)} {oc_m_sign kV_m_sign dc_m_sign pm_m_sign cd_m_sign ct_m_sign : Value}
  {f_law_pair : Addr} {od_law_pair an_law_pair : Option Addr} {sl_law_pair : Array (Option Value)} {oc_law_pair kV_law_pair dc_law_pair pm_law_pair cd_law_pair ct_law_pair : Value}
  {f_law_ops_hold : Addr} {od_law_ops_hold an_law_ops_hold : Option Addr} {sl_law_ops_hold : Array (Option Value)} {oc_law_ops_hold kV_law_ops_hold dc_law_ops_hold pm_law_ops_hold cd_law_ops_hold ct_law_ops_hold : Value}
  {f_ratio_sum : Addr} {od_ratio_sum an_ratio_sum : Option Addr} {sl_ratio_sum : Array (Option Value)} {oc_ratio_sum kV_ratio_sum dc_ratio_sum pm_ratio_sum cd_ratio_sum ct_ratio_sum : Value}
  {f_ratio_dot : Addr} {od_ratio_dot an_ratio_dot : Option Addr} {sl_ratio_dot : Array (Option Value)} {oc_ratio_dot kV_ratio_dot dc_ratio_dot pm_ratio_dot cd_ratio_dot ct_ratio_dot : Value}
  {f_law_sums_hold : Addr} {od_law_sums_hold an_law_sums_hold : Option Addr} {sl_law_sums_hold : Array (Option Value)} {oc_law_sums_hold kV_law_sums_hold dc_law_sums_hold pm_law_sums_hold cd_law_sums_hold ct_law_sums_hold : Value}
  {nm_x2 q_x2 : Str} {N_x2 : Addr} {bs_x2 : List Value} {sn_x2 : List Str} {sub_x2 : List Value} {ab_x2 : Bool} {col_x2 : Option Bool} {dd_x2 : Option Addr} {m0_x2 m1_x2 m2_x2 m3_x2 m5_x2 : Option Value}
  {f_x2 : Addr} {od_x2 an_x2 : Option Addr} {sl_x2 : Array (Option Value)} {oc_x2 kV_x2 dc_x2 pm_x2 cd_x2 ct_x2 : Value}
  {nm_x3 q_x3 : Str} {N_x3 : Addr} {bs_x3 : List Value} {sn_x3 : List Str} {sub_x3 : List Value} {ab_x3 : Bool} {col_x3 : Option Bool} {dd_x3 : Option Addr} {m0_x3 m1_x3 m2_x3 m3_x3 m5_x3 : Option Value}
  {f_x3 : Addr} {od_x3 an_x3 : Option Addr} {sl_x3 : Array (Option Value)} {oc_x3 kV_x3 dc_x3 pm_x3 cd_x3 ct_x3 : Value}
  {nm_x4 q_x4 : Str} {N_x4 : Addr} {bs_x4 : List Value} {sn_x4 : List Str} {sub_x4 : List Value} {ab_x4 : Bool} {col_x4 : Option Bool} {dd_x4 : Option Addr} {m0_x4 m1_x4 m2_x4 m3_x4 m5_x4 : Option Value}
  {f_x4 : Addr} {od_x4 an_x4 : Option Addr} {sl_x4 : Array (Option Value)} {oc_x4 kV_x4 dc_x4 pm_x4 cd_x4 ct_x4 : Value}
  {tk_DIGITS : Tok}
  {tk_MOST_SIGNS : Tok}
  {od_S an_S : Option Addr} {sl_S : Array (Option Value)} {oc_S kV_S dc_S pm_S cd_S ct_S : Value} {od_L an_L : Option Addr} {sl_L : Array (Option Value)} {oc_L kV_L dc_L pm_L cd_L ct_L : Value}
/-- the world behind the top -/
def wd (P : Program) (w : World) (K : PySem.W.Frag) (mg : Str → Option Value) (base : Heap) (C0 C2 C3 C4 : Addr) : Wd := { mg := mg, sa := 0, cl := fun c => match c with | 0 => C0 | 2 => C2 | 3 => C3 | 4 => C4 | _ => 0, P := P, w := w, K := K, base := base }
theorem all_at (X : K.In h) (N : h.Ns mainGlobals mg)
  (aRatio : PySem.W.nsIn K mainGlobals "Ratio" = some (some (.ref C0)))
  (a_are_ratios : PySem.W.nsIn K mainGlobals "are_ratios" = some (some (.ref f_are_ratios)))
  (l_are_ratios : K.lookup f_are_ratios = some ⟨oc_are_ratios, od_are_ratios, .func (PySem.W.fnOf "are_ratios" "are_ratios" (defArgs st_are_ratios) (defBody st_are_ratios) (defScope st_are_ratios) .none kV_are_ratios dc_are_ratios pm_are_ratios an_are_ratios cd_are_ratios ct_are_ratios), sl_are_ratios⟩)
  (c_are_ratios : PySem.W.codeIn K cd_are_ratios "are_ratios" = true)
  (k_are_ratios : PySem.W.keepIn K (.ref f_are_ratios) = true)
  (a_m_eq : PySem.W.findIn K (.ref C0) "__eq__" = some (some (.ref f_m_eq)))
  (i_m_eq : PySem.W.isFn K (.ref f_m_eq) = true)
  (l_m_eq : K.lookup f_m_eq = some ⟨oc_m_eq, od_m_eq, .func (PySem.W.fnOf "__eq__" "Ratio.__eq__" (defArgs st_m_eq) (defBody st_m_eq) (defScope st_m_eq) .none kV_m_eq dc_m_eq pm_m_eq an_m_eq cd_m_eq ct_m_eq), sl_m_eq⟩)
  (c_m_eq : PySem.W.codeIn K cd_m_eq "Ratio.__eq__" = true)
  (k_m_eq : PySem.W.keepIn K (.ref f_m_eq) = true)
  (a_common : PySem.W.nsIn K mainGlobals "common" = some (some (.ref f_common)))
  (l_common : K.lookup f_common = some ⟨oc_common, od_common, .func (PySem.W.fnOf "common" "common" (defArgs st_common) (defBody st_common) (defScope st_common) .none kV_common dc_common pm_common an_common cd_common ct_common), sl_common⟩)
  (c_common : PySem.W.codeIn K cd_common "common" = true)
  (k_common : PySem.W.keepIn K (.ref f_common) = true)
  (a_is_integer : PySem.W.nsIn K mainGlobals "is_integer" = some (some (.ref f_is_integer)))
  (l_is_integer : K.lookup f_is_integer = some ⟨oc_is_integer, od_is_integer, .func (PySem.W.fnOf "is_integer" "is_integer" (defArgs st_is_integer) (defBody st_is_integer) (defScope st_is_integer) .none kV_is_integer dc_is_integer pm_is_integer an_is_integer cd_is_integer ct_is_integer), sl_is_integer⟩)
  (c_is_integer : PySem.W.codeIn K cd_is_integer "is_integer" = true)
  (k_is_integer : PySem.W.keepIn K (.ref f_is_integer) = true)
  (a_init : PySem.W.findIn K (.ref C0) "__init__" = some (some (.ref f_init)))
  (i_init : PySem.W.isFn K (.ref f_init) = true)
  (l_init : K.lookup f_init = some ⟨oc_init, od_init, .func (PySem.W.fnOf "__init__" "Ratio.__init__" (defArgs st_i_Ratio) (defBody st_i_Ratio) (defScope st_i_Ratio) (.ref TD) kV_init dc_init pm_init an_init cd_init ct_init), sl_init⟩)
  (c_init : PySem.W.codeIn K cd_init "Ratio.__init__" = true)
  (k_init : PySem.W.keepIn K (.ref f_init) = true)
  (l_TD : K.lookup TD = some ⟨cTD, dTD, .seq #[.int 1 tkD] nTD, sTD⟩)
  (mk : PySem.W.makesIn K C0 = true)
  (kc : PySem.W.keepIn K (.ref C0) = true)
  (a_law_made : PySem.W.nsIn K mainGlobals "_law_made" = some (some (.ref f_law_made)))
  (l_law_made : K.lookup f_law_made = some ⟨oc_law_made, od_law_made, .func (PySem.W.fnOf "_law_made" "_law_made" (defArgs st_law_made) (defBody st_law_made) (defScope st_law_made) .none kV_law_made dc_law_made pm_law_made an_law_made cd_law_made ct_law_made), sl_law_made⟩)
  (c_law_made : PySem.W.codeIn K cd_law_made "_law_made" = true)
  (k_law_made : PySem.W.keepIn K (.ref f_law_made) = true)
  (a_check_ratio : PySem.W.nsIn K mainGlobals "check_ratio" = some (some (.ref f_check_ratio)))
  (l_check_ratio : K.lookup f_check_ratio = some ⟨oc_check_ratio, od_check_ratio, .func (PySem.W.fnOf "check_ratio" "check_ratio" (defArgs st_check_ratio) (defBody st_check_ratio) (defScope st_check_ratio) .none kV_check_ratio dc_check_ratio pm_check_ratio an_check_ratio cd_check_ratio ct_check_ratio), sl_check_ratio⟩)
  (c_check_ratio : PySem.W.codeIn K cd_check_ratio "check_ratio" = true)
  (k_check_ratio : PySem.W.keepIn K (.ref f_check_ratio) = true)
  (a_m_over : PySem.W.findIn K (.ref C0) "over" = some (some (.ref f_m_over)))
  (i_m_over : PySem.W.isFn K (.ref f_m_over) = true)
  (l_m_over : K.lookup f_m_over = some ⟨oc_m_over, od_m_over, .func (PySem.W.fnOf "over" "Ratio.over" (defArgs st_m_over) (defBody st_m_over) (defScope st_m_over) .none kV_m_over dc_m_over pm_m_over an_m_over cd_m_over ct_m_over), sl_m_over⟩)
  (c_m_over : PySem.W.codeIn K cd_m_over "Ratio.over" = true)
  (k_m_over : PySem.W.keepIn K (.ref f_m_over) = true)
  (a_law_over : PySem.W.nsIn K mainGlobals "_law_over" = some (some (.ref f_law_over)))
  (l_law_over : K.lookup f_law_over = some ⟨oc_law_over, od_law_over, .func (PySem.W.fnOf "_law_over" "_law_over" (defArgs st_law_over) (defBody st_law_over) (defScope st_law_over) .none kV_law_over dc_law_over pm_law_over an_law_over cd_law_over ct_law_over), sl_law_over⟩)
  (c_law_over : PySem.W.codeIn K cd_law_over "_law_over" = true)
  (k_law_over : PySem.W.keepIn K (.ref f_law_over) = true)
  (a_m_mul : PySem.W.findIn K (.ref C0) "__mul__" = some (some (.ref f_m_mul)))
  (i_m_mul : PySem.W.isFn K (.ref f_m_mul) = true)
  (l_m_mul : K.lookup f_m_mul = some ⟨oc_m_mul, od_m_mul, .func (PySem.W.fnOf "__mul__" "Ratio.__mul__" (defArgs st_m_mul) (defBody st_m_mul) (defScope st_m_mul) .none kV_m_mul dc_m_mul pm_m_mul an_m_mul cd_m_mul ct_m_mul), sl_m_mul⟩)
  (c_m_mul : PySem.W.codeIn K cd_m_mul "Ratio.__mul__" = true)
  (k_m_mul : PySem.W.keepIn K (.ref f_m_mul) = true)
  (a_m_less : PySem.W.findIn K (.ref C0) "less" = some (some (.ref f_m_less)))
  (i_m_less : PySem.W.isFn K (.ref f_m_less) = true)
  (l_m_less : K.lookup f_m_less = some ⟨oc_m_less, od_m_less, .func (PySem.W.fnOf "less" "Ratio.less" (defArgs st_m_less) (defBody st_m_less) (defScope st_m_less) .none kV_m_less dc_m_less pm_m_less an_m_less cd_m_less ct_m_less), sl_m_less⟩)
  (c_m_less : PySem.W.codeIn K cd_m_less "Ratio.less" = true)
  (k_m_less : PySem.W.keepIn K (.ref f_m_less) = true)
  (a_m_sub : PySem.W.findIn K (.ref C0) "__sub__" = some (some (.ref f_m_sub)))
  (i_m_sub : PySem.W.isFn K (.ref f_m_sub) = true)
  (l_m_sub : K.lookup f_m_sub = some ⟨oc_m_sub, od_m_sub, .func (PySem.W.fnOf "__sub__" "Ratio.__sub__" (defArgs st_m_sub) (defBody st_m_sub) (defScope st_m_sub) .none kV_m_sub dc_m_sub pm_m_sub an_m_sub cd_m_sub ct_m_sub), sl_m_sub⟩)
  (c_m_sub : PySem.W.codeIn K cd_m_sub "Ratio.__sub__" = true)
  (k_m_sub : PySem.W.keepIn K (.ref f_m_sub) = true)
  (a_m_add : PySem.W.findIn K (.ref C0) "__add__" = some (some (.ref f_m_add)))
  (i_m_add : PySem.W.isFn K (.ref f_m_add) = true)
  (l_m_add : K.lookup f_m_add = some ⟨oc_m_add, od_m_add, .func (PySem.W.fnOf "__add__" "Ratio.__add__" (defArgs st_m_add) (defBody st_m_add) (defScope st_m_add) .none kV_m_add dc_m_add pm_m_add an_m_add cd_m_add ct_m_add), sl_m_add⟩)
  (c_m_add : PySem.W.codeIn K cd_m_add "Ratio.__add__" = true)
  (k_m_add : PySem.W.keepIn K (.ref f_m_add) = true)
  (a_law_act : PySem.W.nsIn K mainGlobals "_law_act" = some (some (.ref f_law_act)))
  (l_law_act : K.lookup f_law_act = some ⟨oc_law_act, od_law_act, .func (PySem.W.fnOf "_law_act" "_law_act" (defArgs st_law_act) (defBody st_law_act) (defScope st_law_act) .none kV_law_act dc_law_act pm_law_act an_law_act cd_law_act ct_law_act), sl_law_act⟩)
  (c_law_act : PySem.W.codeIn K cd_law_act "_law_act" = true)
  (k_law_act : PySem.W.keepIn K (.ref f_law_act) = true)
  (a_as_ratio : PySem.W.nsIn K mainGlobals "as_ratio" = some (some (.ref f_as_ratio)))
  (l_as_ratio : K.lookup f_as_ratio = some ⟨oc_as_ratio, od_as_ratio, .func (PySem.W.fnOf "as_ratio" "as_ratio" (defArgs st_as_ratio) (defBody st_as_ratio) (defScope st_as_ratio) .none kV_as_ratio dc_as_ratio pm_as_ratio an_as_ratio cd_as_ratio ct_as_ratio), sl_as_ratio⟩)
  (c_as_ratio : PySem.W.codeIn K cd_as_ratio "as_ratio" = true)
  (k_as_ratio : PySem.W.keepIn K (.ref f_as_ratio) = true)
  (a_ratio_text : PySem.W.nsIn K mainGlobals "ratio_text" = some (some (.ref f_ratio_text)))
  (l_ratio_text : K.lookup f_ratio_text = some ⟨oc_ratio_text, od_ratio_text, .func (PySem.W.fnOf "ratio_text" "ratio_text" (defArgs st_ratio_text) (defBody st_ratio_text) (defScope st_ratio_text) .none kV_ratio_text dc_ratio_text pm_ratio_text an_ratio_text cd_ratio_text ct_ratio_text), sl_ratio_text⟩)
  (c_ratio_text : PySem.W.codeIn K cd_ratio_text "ratio_text" = true)
  (k_ratio_text : PySem.W.keepIn K (.ref f_ratio_text) = true)
  (a_is_number : PySem.W.nsIn K mainGlobals "is_number" = some (some (.ref f_is_number)))
  (l_is_number : K.lookup f_is_number = some ⟨oc_is_number, od_is_number, .func (PySem.W.fnOf "is_number" "is_number" (defArgs st_is_number) (defBody st_is_number) (defScope st_is_number) .none kV_is_number dc_is_number pm_is_number an_is_number cd_is_number ct_is_number), sl_is_number⟩)
  (c_is_number : PySem.W.codeIn K cd_is_number "is_number" = true)
  (k_is_number : PySem.W.keepIn K (.ref f_is_number) = true)
  (a_read_ratio : PySem.W.nsIn K mainGlobals "read_ratio" = some (some (.ref f_read_ratio)))
  (l_read_ratio : K.lookup f_read_ratio = some ⟨oc_read_ratio, od_read_ratio, .func (PySem.W.fnOf "read_ratio" "read_ratio" (defArgs st_read_ratio) (defBody st_read_ratio) (defScope st_read_ratio) .none kV_read_ratio dc_read_ratio pm_read_ratio an_read_ratio cd_read_ratio ct_read_ratio), sl_read_ratio⟩)
  (c_read_ratio : PySem.W.codeIn K cd_read_ratio "read_ratio" = true)
  (k_read_ratio : PySem.W.keepIn K (.ref f_read_ratio) = true)
  (a_law_told : PySem.W.nsIn K mainGlobals "_law_told" = some (some (.ref f_law_told)))
  (l_law_told : K.lookup f_law_told = some ⟨oc_law_told, od_law_told, .func (PySem.W.fnOf "_law_told" "_law_told" (defArgs st_law_told) (defBody st_law_told) (defScope st_law_told) .none kV_law_told dc_law_told pm_law_told an_law_told cd_law_told ct_law_told), sl_law_told⟩)
  (c_law_told : PySem.W.codeIn K cd_law_told "_law_told" = true)
  (k_law_told : PySem.W.keepIn K (.ref f_law_told) = true)
  (a_law_all_malformed : PySem.W.nsIn K mainGlobals "_law_all_malformed" = some (some (.ref f_law_all_malformed)))
  (l_law_all_malformed : K.lookup f_law_all_malformed = some ⟨oc_law_all_malformed, od_law_all_malformed, .func (PySem.W.fnOf "_law_all_malformed" "_law_all_malformed" (defArgs st_law_all_malformed) (defBody st_law_all_malformed) (defScope st_law_all_malformed) .none kV_law_all_malformed dc_law_all_malformed pm_law_all_malformed an_law_all_malformed cd_law_all_malformed ct_law_all_malformed), sl_law_all_malformed⟩)
  (c_law_all_malformed : PySem.W.codeIn K cd_law_all_malformed "_law_all_malformed" = true)
  (k_law_all_malformed : PySem.W.keepIn K (.ref f_law_all_malformed) = true)
  (a_m_neg : PySem.W.findIn K (.ref C0) "__neg__" = some (some (.ref f_m_neg)))
  (i_m_neg : PySem.W.isFn K (.ref f_m_neg) = true)
  (l_m_neg : K.lookup f_m_neg = some ⟨oc_m_neg, od_m_neg, .func (PySem.W.fnOf "__neg__" "Ratio.__neg__" (defArgs st_m_neg) (defBody st_m_neg) (defScope st_m_neg) .none kV_m_neg dc_m_neg pm_m_neg an_m_neg cd_m_neg ct_m_neg), sl_m_neg⟩)
  (c_m_neg : PySem.W.codeIn K cd_m_neg "Ratio.__neg__" = true)
  (k_m_neg : PySem.W.keepIn K (.ref f_m_neg) = true)
  (a_law_common : PySem.W.nsIn K mainGlobals "_law_common" = some (some (.ref f_law_common)))
  (l_law_common : K.lookup f_law_common = some ⟨oc_law_common, od_law_common, .func (PySem.W.fnOf "_law_common" "_law_common" (defArgs st_law_common) (defBody st_law_common) (defScope st_law_common) .none kV_law_common dc_law_common pm_law_common an_law_common cd_law_common ct_law_common), sl_law_common⟩)
  (c_law_common : PySem.W.codeIn K cd_law_common "_law_common" = true)
  (k_law_common : PySem.W.keepIn K (.ref f_law_common) = true)
  (a_law_plain : PySem.W.nsIn K mainGlobals "_law_plain" = some (some (.ref f_law_plain)))
  (l_law_plain : K.lookup f_law_plain = some ⟨oc_law_plain, od_law_plain, .func (PySem.W.fnOf "_law_plain" "_law_plain" (defArgs st_law_plain) (defBody st_law_plain) (defScope st_law_plain) .none kV_law_plain dc_law_plain pm_law_plain an_law_plain cd_law_plain ct_law_plain), sl_law_plain⟩)
  (c_law_plain : PySem.W.codeIn K cd_law_plain "_law_plain" = true)
  (k_law_plain : PySem.W.keepIn K (.ref f_law_plain) = true)
  (a_law_is_whole : PySem.W.nsIn K mainGlobals "_law_is_whole" = some (some (.ref f_law_is_whole)))
  (l_law_is_whole : K.lookup f_law_is_whole = some ⟨oc_law_is_whole, od_law_is_whole, .func (PySem.W.fnOf "_law_is_whole" "_law_is_whole" (defArgs st_law_is_whole) (defBody st_law_is_whole) (defScope st_law_is_whole) .none kV_law_is_whole dc_law_is_whole pm_law_is_whole an_law_is_whole cd_law_is_whole ct_law_is_whole), sl_law_is_whole⟩)
  (c_law_is_whole : PySem.W.codeIn K cd_law_is_whole "_law_is_whole" = true)
  (k_law_is_whole : PySem.W.keepIn K (.ref f_law_is_whole) = true)
  (a_law_same : PySem.W.nsIn K mainGlobals "_law_same" = some (some (.ref f_law_same)))
  (l_law_same : K.lookup f_law_same = some ⟨oc_law_same, od_law_same, .func (PySem.W.fnOf "_law_same" "_law_same" (defArgs st_law_same) (defBody st_law_same) (defScope st_law_same) .none kV_law_same dc_law_same pm_law_same an_law_same cd_law_same ct_law_same), sl_law_same⟩)
  (c_law_same : PySem.W.codeIn K cd_law_same "_law_same" = true)
  (k_law_same : PySem.W.keepIn K (.ref f_law_same) = true)
  (a_law_is : PySem.W.nsIn K mainGlobals "_law_is" = some (some (.ref f_law_is)))
  (l_law_is : K.lookup f_law_is = some ⟨oc_law_is, od_law_is, .func (PySem.W.fnOf "_law_is" "_law_is" (defArgs st_law_is) (defBody st_law_is) (defScope st_law_is) .none kV_law_is dc_law_is pm_law_is an_law_is cd_law_is ct_law_is), sl_law_is⟩)
  (c_law_is : PySem.W.codeIn K cd_law_is "_law_is" = true)
  (k_law_is : PySem.W.keepIn K (.ref f_law_is) = true)
  (a_law_reads_itself : PySem.W.nsIn K mainGlobals "_law_reads_itself" = some (some (.ref f_law_reads_itself)))
  (l_law_reads_itself : K.lookup f_law_reads_itself = some ⟨oc_law_reads_itself, od_law_reads_itself, .func (PySem.W.fnOf "_law_reads_itself" "_law_reads_itself" (defArgs st_law_reads_itself) (defBody st_law_reads_itself) (defScope st_law_reads_itself) .none kV_law_reads_itself dc_law_reads_itself pm_law_reads_itself an_law_reads_itself cd_law_reads_itself ct_law_reads_itself), sl_law_reads_itself⟩)
  (c_law_reads_itself : PySem.W.codeIn K cd_law_reads_itself "_law_reads_itself" = true)
  (k_law_reads_itself : PySem.W.keepIn K (.ref f_law_reads_itself) = true)
  (a_law_take : PySem.W.nsIn K mainGlobals "_law_take" = some (some (.ref f_law_take)))
  (l_law_take : K.lookup f_law_take = some ⟨oc_law_take, od_law_take, .func (PySem.W.fnOf "_law_take" "_law_take" (defArgs st_law_take) (defBody st_law_take) (defScope st_law_take) .none kV_law_take dc_law_take pm_law_take an_law_take cd_law_take ct_law_take), sl_law_take⟩)
  (c_law_take : PySem.W.codeIn K cd_law_take "_law_take" = true)
  (k_law_take : PySem.W.keepIn K (.ref f_law_take) = true)
  (a_m_is_whole : PySem.W.findIn K (.ref C0) "is_whole" = some (some (.ref f_m_is_whole)))
  (i_m_is_whole : PySem.W.isFn K (.ref f_m_is_whole) = true)
  (l_m_is_whole : K.lookup f_m_is_whole = some ⟨oc_m_is_whole, od_m_is_whole, .func (PySem.W.fnOf "is_whole" "Ratio.is_whole" (defArgs st_m_is_whole) (defBody st_m_is_whole) (defScope st_m_is_whole) .none kV_m_is_whole dc_m_is_whole pm_m_is_whole an_m_is_whole cd_m_is_whole ct_m_is_whole), sl_m_is_whole⟩)
  (c_m_is_whole : PySem.W.codeIn K cd_m_is_whole "Ratio.is_whole" = true)
  (k_m_is_whole : PySem.W.keepIn K (.ref f_m_is_whole) = true)
  (a_law_says : PySem.W.nsIn K mainGlobals "_law_says" = some (some (.ref f_law_says)))
  (l_law_says : K.lookup f_law_says = some ⟨oc_law_says, od_law_says, .func (PySem.W.fnOf "_law_says" "_law_says" (defArgs st_law_says) (defBody st_law_says) (defScope st_law_says) .none kV_law_says dc_law_says pm_law_says an_law_says cd_law_says ct_law_says), sl_law_says⟩)
  (c_law_says : PySem.W.codeIn K cd_law_says "_law_says" = true)
  (k_law_says : PySem.W.keepIn K (.ref f_law_says) = true)
  (a_m_floor : PySem.W.findIn K (.ref C0) "floor" = some (some (.ref f_m_floor)))
  (i_m_floor : PySem.W.isFn K (.ref f_m_floor) = true)
  (l_m_floor : K.lookup f_m_floor = some ⟨oc_m_floor, od_m_floor, .func (PySem.W.fnOf "floor" "Ratio.floor" (defArgs st_m_floor) (defBody st_m_floor) (defScope st_m_floor) .none kV_m_floor dc_m_floor pm_m_floor an_m_floor cd_m_floor ct_m_floor), sl_m_floor⟩)
  (c_m_floor : PySem.W.codeIn K cd_m_floor "Ratio.floor" = true)
  (k_m_floor : PySem.W.keepIn K (.ref f_m_floor) = true)
  (a_m_sign : PySem.W.findIn K (.ref C0) "sign" = some (some (.ref f_m_sign)))
  (i_m_sign : PySem.W.isFn K (.ref f_m_sign) = true)
  (l_m_sign : K.lookup f_m_sign = some ⟨oc_m_sign, od_m_sign, .func (PySem.W.fnOf "sign" "Ratio.sign" (defArgs st_m_sign) (defBody st_m_sign) (defScope st_m_sign) .none kV_m_sign dc_m_sign pm_m_sign an_m_sign cd_m_sign ct_m_sign), sl_m_sign⟩)
  (c_m_sign : PySem.W.codeIn K cd_m_sign "Ratio.sign" = true)
  (k_m_sign : PySem.W.keepIn K (.ref f_m_sign) = true)
  (a_law_pair : PySem.W.nsIn K mainGlobals "_law_pair" = some (some (.ref f_law_pair)))
  (l_law_pair : K.lookup f_law_pair = some ⟨oc_law_pair, od_law_pair, .func (PySem.W.fnOf "_law_pair" "_law_pair" (defArgs st_law_pair) (defBody st_law_pair) (defScope st_law_pair) .none kV_law_pair dc_law_pair pm_law_pair an_law_pair cd_law_pair ct_law_pair), sl_law_pair⟩)
  (c_law_pair : PySem.W.codeIn K cd_law_pair "_law_pair" = true)
  (k_law_pair : PySem.W.keepIn K (.ref f_law_pair) = true)
  (a_law_ops_hold : PySem.W.nsIn K mainGlobals "_law_ops_hold" = some (some (.ref f_law_ops_hold)))
  (l_law_ops_hold : K.lookup f_law_ops_hold = some ⟨oc_law_ops_hold, od_law_ops_hold, .func (PySem.W.fnOf "_law_ops_hold" "_law_ops_hold" (defArgs st_law_ops_hold) (defBody st_law_ops_hold) (defScope st_law_ops_hold) .none kV_law_ops_hold dc_law_ops_hold pm_law_ops_hold an_law_ops_hold cd_law_ops_hold ct_law_ops_hold), sl_law_ops_hold⟩)
  (c_law_ops_hold : PySem.W.codeIn K cd_law_ops_hold "_law_ops_hold" = true)
  (k_law_ops_hold : PySem.W.keepIn K (.ref f_law_ops_hold) = true)
  (a_ratio_sum : PySem.W.nsIn K mainGlobals "ratio_sum" = some (some (.ref f_ratio_sum)))
  (l_ratio_sum : K.lookup f_ratio_sum = some ⟨oc_ratio_sum, od_ratio_sum, .func (PySem.W.fnOf "ratio_sum" "ratio_sum" (defArgs st_ratio_sum) (defBody st_ratio_sum) (defScope st_ratio_sum) .none kV_ratio_sum dc_ratio_sum pm_ratio_sum an_ratio_sum cd_ratio_sum ct_ratio_sum), sl_ratio_sum⟩)
  (c_ratio_sum : PySem.W.codeIn K cd_ratio_sum "ratio_sum" = true)
  (k_ratio_sum : PySem.W.keepIn K (.ref f_ratio_sum) = true)
  (a_ratio_dot : PySem.W.nsIn K mainGlobals "ratio_dot" = some (some (.ref f_ratio_dot)))
  (l_ratio_dot : K.lookup f_ratio_dot = some ⟨oc_ratio_dot, od_ratio_dot, .func (PySem.W.fnOf "ratio_dot" "ratio_dot" (defArgs st_ratio_dot) (defBody st_ratio_dot) (defScope st_ratio_dot) .none kV_ratio_dot dc_ratio_dot pm_ratio_dot an_ratio_dot cd_ratio_dot ct_ratio_dot), sl_ratio_dot⟩)
  (c_ratio_dot : PySem.W.codeIn K cd_ratio_dot "ratio_dot" = true)
  (k_ratio_dot : PySem.W.keepIn K (.ref f_ratio_dot) = true)
  (a_law_sums_hold : PySem.W.nsIn K mainGlobals "_law_sums_hold" = some (some (.ref f_law_sums_hold)))
  (l_law_sums_hold : K.lookup f_law_sums_hold = some ⟨oc_law_sums_hold, od_law_sums_hold, .func (PySem.W.fnOf "_law_sums_hold" "_law_sums_hold" (defArgs st_law_sums_hold) (defBody st_law_sums_hold) (defScope st_law_sums_hold) .none kV_law_sums_hold dc_law_sums_hold pm_law_sums_hold an_law_sums_hold cd_law_sums_hold ct_law_sums_hold), sl_law_sums_hold⟩)
  (c_law_sums_hold : PySem.W.codeIn K cd_law_sums_hold "_law_sums_hold" = true)
  (k_law_sums_hold : PySem.W.keepIn K (.ref f_law_sums_hold) = true)
  (pg : PySem.W.plainGet K C0 Str.empty = true)
  (hd : PySem.W.hasDictIn K C0 = true)
  (po : PySem.W.plainOver K C0 = true)
  (sa : PySem.W.findIn K (.ref C0) "__setattr__" = some (some (.builtin "object.__setattr__")))
  (nn : PySem.W.findIn K (.ref C0) "n" = some none)
  (ndd : PySem.W.findIn K (.ref C0) "d" = some none)
  (ha : PySem.W.findIn K (.ref C0) "__class__" = some (some (.builtin "object.__class__")))
  (hm : PySem.W.mroIn K C0 (.type "object") = some true)
  (hn : PySem.W.specialIn K (.builtin "object.__class__") "__get__" = some (some (.builtin "getset_descriptor.__get__")))
  (htk : PySem.W.takesIn K (.builtin "object.__class__") = some true)
  (sf : PySem.W.selfFirst K C0 = true)
  (nm : PySem.W.notFirst K C0 (.ref C0) = true)
  (ic0 : PySem.W.isClsIn K C0 = true)
  (ty0 : PySem.W.typeIn K (.ref C0) = some (.type "type"))
  (kt_int : PySem.W.subIn K (.ref C0) (.type "int") = some false)
  (kt_bool : PySem.W.subIn K (.ref C0) (.type "bool") = some false)
  (kt_str : PySem.W.subIn K (.ref C0) (.type "str") = some false)
  (kt_tuple : PySem.W.subIn K (.ref C0) (.type "tuple") = some false)
  (kt_list : PySem.W.subIn K (.ref C0) (.type "list") = some false)
  (kt_dict : PySem.W.subIn K (.ref C0) (.type "dict") = some false)
  (sb_NoneType : PySem.W.subIn K (.type "NoneType") (.ref C0) = some false)
  (nf_NoneType : PySem.W.notFirst K C0 (.type "NoneType") = true)
  (sb_bool : PySem.W.subIn K (.type "bool") (.ref C0) = some false)
  (nf_bool : PySem.W.notFirst K C0 (.type "bool") = true)
  (sb_int : PySem.W.subIn K (.type "int") (.ref C0) = some false)
  (nf_int : PySem.W.notFirst K C0 (.type "int") = true)
  (sb_str : PySem.W.subIn K (.type "str") (.ref C0) = some false)
  (nf_str : PySem.W.notFirst K C0 (.type "str") = true)
  (sb_tuple : PySem.W.subIn K (.type "tuple") (.ref C0) = some false)
  (nf_tuple : PySem.W.notFirst K C0 (.type "tuple") = true)
  (sb_list : PySem.W.subIn K (.type "list") (.ref C0) = some false)
  (nf_list : PySem.W.notFirst K C0 (.type "list") = true)
  (r_add : PySem.W.findIn K (.ref C0) "__radd__" = some none)
  (r_sub : PySem.W.findIn K (.ref C0) "__rsub__" = some none)
  (r_mul : PySem.W.findIn K (.ref C0) "__rmul__" = some none)
  (aF : PySem.W.nsIn K mainGlobals "Fault" = some (some (.ref CF)))
  (gaF : PySem.W.specialIn K (.ref CF) "__getattribute__" = some (some (.builtin "type.__getattribute__")))
  (rdF : PySem.W.readsIn K CF (.type "type") = true)
  (atF : PySem.W.findCls K (.ref CF) (.type "type") "__init__" = some (.val (.builtin "Exception.__init__")))
  (a_x2 : PySem.W.nsIn K mainGlobals "Malformed" = some (some (.ref C2)))
  (o_x2 : K.lookup C2 = some (excClassObj nm_x2 q_x2 C2 N_x2 bs_x2 [.ref CF, .type "Exception", .type "BaseException", .type "object"] true sn_x2 sub_x2 ab_x2 col_x2 dd_x2 m0_x2 m1_x2 m2_x2 m3_x2 m5_x2 "Exception.__new__"))
  (sa_x2 : PySem.W.findIn K (.ref C2) "__setattr__" = some (some (.builtin "object.__setattr__")))
  (ex_x2 : PySem.W.subIn K (.ref C2) (.type "BaseException") = some true)
  (ty_x2 : PySem.W.typeIn K (.ref C2) = some (.type "type"))
  (kp_x2 : PySem.W.keepIn K (.ref C2) = true)
  (ga_x2 : PySem.W.findIn K (.ref C2) "__getattribute__" = some (some (.builtin "BaseException.__getattribute__")))
  (gg_x2 : PySem.W.findIn K (.ref C2) "__getattr__" = some none)
  (no_x2 : PySem.W.findIn K (.ref C2) "reason" = some none)
  (hd_x2 : PySem.W.hasDictIn K C2 = true)
  (ic_x2 : PySem.W.isClsIn K C2 = true)
  (s2_x2 : PySem.W.subIn K (.ref C2) (.ref C2) = some true)
  (s3_x2 : PySem.W.subIn K (.ref C2) (.ref C3) = some false)
  (s4_x2 : PySem.W.subIn K (.ref C2) (.ref C4) = some false)
  (b_x2 : PySem.W.findIn K (.ref C2) "__init__" = some (some (.ref f_x2)))
  (t_x2 : PySem.W.typeIn K (.ref f_x2) = some (.type "function"))
  (l_x2 : K.lookup f_x2 = some ⟨oc_x2, od_x2, .func (PySem.W.fnOf "__init__" "Malformed.__init__" (defArgs st_x_Malformed) (defBody st_x_Malformed) (defScope st_x_Malformed) .none kV_x2 dc_x2 pm_x2 an_x2 cd_x2 ct_x2), sl_x2⟩)
  (c_x2 : PySem.W.codeIn K cd_x2 "Malformed.__init__" = true)
  (k_x2 : PySem.W.keepIn K (.ref f_x2) = true)
  (a_x3 : PySem.W.nsIn K mainGlobals "Refused" = some (some (.ref C3)))
  (o_x3 : K.lookup C3 = some (excClassObj nm_x3 q_x3 C3 N_x3 bs_x3 [.ref CF, .type "Exception", .type "BaseException", .type "object"] true sn_x3 sub_x3 ab_x3 col_x3 dd_x3 m0_x3 m1_x3 m2_x3 m3_x3 m5_x3 "Exception.__new__"))
  (sa_x3 : PySem.W.findIn K (.ref C3) "__setattr__" = some (some (.builtin "object.__setattr__")))
  (ex_x3 : PySem.W.subIn K (.ref C3) (.type "BaseException") = some true)
  (ty_x3 : PySem.W.typeIn K (.ref C3) = some (.type "type"))
  (kp_x3 : PySem.W.keepIn K (.ref C3) = true)
  (ga_x3 : PySem.W.findIn K (.ref C3) "__getattribute__" = some (some (.builtin "BaseException.__getattribute__")))
  (gg_x3 : PySem.W.findIn K (.ref C3) "__getattr__" = some none)
  (no_x3 : PySem.W.findIn K (.ref C3) "reason" = some none)
  (hd_x3 : PySem.W.hasDictIn K C3 = true)
  (ic_x3 : PySem.W.isClsIn K C3 = true)
  (s2_x3 : PySem.W.subIn K (.ref C3) (.ref C2) = some false)
  (s3_x3 : PySem.W.subIn K (.ref C3) (.ref C3) = some true)
  (s4_x3 : PySem.W.subIn K (.ref C3) (.ref C4) = some false)
  (b_x3 : PySem.W.findIn K (.ref C3) "__init__" = some (some (.ref f_x3)))
  (t_x3 : PySem.W.typeIn K (.ref f_x3) = some (.type "function"))
  (l_x3 : K.lookup f_x3 = some ⟨oc_x3, od_x3, .func (PySem.W.fnOf "__init__" "Refused.__init__" (defArgs st_x_Refused) (defBody st_x_Refused) (defScope st_x_Refused) .none kV_x3 dc_x3 pm_x3 an_x3 cd_x3 ct_x3), sl_x3⟩)
  (c_x3 : PySem.W.codeIn K cd_x3 "Refused.__init__" = true)
  (k_x3 : PySem.W.keepIn K (.ref f_x3) = true)
  (a_x4 : PySem.W.nsIn K mainGlobals "NoText" = some (some (.ref C4)))
  (o_x4 : K.lookup C4 = some (excClassObj nm_x4 q_x4 C4 N_x4 bs_x4 [.ref CF, .type "Exception", .type "BaseException", .type "object"] true sn_x4 sub_x4 ab_x4 col_x4 dd_x4 m0_x4 m1_x4 m2_x4 m3_x4 m5_x4 "Exception.__new__"))
  (sa_x4 : PySem.W.findIn K (.ref C4) "__setattr__" = some (some (.builtin "object.__setattr__")))
  (ex_x4 : PySem.W.subIn K (.ref C4) (.type "BaseException") = some true)
  (ty_x4 : PySem.W.typeIn K (.ref C4) = some (.type "type"))
  (kp_x4 : PySem.W.keepIn K (.ref C4) = true)
  (ga_x4 : PySem.W.findIn K (.ref C4) "__getattribute__" = some (some (.builtin "BaseException.__getattribute__")))
  (gg_x4 : PySem.W.findIn K (.ref C4) "__getattr__" = some none)
  (no_x4 : PySem.W.findIn K (.ref C4) "at" = some none)
  (hd_x4 : PySem.W.hasDictIn K C4 = true)
  (ic_x4 : PySem.W.isClsIn K C4 = true)
  (s2_x4 : PySem.W.subIn K (.ref C4) (.ref C2) = some false)
  (s3_x4 : PySem.W.subIn K (.ref C4) (.ref C3) = some false)
  (s4_x4 : PySem.W.subIn K (.ref C4) (.ref C4) = some true)
  (b_x4 : PySem.W.findIn K (.ref C4) "__init__" = some (some (.ref f_x4)))
  (t_x4 : PySem.W.typeIn K (.ref f_x4) = some (.type "function"))
  (l_x4 : K.lookup f_x4 = some ⟨oc_x4, od_x4, .func (PySem.W.fnOf "__init__" "NoText.__init__" (defArgs st_x_NoText) (defBody st_x_NoText) (defScope st_x_NoText) .none kV_x4 dc_x4 pm_x4 an_x4 cd_x4 ct_x4), sl_x4⟩)
  (c_x4 : PySem.W.codeIn K cd_x4 "NoText.__init__" = true)
  (k_x4 : PySem.W.keepIn K (.ref f_x4) = true)
  (v_DIGITS : PySem.W.nsIn K mainGlobals "DIGITS" = some (some (.str "0123456789" tk_DIGITS)))
  (v_MOST_SIGNS : PySem.W.nsIn K mainGlobals "MOST_SIGNS" = some (some (.int 2000 tk_MOST_SIGNS)))
  (z_len : PySem.W.nsIn K mainGlobals "len" = some none)
  (z_range : PySem.W.nsIn K mainGlobals "range" = some none)
  (z_zip : PySem.W.nsIn K mainGlobals "zip" = some none)
  (z_enumerate : PySem.W.nsIn K mainGlobals "enumerate" = some none)
  (z_tuple : PySem.W.nsIn K mainGlobals "tuple" = some none)
  (z_list : PySem.W.nsIn K mainGlobals "list" = some none)
  (z_dict : PySem.W.nsIn K mainGlobals "dict" = some none)
  (z_isinstance : PySem.W.nsIn K mainGlobals "isinstance" = some none)
  (z_abs : PySem.W.nsIn K mainGlobals "abs" = some none)
  (z_max : PySem.W.nsIn K mainGlobals "max" = some none)
  (z_min : PySem.W.nsIn K mainGlobals "min" = some none)
  (z_all : PySem.W.nsIn K mainGlobals "all" = some none)
  (z_any : PySem.W.nsIn K mainGlobals "any" = some none)
  (z_sum : PySem.W.nsIn K mainGlobals "sum" = some none)
  (z_int : PySem.W.nsIn K mainGlobals "int" = some none)
  (z_str : PySem.W.nsIn K mainGlobals "str" = some none)
  (z_sorted : PySem.W.nsIn K mainGlobals "sorted" = some none)
  (z_set : PySem.W.nsIn K mainGlobals "set" = some none)
  (z_bool : PySem.W.nsIn K mainGlobals "bool" = some none)
  (dig : PySem.W.nsIn K cStatics "sys.int_max_str_digits" = some none)
  (a_S : PySem.W.nsIn K mainGlobals "_law_state" = some (some (.ref fS)))
  (l_S : K.lookup fS = some ⟨oc_S, od_S, .func (PySem.W.fnOf "_law_state" "_law_state" (defArgs st__law_state) (defBody st__law_state) (defScope st__law_state) .none kV_S dc_S pm_S an_S cd_S ct_S), sl_S⟩)
  (c_S : PySem.W.codeIn K cd_S "_law_state" = true)
  (k_S : PySem.W.keepIn K (.ref fS) = true)
  (l_L : K.lookup fL = some ⟨oc_L, od_L, .func (PySem.W.fnOf "law" "law" (defArgs st_law) (defBody st_law) (defScope st_law) .none kV_L dc_L pm_L an_L cd_L ct_L), sl_L⟩)
  (c_L : PySem.W.codeIn K cd_L "law" = true)
  (k_L : PySem.W.keepIn K (.ref fL) = true)
  (a_L : PySem.W.nsIn K mainGlobals "law" = some (some (.ref fL))) (l : Addr) : At ((wd P w K mg base C0 C2 C3 C4).put l) := by
  have eA : defArgs st_i_Ratio = ⟨[], [⟨"self", none, ⟨32, 17, 32, 21⟩⟩, ⟨"n", none, ⟨32, 23, 32, 24⟩⟩, ⟨"d", none, ⟨32, 26, 32, 27⟩⟩], none, [], [], none, [.Constant (.int 1) 0 ⟨32, 28, 32, 29⟩]⟩ := by kernel_rfl
  have inits : InitAt ((wd P w K mg base C0 C2 C3 C4).put l) 0 "Ratio" "Ratio.__init__" st_i_Ratio ["self", "n", "d"] [] ∧ InitAt ((wd P w K mg base C0 C2 C3 C4).put l) 0 "Ratio" "Ratio.__init__" st_i_Ratio ["self", "n", "d"] [.int 1] := initAt_of (n := 0) X N aRatio ⟨mk, a_init, i_init, kc⟩ k_init l_init c_init l_TD 3 rfl (by decide) fun j hj T kV dc pm an cd ct us its h1 h2 => by
    rw [eA]
    exact match j, us, its, hj, h1, h2 with
      | 0, [_, _], [_], _, _, _ => ⟨_, rfl, rfl⟩
      | 1, [_, _, _], [_], _, _, _ => ⟨_, rfl, rfl⟩
  exact {
    bl := by
      intro y hy
      simp only [bltNames, List.mem_cons, List.not_mem_nil, or_false] at hy
      rcases hy with rfl | rfl | rfl | rfl | rfl | rfl | rfl | rfl | rfl | rfl | rfl | rfl | rfl | rfl | rfl | rfl | rfl | rfl | rfl
      · exact PySem.W.mg_none_of X N z_len
      · exact PySem.W.mg_none_of X N z_range
      · exact PySem.W.mg_none_of X N z_zip
      · exact PySem.W.mg_none_of X N z_enumerate
      · exact PySem.W.mg_none_of X N z_tuple
      · exact PySem.W.mg_none_of X N z_list
      · exact PySem.W.mg_none_of X N z_dict
      · exact PySem.W.mg_none_of X N z_isinstance
      · exact PySem.W.mg_none_of X N z_abs
      · exact PySem.W.mg_none_of X N z_max
      · exact PySem.W.mg_none_of X N z_min
      · exact PySem.W.mg_none_of X N z_all
      · exact PySem.W.mg_none_of X N z_any
      · exact PySem.W.mg_none_of X N z_sum
      · exact PySem.W.mg_none_of X N z_int
      · exact PySem.W.mg_none_of X N z_str
      · exact PySem.W.mg_none_of X N z_sorted
      · exact PySem.W.mg_none_of X N z_set
      · exact PySem.W.mg_none_of X N z_bool,
    dig := dig,
    cls := ⟨⟨hn, htk⟩, fun c hc => by
      cases List.mem_singleton.mp hc
      exact ⟨⟨pg, hd, po, sa⟩, ha, hm, sixC (kit_b kt_int (by decide +kernel)) (kit_b kt_bool (by decide +kernel)) (kit_b kt_str (by decide +kernel)) (kit_b kt_tuple (by decide +kernel)) (kit_b kt_list (by decide +kernel)) (kit_b kt_dict (by decide +kernel))⟩⟩,
    ic0 := ⟨PySem.W.mg_of X N aRatio, six' (kit_o ic0 ty0 sb_NoneType) (kit_o ic0 ty0 sb_bool) (kit_o ic0 ty0 sb_int) (kit_o ic0 ty0 sb_str) (kit_o ic0 ty0 sb_tuple) (kit_o ic0 ty0 sb_list), fun c hc => by
      cases List.mem_singleton.mp hc
      exact kit_s⟩,
    cl0 := ⟨pg, hd, po, sa⟩,
    own0 := ⟨sf, six sb_NoneType sb_bool sb_int sb_str sb_tuple sb_list, nm, six nf_NoneType nf_bool nf_int nf_str nf_tuple nf_list⟩,
    at_n := ⟨⟨pg, hd, po, sa⟩, nn, rfl⟩,
    at_d := ⟨⟨pg, hd, po, sa⟩, ndd, rfl⟩,
    op_add := opsF_add r_add,
    op_sub := opsF_sub r_sub,
    op_mul := opsF_mul r_mul,
    x_Malformed := ⟨f_x2, _, ⟨⟨_, _, _, _, _, _, _, _, _, _, _, _, _, _, _, o_x2, by rfl⟩, sa_x2, ex_x2, ty_x2, kp_x2⟩, PySem.W.mg_of X N a_x2, b_x2, t_x2, init_ok xt_Malformed (fun_mk l_x2 c_x2 k_x2) (PySem.W.mg_of X N aF) ⟨gaF, rdF, atF⟩ ⟨⟨_, _, _, _, _, _, _, _, _, _, _, _, _, _, _, o_x2, by rfl⟩, sa_x2, ex_x2, ty_x2, kp_x2⟩ no_x2, (fun_mk l_x2 c_x2 k_x2).binds (fun _ _ _ _ _ _ us hl => match us, hl with | [_, _], _ => by kernel_rfl), rfl, by decide⟩,
    x_Refused := ⟨f_x3, _, ⟨⟨_, _, _, _, _, _, _, _, _, _, _, _, _, _, _, o_x3, by rfl⟩, sa_x3, ex_x3, ty_x3, kp_x3⟩, PySem.W.mg_of X N a_x3, b_x3, t_x3, init_ok xt_Refused (fun_mk l_x3 c_x3 k_x3) (PySem.W.mg_of X N aF) ⟨gaF, rdF, atF⟩ ⟨⟨_, _, _, _, _, _, _, _, _, _, _, _, _, _, _, o_x3, by rfl⟩, sa_x3, ex_x3, ty_x3, kp_x3⟩ no_x3, (fun_mk l_x3 c_x3 k_x3).binds (fun _ _ _ _ _ _ us hl => match us, hl with | [_, _], _ => by kernel_rfl), rfl, by decide⟩,
    x_NoText := ⟨f_x4, _, ⟨⟨_, _, _, _, _, _, _, _, _, _, _, _, _, _, _, o_x4, by rfl⟩, sa_x4, ex_x4, ty_x4, kp_x4⟩, PySem.W.mg_of X N a_x4, b_x4, t_x4, init_ok xt_NoText (fun_mk l_x4 c_x4 k_x4) (PySem.W.mg_of X N aF) ⟨gaF, rdF, atF⟩ ⟨⟨_, _, _, _, _, _, _, _, _, _, _, _, _, _, _, o_x4, by rfl⟩, sa_x4, ex_x4, ty_x4, kp_x4⟩ no_x4, (fun_mk l_x4 c_x4 k_x4).binds (fun _ _ _ _ _ _ us hl => match us, hl with | [_, _], _ => by kernel_rfl), rfl, by decide⟩,
    tell := ⟨PySem.W.mg_of X N a_x2, PySem.W.mg_of X N a_x3, PySem.W.mg_of X N a_x4, by
      intro c hc c' hc'
      simp only [List.mem_cons, List.not_mem_nil, or_false] at hc hc'
      rcases hc with rfl | rfl | rfl <;> rcases hc' with rfl | rfl | rfl
      · exact exm_of ex_x2 ic_x2 ty_x2 s2_x2
      · exact exm_of ex_x3 ic_x3 ty_x3 s3_x2
      · exact exm_of ex_x4 ic_x4 ty_x4 s4_x2
      · exact exm_of ex_x2 ic_x2 ty_x2 s2_x3
      · exact exm_of ex_x3 ic_x3 ty_x3 s3_x3
      · exact exm_of ex_x4 ic_x4 ty_x4 s4_x3
      · exact exm_of ex_x2 ic_x2 ty_x2 s2_x4
      · exact exm_of ex_x3 ic_x3 ty_x3 s3_x4
      · exact exm_of ex_x4 ic_x4 ty_x4 s4_x4,
      ⟨ga_x3, gg_x3, no_x3, hd_x3, ex_x3⟩, ⟨ga_x4, gg_x4, no_x4, hd_x4, ex_x4⟩⟩,
    c_DIGITS := glo_str (PySem.W.mg_of X N v_DIGITS) (by rw [sizeLine_eq]; decide +kernel),
    c_MOST_SIGNS := glo_int (PySem.W.mg_of X N v_MOST_SIGNS),
    d_are_ratios := defAt_of X N a_are_ratios l_are_ratios c_are_ratios k_are_ratios (fun _ _ _ _ _ _ us hl => match us, hl with | [_], _ => by kernel_rfl),
    m_eq := methAt_of a_m_eq i_m_eq l_m_eq c_m_eq k_m_eq (fun _ _ _ _ _ _ us hl => match us, hl with | [_, _], _ => by kernel_rfl),
    d_common := defAt_of X N a_common l_common c_common k_common (fun _ _ _ _ _ _ us hl => match us, hl with | [_, _], _ => by kernel_rfl),
    d_is_integer := defAt_of X N a_is_integer l_is_integer c_is_integer k_is_integer (fun _ _ _ _ _ _ us hl => match us, hl with | [_], _ => by kernel_rfl),
    d_law_made := defAt_of X N a_law_made l_law_made c_law_made k_law_made (fun _ _ _ _ _ _ us hl => match us, hl with | [_, _], _ => by kernel_rfl),
    d_check_ratio := defAt_of X N a_check_ratio l_check_ratio c_check_ratio k_check_ratio (fun _ _ _ _ _ _ us hl => match us, hl with | [_], _ => by kernel_rfl),
    m_over := methAt_of a_m_over i_m_over l_m_over c_m_over k_m_over (fun _ _ _ _ _ _ us hl => match us, hl with | [_, _], _ => by kernel_rfl),
    d_law_over := defAt_of X N a_law_over l_law_over c_law_over k_law_over (fun _ _ _ _ _ _ us hl => match us, hl with | [_, _], _ => by kernel_rfl),
    m_mul := methAt_of a_m_mul i_m_mul l_m_mul c_m_mul k_m_mul (fun _ _ _ _ _ _ us hl => match us, hl with | [_, _], _ => by kernel_rfl),
    m_less := methAt_of a_m_less i_m_less l_m_less c_m_less k_m_less (fun _ _ _ _ _ _ us hl => match us, hl with | [_, _], _ => by kernel_rfl),
    m_sub := methAt_of a_m_sub i_m_sub l_m_sub c_m_sub k_m_sub (fun _ _ _ _ _ _ us hl => match us, hl with | [_, _], _ => by kernel_rfl),
    m_add := methAt_of a_m_add i_m_add l_m_add c_m_add k_m_add (fun _ _ _ _ _ _ us hl => match us, hl with | [_, _], _ => by kernel_rfl),
    d_law_act := defAt_of X N a_law_act l_law_act c_law_act k_law_act (fun _ _ _ _ _ _ us hl => match us, hl with | [_, _, _], _ => by kernel_rfl),
    d_as_ratio := defAt_of X N a_as_ratio l_as_ratio c_as_ratio k_as_ratio (fun _ _ _ _ _ _ us hl => match us, hl with | [_], _ => by kernel_rfl),
    d_ratio_text := defAt_of X N a_ratio_text l_ratio_text c_ratio_text k_ratio_text (fun _ _ _ _ _ _ us hl => match us, hl with | [_], _ => by kernel_rfl),
    d_is_number := defAt_of X N a_is_number l_is_number c_is_number k_is_number (fun _ _ _ _ _ _ us hl => match us, hl with | [_], _ => by kernel_rfl),
    d_read_ratio := defAt_of X N a_read_ratio l_read_ratio c_read_ratio k_read_ratio (fun _ _ _ _ _ _ us hl => match us, hl with | [_], _ => by kernel_rfl),
    d_law_told := defAt_of X N a_law_told l_law_told c_law_told k_law_told (fun _ _ _ _ _ _ us hl => match us, hl with | [_, _], _ => by kernel_rfl),
    d_law_all_malformed := defAt_of X N a_law_all_malformed l_law_all_malformed c_law_all_malformed k_law_all_malformed (fun _ _ _ _ _ _ us hl => match us, hl with | [_], _ => by kernel_rfl),
    m_neg := methAt_of a_m_neg i_m_neg l_m_neg c_m_neg k_m_neg (fun _ _ _ _ _ _ us hl => match us, hl with | [_], _ => by kernel_rfl),
    d_law_common := defAt_of X N a_law_common l_law_common c_law_common k_law_common (fun _ _ _ _ _ _ us hl => match us, hl with | [_, _], _ => by kernel_rfl),
    d_law_plain := defAt_of X N a_law_plain l_law_plain c_law_plain k_law_plain (fun _ _ _ _ _ _ us hl => match us, hl with | [_, _], _ => by kernel_rfl),
    d_law_is_whole := defAt_of X N a_law_is_whole l_law_is_whole c_law_is_whole k_law_is_whole (fun _ _ _ _ _ _ us hl => match us, hl with | [_], _ => by kernel_rfl),
    d_law_same := defAt_of X N a_law_same l_law_same c_law_same k_law_same (fun _ _ _ _ _ _ us hl => match us, hl with | [_, _], _ => by kernel_rfl),
    d_law_is := defAt_of X N a_law_is l_law_is c_law_is k_law_is (fun _ _ _ _ _ _ us hl => match us, hl with | [_, _, _], _ => by kernel_rfl),
    d_law_reads_itself := defAt_of X N a_law_reads_itself l_law_reads_itself c_law_reads_itself k_law_reads_itself (fun _ _ _ _ _ _ us hl => match us, hl with | [_], _ => by kernel_rfl),
    d_law_take := defAt_of X N a_law_take l_law_take c_law_take k_law_take (fun _ _ _ _ _ _ us hl => match us, hl with | [_, _], _ => by kernel_rfl),
    m_is_whole := methAt_of a_m_is_whole i_m_is_whole l_m_is_whole c_m_is_whole k_m_is_whole (fun _ _ _ _ _ _ us hl => match us, hl with | [_], _ => by kernel_rfl),
    d_law_says := defAt_of X N a_law_says l_law_says c_law_says k_law_says (fun _ _ _ _ _ _ us hl => match us, hl with | [_, _], _ => by kernel_rfl),
    m_floor := methAt_of a_m_floor i_m_floor l_m_floor c_m_floor k_m_floor (fun _ _ _ _ _ _ us hl => match us, hl with | [_], _ => by kernel_rfl),
    m_sign := methAt_of a_m_sign i_m_sign l_m_sign c_m_sign k_m_sign (fun _ _ _ _ _ _ us hl => match us, hl with | [_], _ => by kernel_rfl),
    d_law_pair := defAt_of X N a_law_pair l_law_pair c_law_pair k_law_pair (fun _ _ _ _ _ _ us hl => match us, hl with | [_], _ => by kernel_rfl),
    d_law_ops_hold := defAt_of X N a_law_ops_hold l_law_ops_hold c_law_ops_hold k_law_ops_hold (fun _ _ _ _ _ _ us hl => match us, hl with | [_], _ => by kernel_rfl),
    d_ratio_sum := defAt_of X N a_ratio_sum l_ratio_sum c_ratio_sum k_ratio_sum (fun _ _ _ _ _ _ us hl => match us, hl with | [_], _ => by kernel_rfl),
    d_ratio_dot := defAt_of X N a_ratio_dot l_ratio_dot c_ratio_dot k_ratio_dot (fun _ _ _ _ _ _ us hl => match us, hl with | [_, _], _ => by kernel_rfl),
    d_law_sums_hold := defAt_of X N a_law_sums_hold l_law_sums_hold c_law_sums_hold k_law_sums_hold (fun _ _ _ _ _ _ us hl => match us, hl with | [_], _ => by kernel_rfl),
    i_Ratio_2 := inits.1,
    i_Ratio_1 := inits.2 }
theorem state_t : StT st__law_state := ⟨⟨fun i => ([⟨119, 4, 119, 8⟩, ⟨119, 11, 119, 12⟩, ⟨119, 4, 119, 12⟩, ⟨120, 4, 120, 9⟩, ⟨120, 12, 120, 13⟩, ⟨120, 4, 120, 13⟩, ⟨121, 8, 121, 12⟩, ⟨121, 16, 121, 22⟩, ⟨121, 24, 121, 26⟩, ⟨121, 23, 121, 26⟩, ⟨121, 16, 121, 27⟩, ⟨122, 8, 122, 12⟩, ⟨122, 15, 122, 19⟩, ⟨122, 22, 122, 29⟩, ⟨122, 15, 122, 29⟩, ⟨122, 32, 122, 35⟩, ⟨122, 36, 122, 40⟩, ⟨122, 32, 122, 41⟩, ⟨122, 15, 122, 41⟩, ⟨122, 8, 122, 41⟩, ⟨123, 8, 123, 13⟩, ⟨123, 16, 123, 19⟩, ⟨123, 20, 123, 25⟩, ⟨123, 28, 123, 33⟩, ⟨123, 20, 123, 33⟩, ⟨123, 36, 123, 40⟩, ⟨123, 20, 123, 40⟩, ⟨123, 16, 123, 41⟩, ⟨123, 44, 123, 54⟩, ⟨123, 16, 123, 54⟩, ⟨123, 8, 123, 54⟩, ⟨121, 4, 123, 54⟩, ⟨124, 12, 124, 16⟩, ⟨124, 27, 124, 32⟩, ⟨124, 36, 124, 46⟩, ⟨124, 27, 124, 46⟩, ⟨124, 18, 124, 23⟩, ⟨124, 52, 124, 53⟩, ⟨124, 18, 124, 53⟩, ⟨124, 11, 124, 54⟩, ⟨124, 4, 124, 54⟩] : List Pos).getD i ⟨0, 0, 0, 0⟩, fun i => ([0, 0, 0, 0, 0, 0, 0, 0] : List Nat).getD i 0, by kernel_rfl⟩, C8.fnScope_by (by decide +kernel), by decide +kernel, by decide +kernel, by decide +kernel, by decide +kernel, by decide +kernel, by decide +kernel, by decide +kernel, by decide +kernel, by decide +kernel⟩
theorem law_ok (true_ : ∀ s : S, ∃ s', b_law.den (startL n_law) s = .rt (.bl true) s') (X : K.In h) (N : h.Ns mainGlobals mg) {fa : Addr} (hfa : mg "law" = some (.ref fa))
  (aRatio : PySem.W.nsIn K mainGlobals "Ratio" = some (some (.ref C0)))
  (a_are_ratios : PySem.W.nsIn K mainGlobals "are_ratios" = some (some (.ref f_are_ratios)))
  (l_are_ratios : K.lookup f_are_ratios = some ⟨oc_are_ratios, od_are_ratios, .func (PySem.W.fnOf "are_ratios" "are_ratios" (defArgs st_are_ratios) (defBody st_are_ratios) (defScope st_are_ratios) .none kV_are_ratios dc_are_ratios pm_are_ratios an_are_ratios cd_are_ratios ct_are_ratios), sl_are_ratios⟩)
  (c_are_ratios : PySem.W.codeIn K cd_are_ratios "are_ratios" = true)
  (k_are_ratios : PySem.W.keepIn K (.ref f_are_ratios) = true)
  (a_m_eq : PySem.W.findIn K (.ref C0) "__eq__" = some (some (.ref f_m_eq)))
  (i_m_eq : PySem.W.isFn K (.ref f_m_eq) = true)
  (l_m_eq : K.lookup f_m_eq = some ⟨oc_m_eq, od_m_eq, .func (PySem.W.fnOf "__eq__" "Ratio.__eq__" (defArgs st_m_eq) (defBody st_m_eq) (defScope st_m_eq) .none kV_m_eq dc_m_eq pm_m_eq an_m_eq cd_m_eq ct_m_eq), sl_m_eq⟩)
  (c_m_eq : PySem.W.codeIn K cd_m_eq "Ratio.__eq__" = true)
  (k_m_eq : PySem.W.keepIn K (.ref f_m_eq) = true)
  (a_common : PySem.W.nsIn K mainGlobals "common" = some (some (.ref f_common)))
  (l_common : K.lookup f_common = some ⟨oc_common, od_common, .func (PySem.W.fnOf "common" "common" (defArgs st_common) (defBody st_common) (defScope st_common) .none kV_common dc_common pm_common an_common cd_common ct_common), sl_common⟩)
  (c_common : PySem.W.codeIn K cd_common "common" = true)
  (k_common : PySem.W.keepIn K (.ref f_common) = true)
  (a_is_integer : PySem.W.nsIn K mainGlobals "is_integer" = some (some (.ref f_is_integer)))
  (l_is_integer : K.lookup f_is_integer = some ⟨oc_is_integer, od_is_integer, .func (PySem.W.fnOf "is_integer" "is_integer" (defArgs st_is_integer) (defBody st_is_integer) (defScope st_is_integer) .none kV_is_integer dc_is_integer pm_is_integer an_is_integer cd_is_integer ct_is_integer), sl_is_integer⟩)
  (c_is_integer : PySem.W.codeIn K cd_is_integer "is_integer" = true)
  (k_is_integer : PySem.W.keepIn K (.ref f_is_integer) = true)
  (a_init : PySem.W.findIn K (.ref C0) "__init__" = some (some (.ref f_init)))
  (i_init : PySem.W.isFn K (.ref f_init) = true)
  (l_init : K.lookup f_init = some ⟨oc_init, od_init, .func (PySem.W.fnOf "__init__" "Ratio.__init__" (defArgs st_i_Ratio) (defBody st_i_Ratio) (defScope st_i_Ratio) (.ref TD) kV_init dc_init pm_init an_init cd_init ct_init), sl_init⟩)
  (c_init : PySem.W.codeIn K cd_init "Ratio.__init__" = true)
  (k_init : PySem.W.keepIn K (.ref f_init) = true)
  (l_TD : K.lookup TD = some ⟨cTD, dTD, .seq #[.int 1 tkD] nTD, sTD⟩)
  (mk : PySem.W.makesIn K C0 = true)
  (kc : PySem.W.keepIn K (.ref C0) = true)
  (a_law_made : PySem.W.nsIn K mainGlobals "_law_made" = some (some (.ref f_law_made)))
  (l_law_made : K.lookup f_law_made = some ⟨oc_law_made, od_law_made, .func (PySem.W.fnOf "_law_made" "_law_made" (defArgs st_law_made) (defBody st_law_made) (defScope st_law_made) .none kV_law_made dc_law_made pm_law_made an_law_made cd_law_made ct_law_made), sl_law_made⟩)
  (c_law_made : PySem.W.codeIn K cd_law_made "_law_made" = true)
  (k_law_made : PySem.W.keepIn K (.ref f_law_made) = true)
  (a_check_ratio : PySem.W.nsIn K mainGlobals "check_ratio" = some (some (.ref f_check_ratio)))
  (l_check_ratio : K.lookup f_check_ratio = some ⟨oc_check_ratio, od_check_ratio, .func (PySem.W.fnOf "check_ratio" "check_ratio" (defArgs st_check_ratio) (defBody st_check_ratio) (defScope st_check_ratio) .none kV_check_ratio dc_check_ratio pm_check_ratio an_check_ratio cd_check_ratio ct_check_ratio), sl_check_ratio⟩)
  (c_check_ratio : PySem.W.codeIn K cd_check_ratio "check_ratio" = true)
  (k_check_ratio : PySem.W.keepIn K (.ref f_check_ratio) = true)
  (a_m_over : PySem.W.findIn K (.ref C0) "over" = some (some (.ref f_m_over)))
  (i_m_over : PySem.W.isFn K (.ref f_m_over) = true)
  (l_m_over : K.lookup f_m_over = some ⟨oc_m_over, od_m_over, .func (PySem.W.fnOf "over" "Ratio.over" (defArgs st_m_over) (defBody st_m_over) (defScope st_m_over) .none kV_m_over dc_m_over pm_m_over an_m_over cd_m_over ct_m_over), sl_m_over⟩)
  (c_m_over : PySem.W.codeIn K cd_m_over "Ratio.over" = true)
  (k_m_over : PySem.W.keepIn K (.ref f_m_over) = true)
  (a_law_over : PySem.W.nsIn K mainGlobals "_law_over" = some (some (.ref f_law_over)))
  (l_law_over : K.lookup f_law_over = some ⟨oc_law_over, od_law_over, .func (PySem.W.fnOf "_law_over" "_law_over" (defArgs st_law_over) (defBody st_law_over) (defScope st_law_over) .none kV_law_over dc_law_over pm_law_over an_law_over cd_law_over ct_law_over), sl_law_over⟩)
  (c_law_over : PySem.W.codeIn K cd_law_over "_law_over" = true)
  (k_law_over : PySem.W.keepIn K (.ref f_law_over) = true)
  (a_m_mul : PySem.W.findIn K (.ref C0) "__mul__" = some (some (.ref f_m_mul)))
  (i_m_mul : PySem.W.isFn K (.ref f_m_mul) = true)
  (l_m_mul : K.lookup f_m_mul = some ⟨oc_m_mul, od_m_mul, .func (PySem.W.fnOf "__mul__" "Ratio.__mul__" (defArgs st_m_mul) (defBody st_m_mul) (defScope st_m_mul) .none kV_m_mul dc_m_mul pm_m_mul an_m_mul cd_m_mul ct_m_mul), sl_m_mul⟩)
  (c_m_mul : PySem.W.codeIn K cd_m_mul "Ratio.__mul__" = true)
  (k_m_mul : PySem.W.keepIn K (.ref f_m_mul) = true)
  (a_m_less : PySem.W.findIn K (.ref C0) "less" = some (some (.ref f_m_less)))
  (i_m_less : PySem.W.isFn K (.ref f_m_less) = true)
  (l_m_less : K.lookup f_m_less = some ⟨oc_m_less, od_m_less, .func (PySem.W.fnOf "less" "Ratio.less" (defArgs st_m_less) (defBody st_m_less) (defScope st_m_less) .none kV_m_less dc_m_less pm_m_less an_m_less cd_m_less ct_m_less), sl_m_less⟩)
  (c_m_less : PySem.W.codeIn K cd_m_less "Ratio.less" = true)
  (k_m_less : PySem.W.keepIn K (.ref f_m_less) = true)
  (a_m_sub : PySem.W.findIn K (.ref C0) "__sub__" = some (some (.ref f_m_sub)))
  (i_m_sub : PySem.W.isFn K (.ref f_m_sub) = true)
  (l_m_sub : K.lookup f_m_sub = some ⟨oc_m_sub, od_m_sub, .func (PySem.W.fnOf "__sub__" "Ratio.__sub__" (defArgs st_m_sub) (defBody st_m_sub) (defScope st_m_sub) .none kV_m_sub dc_m_sub pm_m_sub an_m_sub cd_m_sub ct_m_sub), sl_m_sub⟩)
  (c_m_sub : PySem.W.codeIn K cd_m_sub "Ratio.__sub__" = true)
  (k_m_sub : PySem.W.keepIn K (.ref f_m_sub) = true)
  (a_m_add : PySem.W.findIn K (.ref C0) "__add__" = some (some (.ref f_m_add)))
  (i_m_add : PySem.W.isFn K (.ref f_m_add) = true)
  (l_m_add : K.lookup f_m_add = some ⟨oc_m_add, od_m_add, .func (PySem.W.fnOf "__add__" "Ratio.__add__" (defArgs st_m_add) (defBody st_m_add) (defScope st_m_add) .none kV_m_add dc_m_add pm_m_add an_m_add cd_m_add ct_m_add), sl_m_add⟩)
  (c_m_add : PySem.W.codeIn K cd_m_add "Ratio.__add__" = true)
  (k_m_add : PySem.W.keepIn K (.ref f_m_add) = true)
  (a_law_act : PySem.W.nsIn K mainGlobals "_law_act" = some (some (.ref f_law_act)))
  (l_law_act : K.lookup f_law_act = some ⟨oc_law_act, od_law_act, .func (PySem.W.fnOf "_law_act" "_law_act" (defArgs st_law_act) (defBody st_law_act) (defScope st_law_act) .none kV_law_act dc_law_act pm_law_act an_law_act cd_law_act ct_law_act), sl_law_act⟩)
  (c_law_act : PySem.W.codeIn K cd_law_act "_law_act" = true)
  (k_law_act : PySem.W.keepIn K (.ref f_law_act) = true)
  (a_as_ratio : PySem.W.nsIn K mainGlobals "as_ratio" = some (some (.ref f_as_ratio)))
  (l_as_ratio : K.lookup f_as_ratio = some ⟨oc_as_ratio, od_as_ratio, .func (PySem.W.fnOf "as_ratio" "as_ratio" (defArgs st_as_ratio) (defBody st_as_ratio) (defScope st_as_ratio) .none kV_as_ratio dc_as_ratio pm_as_ratio an_as_ratio cd_as_ratio ct_as_ratio), sl_as_ratio⟩)
  (c_as_ratio : PySem.W.codeIn K cd_as_ratio "as_ratio" = true)
  (k_as_ratio : PySem.W.keepIn K (.ref f_as_ratio) = true)
  (a_ratio_text : PySem.W.nsIn K mainGlobals "ratio_text" = some (some (.ref f_ratio_text)))
  (l_ratio_text : K.lookup f_ratio_text = some ⟨oc_ratio_text, od_ratio_text, .func (PySem.W.fnOf "ratio_text" "ratio_text" (defArgs st_ratio_text) (defBody st_ratio_text) (defScope st_ratio_text) .none kV_ratio_text dc_ratio_text pm_ratio_text an_ratio_text cd_ratio_text ct_ratio_text), sl_ratio_text⟩)
  (c_ratio_text : PySem.W.codeIn K cd_ratio_text "ratio_text" = true)
  (k_ratio_text : PySem.W.keepIn K (.ref f_ratio_text) = true)
  (a_is_number : PySem.W.nsIn K mainGlobals "is_number" = some (some (.ref f_is_number)))
  (l_is_number : K.lookup f_is_number = some ⟨oc_is_number, od_is_number, .func (PySem.W.fnOf "is_number" "is_number" (defArgs st_is_number) (defBody st_is_number) (defScope st_is_number) .none kV_is_number dc_is_number pm_is_number an_is_number cd_is_number ct_is_number), sl_is_number⟩)
  (c_is_number : PySem.W.codeIn K cd_is_number "is_number" = true)
  (k_is_number : PySem.W.keepIn K (.ref f_is_number) = true)
  (a_read_ratio : PySem.W.nsIn K mainGlobals "read_ratio" = some (some (.ref f_read_ratio)))
  (l_read_ratio : K.lookup f_read_ratio = some ⟨oc_read_ratio, od_read_ratio, .func (PySem.W.fnOf "read_ratio" "read_ratio" (defArgs st_read_ratio) (defBody st_read_ratio) (defScope st_read_ratio) .none kV_read_ratio dc_read_ratio pm_read_ratio an_read_ratio cd_read_ratio ct_read_ratio), sl_read_ratio⟩)
  (c_read_ratio : PySem.W.codeIn K cd_read_ratio "read_ratio" = true)
  (k_read_ratio : PySem.W.keepIn K (.ref f_read_ratio) = true)
  (a_law_told : PySem.W.nsIn K mainGlobals "_law_told" = some (some (.ref f_law_told)))
  (l_law_told : K.lookup f_law_told = some ⟨oc_law_told, od_law_told, .func (PySem.W.fnOf "_law_told" "_law_told" (defArgs st_law_told) (defBody st_law_told) (defScope st_law_told) .none kV_law_told dc_law_told pm_law_told an_law_told cd_law_told ct_law_told), sl_law_told⟩)
  (c_law_told : PySem.W.codeIn K cd_law_told "_law_told" = true)
  (k_law_told : PySem.W.keepIn K (.ref f_law_told) = true)
  (a_law_all_malformed : PySem.W.nsIn K mainGlobals "_law_all_malformed" = some (some (.ref f_law_all_malformed)))
  (l_law_all_malformed : K.lookup f_law_all_malformed = some ⟨oc_law_all_malformed, od_law_all_malformed, .func (PySem.W.fnOf "_law_all_malformed" "_law_all_malformed" (defArgs st_law_all_malformed) (defBody st_law_all_malformed) (defScope st_law_all_malformed) .none kV_law_all_malformed dc_law_all_malformed pm_law_all_malformed an_law_all_malformed cd_law_all_malformed ct_law_all_malformed), sl_law_all_malformed⟩)
  (c_law_all_malformed : PySem.W.codeIn K cd_law_all_malformed "_law_all_malformed" = true)
  (k_law_all_malformed : PySem.W.keepIn K (.ref f_law_all_malformed) = true)
  (a_m_neg : PySem.W.findIn K (.ref C0) "__neg__" = some (some (.ref f_m_neg)))
  (i_m_neg : PySem.W.isFn K (.ref f_m_neg) = true)
  (l_m_neg : K.lookup f_m_neg = some ⟨oc_m_neg, od_m_neg, .func (PySem.W.fnOf "__neg__" "Ratio.__neg__" (defArgs st_m_neg) (defBody st_m_neg) (defScope st_m_neg) .none kV_m_neg dc_m_neg pm_m_neg an_m_neg cd_m_neg ct_m_neg), sl_m_neg⟩)
  (c_m_neg : PySem.W.codeIn K cd_m_neg "Ratio.__neg__" = true)
  (k_m_neg : PySem.W.keepIn K (.ref f_m_neg) = true)
  (a_law_common : PySem.W.nsIn K mainGlobals "_law_common" = some (some (.ref f_law_common)))
  (l_law_common : K.lookup f_law_common = some ⟨oc_law_common, od_law_common, .func (PySem.W.fnOf "_law_common" "_law_common" (defArgs st_law_common) (defBody st_law_common) (defScope st_law_common) .none kV_law_common dc_law_common pm_law_common an_law_common cd_law_common ct_law_common), sl_law_common⟩)
  (c_law_common : PySem.W.codeIn K cd_law_common "_law_common" = true)
  (k_law_common : PySem.W.keepIn K (.ref f_law_common) = true)
  (a_law_plain : PySem.W.nsIn K mainGlobals "_law_plain" = some (some (.ref f_law_plain)))
  (l_law_plain : K.lookup f_law_plain = some ⟨oc_law_plain, od_law_plain, .func (PySem.W.fnOf "_law_plain" "_law_plain" (defArgs st_law_plain) (defBody st_law_plain) (defScope st_law_plain) .none kV_law_plain dc_law_plain pm_law_plain an_law_plain cd_law_plain ct_law_plain), sl_law_plain⟩)
  (c_law_plain : PySem.W.codeIn K cd_law_plain "_law_plain" = true)
  (k_law_plain : PySem.W.keepIn K (.ref f_law_plain) = true)
  (a_law_is_whole : PySem.W.nsIn K mainGlobals "_law_is_whole" = some (some (.ref f_law_is_whole)))
  (l_law_is_whole : K.lookup f_law_is_whole = some ⟨oc_law_is_whole, od_law_is_whole, .func (PySem.W.fnOf "_law_is_whole" "_law_is_whole" (defArgs st_law_is_whole) (defBody st_law_is_whole) (defScope st_law_is_whole) .none kV_law_is_whole dc_law_is_whole pm_law_is_whole an_law_is_whole cd_law_is_whole ct_law_is_whole), sl_law_is_whole⟩)
  (c_law_is_whole : PySem.W.codeIn K cd_law_is_whole "_law_is_whole" = true)
  (k_law_is_whole : PySem.W.keepIn K (.ref f_law_is_whole) = true)
  (a_law_same : PySem.W.nsIn K mainGlobals "_law_same" = some (some (.ref f_law_same)))
  (l_law_same : K.lookup f_law_same = some ⟨oc_law_same, od_law_same, .func (PySem.W.fnOf "_law_same" "_law_same" (defArgs st_law_same) (defBody st_law_same) (defScope st_law_same) .none kV_law_same dc_law_same pm_law_same an_law_same cd_law_same ct_law_same), sl_law_same⟩)
  (c_law_same : PySem.W.codeIn K cd_law_same "_law_same" = true)
  (k_law_same : PySem.W.keepIn K (.ref f_law_same) = true)
  (a_law_is : PySem.W.nsIn K mainGlobals "_law_is" = some (some (.ref f_law_is)))
  (l_law_is : K.lookup f_law_is = some ⟨oc_law_is, od_law_is, .func (PySem.W.fnOf "_law_is" "_law_is" (defArgs st_law_is) (defBody st_law_is) (defScope st_law_is) .none kV_law_is dc_law_is pm_law_is an_law_is cd_law_is ct_law_is), sl_law_is⟩)
  (c_law_is : PySem.W.codeIn K cd_law_is "_law_is" = true)
  (k_law_is : PySem.W.keepIn K (.ref f_law_is) = true)
  (a_law_reads_itself : PySem.W.nsIn K mainGlobals "_law_reads_itself" = some (some (.ref f_law_reads_itself)))
  (l_law_reads_itself : K.lookup f_law_reads_itself = some ⟨oc_law_reads_itself, od_law_reads_itself, .func (PySem.W.fnOf "_law_reads_itself" "_law_reads_itself" (defArgs st_law_reads_itself) (defBody st_law_reads_itself) (defScope st_law_reads_itself) .none kV_law_reads_itself dc_law_reads_itself pm_law_reads_itself an_law_reads_itself cd_law_reads_itself ct_law_reads_itself), sl_law_reads_itself⟩)
  (c_law_reads_itself : PySem.W.codeIn K cd_law_reads_itself "_law_reads_itself" = true)
  (k_law_reads_itself : PySem.W.keepIn K (.ref f_law_reads_itself) = true)
  (a_law_take : PySem.W.nsIn K mainGlobals "_law_take" = some (some (.ref f_law_take)))
  (l_law_take : K.lookup f_law_take = some ⟨oc_law_take, od_law_take, .func (PySem.W.fnOf "_law_take" "_law_take" (defArgs st_law_take) (defBody st_law_take) (defScope st_law_take) .none kV_law_take dc_law_take pm_law_take an_law_take cd_law_take ct_law_take), sl_law_take⟩)
  (c_law_take : PySem.W.codeIn K cd_law_take "_law_take" = true)
  (k_law_take : PySem.W.keepIn K (.ref f_law_take) = true)
  (a_m_is_whole : PySem.W.findIn K (.ref C0) "is_whole" = some (some (.ref f_m_is_whole)))
  (i_m_is_whole : PySem.W.isFn K (.ref f_m_is_whole) = true)
  (l_m_is_whole : K.lookup f_m_is_whole = some ⟨oc_m_is_whole, od_m_is_whole, .func (PySem.W.fnOf "is_whole" "Ratio.is_whole" (defArgs st_m_is_whole) (defBody st_m_is_whole) (defScope st_m_is_whole) .none kV_m_is_whole dc_m_is_whole pm_m_is_whole an_m_is_whole cd_m_is_whole ct_m_is_whole), sl_m_is_whole⟩)
  (c_m_is_whole : PySem.W.codeIn K cd_m_is_whole "Ratio.is_whole" = true)
  (k_m_is_whole : PySem.W.keepIn K (.ref f_m_is_whole) = true)
  (a_law_says : PySem.W.nsIn K mainGlobals "_law_says" = some (some (.ref f_law_says)))
  (l_law_says : K.lookup f_law_says = some ⟨oc_law_says, od_law_says, .func (PySem.W.fnOf "_law_says" "_law_says" (defArgs st_law_says) (defBody st_law_says) (defScope st_law_says) .none kV_law_says dc_law_says pm_law_says an_law_says cd_law_says ct_law_says), sl_law_says⟩)
  (c_law_says : PySem.W.codeIn K cd_law_says "_law_says" = true)
  (k_law_says : PySem.W.keepIn K (.ref f_law_says) = true)
  (a_m_floor : PySem.W.findIn K (.ref C0) "floor" = some (some (.ref f_m_floor)))
  (i_m_floor : PySem.W.isFn K (.ref f_m_floor) = true)
  (l_m_floor : K.lookup f_m_floor = some ⟨oc_m_floor, od_m_floor, .func (PySem.W.fnOf "floor" "Ratio.floor" (defArgs st_m_floor) (defBody st_m_floor) (defScope st_m_floor) .none kV_m_floor dc_m_floor pm_m_floor an_m_floor cd_m_floor ct_m_floor), sl_m_floor⟩)
  (c_m_floor : PySem.W.codeIn K cd_m_floor "Ratio.floor" = true)
  (k_m_floor : PySem.W.keepIn K (.ref f_m_floor) = true)
  (a_m_sign : PySem.W.findIn K (.ref C0) "sign" = some (some (.ref f_m_sign)))
  (i_m_sign : PySem.W.isFn K (.ref f_m_sign) = true)
  (l_m_sign : K.lookup f_m_sign = some ⟨oc_m_sign, od_m_sign, .func (PySem.W.fnOf "sign" "Ratio.sign" (defArgs st_m_sign) (defBody st_m_sign) (defScope st_m_sign) .none kV_m_sign dc_m_sign pm_m_sign an_m_sign cd_m_sign ct_m_sign), sl_m_sign⟩)
  (c_m_sign : PySem.W.codeIn K cd_m_sign "Ratio.sign" = true)
  (k_m_sign : PySem.W.keepIn K (.ref f_m_sign) = true)
  (a_law_pair : PySem.W.nsIn K mainGlobals "_law_pair" = some (some (.ref f_law_pair)))
  (l_law_pair : K.lookup f_law_pair = some ⟨oc_law_pair, od_law_pair, .func (PySem.W.fnOf "_law_pair" "_law_pair" (defArgs st_law_pair) (defBody st_law_pair) (defScope st_law_pair) .none kV_law_pair dc_law_pair pm_law_pair an_law_pair cd_law_pair ct_law_pair), sl_law_pair⟩)
  (c_law_pair : PySem.W.codeIn K cd_law_pair "_law_pair" = true)
  (k_law_pair : PySem.W.keepIn K (.ref f_law_pair) = true)
  (a_law_ops_hold : PySem.W.nsIn K mainGlobals "_law_ops_hold" = some (some (.ref f_law_ops_hold)))
  (l_law_ops_hold : K.lookup f_law_ops_hold = some ⟨oc_law_ops_hold, od_law_ops_hold, .func (PySem.W.fnOf "_law_ops_hold" "_law_ops_hold" (defArgs st_law_ops_hold) (defBody st_law_ops_hold) (defScope st_law_ops_hold) .none kV_law_ops_hold dc_law_ops_hold pm_law_ops_hold an_law_ops_hold cd_law_ops_hold ct_law_ops_hold), sl_law_ops_hold⟩)
  (c_law_ops_hold : PySem.W.codeIn K cd_law_ops_hold "_law_ops_hold" = true)
  (k_law_ops_hold : PySem.W.keepIn K (.ref f_law_ops_hold) = true)
  (a_ratio_sum : PySem.W.nsIn K mainGlobals "ratio_sum" = some (some (.ref f_ratio_sum)))
  (l_ratio_sum : K.lookup f_ratio_sum = some ⟨oc_ratio_sum, od_ratio_sum, .func (PySem.W.fnOf "ratio_sum" "ratio_sum" (defArgs st_ratio_sum) (defBody st_ratio_sum) (defScope st_ratio_sum) .none kV_ratio_sum dc_ratio_sum pm_ratio_sum an_ratio_sum cd_ratio_sum ct_ratio_sum), sl_ratio_sum⟩)
  (c_ratio_sum : PySem.W.codeIn K cd_ratio_sum "ratio_sum" = true)
  (k_ratio_sum : PySem.W.keepIn K (.ref f_ratio_sum) = true)
  (a_ratio_dot : PySem.W.nsIn K mainGlobals "ratio_dot" = some (some (.ref f_ratio_dot)))
  (l_ratio_dot : K.lookup f_ratio_dot = some ⟨oc_ratio_dot, od_ratio_dot, .func (PySem.W.fnOf "ratio_dot" "ratio_dot" (defArgs st_ratio_dot) (defBody st_ratio_dot) (defScope st_ratio_dot) .none kV_ratio_dot dc_ratio_dot pm_ratio_dot an_ratio_dot cd_ratio_dot ct_ratio_dot), sl_ratio_dot⟩)
  (c_ratio_dot : PySem.W.codeIn K cd_ratio_dot "ratio_dot" = true)
  (k_ratio_dot : PySem.W.keepIn K (.ref f_ratio_dot) = true)
  (a_law_sums_hold : PySem.W.nsIn K mainGlobals "_law_sums_hold" = some (some (.ref f_law_sums_hold)))
  (l_law_sums_hold : K.lookup f_law_sums_hold = some ⟨oc_law_sums_hold, od_law_sums_hold, .func (PySem.W.fnOf "_law_sums_hold" "_law_sums_hold" (defArgs st_law_sums_hold) (defBody st_law_sums_hold) (defScope st_law_sums_hold) .none kV_law_sums_hold dc_law_sums_hold pm_law_sums_hold an_law_sums_hold cd_law_sums_hold ct_law_sums_hold), sl_law_sums_hold⟩)
  (c_law_sums_hold : PySem.W.codeIn K cd_law_sums_hold "_law_sums_hold" = true)
  (k_law_sums_hold : PySem.W.keepIn K (.ref f_law_sums_hold) = true)
  (pg : PySem.W.plainGet K C0 Str.empty = true)
  (hd : PySem.W.hasDictIn K C0 = true)
  (po : PySem.W.plainOver K C0 = true)
  (sa : PySem.W.findIn K (.ref C0) "__setattr__" = some (some (.builtin "object.__setattr__")))
  (nn : PySem.W.findIn K (.ref C0) "n" = some none)
  (ndd : PySem.W.findIn K (.ref C0) "d" = some none)
  (ha : PySem.W.findIn K (.ref C0) "__class__" = some (some (.builtin "object.__class__")))
  (hm : PySem.W.mroIn K C0 (.type "object") = some true)
  (hn : PySem.W.specialIn K (.builtin "object.__class__") "__get__" = some (some (.builtin "getset_descriptor.__get__")))
  (htk : PySem.W.takesIn K (.builtin "object.__class__") = some true)
  (sf : PySem.W.selfFirst K C0 = true)
  (nm : PySem.W.notFirst K C0 (.ref C0) = true)
  (ic0 : PySem.W.isClsIn K C0 = true)
  (ty0 : PySem.W.typeIn K (.ref C0) = some (.type "type"))
  (kt_int : PySem.W.subIn K (.ref C0) (.type "int") = some false)
  (kt_bool : PySem.W.subIn K (.ref C0) (.type "bool") = some false)
  (kt_str : PySem.W.subIn K (.ref C0) (.type "str") = some false)
  (kt_tuple : PySem.W.subIn K (.ref C0) (.type "tuple") = some false)
  (kt_list : PySem.W.subIn K (.ref C0) (.type "list") = some false)
  (kt_dict : PySem.W.subIn K (.ref C0) (.type "dict") = some false)
  (sb_NoneType : PySem.W.subIn K (.type "NoneType") (.ref C0) = some false)
  (nf_NoneType : PySem.W.notFirst K C0 (.type "NoneType") = true)
  (sb_bool : PySem.W.subIn K (.type "bool") (.ref C0) = some false)
  (nf_bool : PySem.W.notFirst K C0 (.type "bool") = true)
  (sb_int : PySem.W.subIn K (.type "int") (.ref C0) = some false)
  (nf_int : PySem.W.notFirst K C0 (.type "int") = true)
  (sb_str : PySem.W.subIn K (.type "str") (.ref C0) = some false)
  (nf_str : PySem.W.notFirst K C0 (.type "str") = true)
  (sb_tuple : PySem.W.subIn K (.type "tuple") (.ref C0) = some false)
  (nf_tuple : PySem.W.notFirst K C0 (.type "tuple") = true)
  (sb_list : PySem.W.subIn K (.type "list") (.ref C0) = some false)
  (nf_list : PySem.W.notFirst K C0 (.type "list") = true)
  (r_add : PySem.W.findIn K (.ref C0) "__radd__" = some none)
  (r_sub : PySem.W.findIn K (.ref C0) "__rsub__" = some none)
  (r_mul : PySem.W.findIn K (.ref C0) "__rmul__" = some none)
  (aF : PySem.W.nsIn K mainGlobals "Fault" = some (some (.ref CF)))
  (gaF : PySem.W.specialIn K (.ref CF) "__getattribute__" = some (some (.builtin "type.__getattribute__")))
  (rdF : PySem.W.readsIn K CF (.type "type") = true)
  (atF : PySem.W.findCls K (.ref CF) (.type "type") "__init__" = some (.val (.builtin "Exception.__init__")))
  (a_x2 : PySem.W.nsIn K mainGlobals "Malformed" = some (some (.ref C2)))
  (o_x2 : K.lookup C2 = some (excClassObj nm_x2 q_x2 C2 N_x2 bs_x2 [.ref CF, .type "Exception", .type "BaseException", .type "object"] true sn_x2 sub_x2 ab_x2 col_x2 dd_x2 m0_x2 m1_x2 m2_x2 m3_x2 m5_x2 "Exception.__new__"))
  (sa_x2 : PySem.W.findIn K (.ref C2) "__setattr__" = some (some (.builtin "object.__setattr__")))
  (ex_x2 : PySem.W.subIn K (.ref C2) (.type "BaseException") = some true)
  (ty_x2 : PySem.W.typeIn K (.ref C2) = some (.type "type"))
  (kp_x2 : PySem.W.keepIn K (.ref C2) = true)
  (ga_x2 : PySem.W.findIn K (.ref C2) "__getattribute__" = some (some (.builtin "BaseException.__getattribute__")))
  (gg_x2 : PySem.W.findIn K (.ref C2) "__getattr__" = some none)
  (no_x2 : PySem.W.findIn K (.ref C2) "reason" = some none)
  (hd_x2 : PySem.W.hasDictIn K C2 = true)
  (ic_x2 : PySem.W.isClsIn K C2 = true)
  (s2_x2 : PySem.W.subIn K (.ref C2) (.ref C2) = some true)
  (s3_x2 : PySem.W.subIn K (.ref C2) (.ref C3) = some false)
  (s4_x2 : PySem.W.subIn K (.ref C2) (.ref C4) = some false)
  (b_x2 : PySem.W.findIn K (.ref C2) "__init__" = some (some (.ref f_x2)))
  (t_x2 : PySem.W.typeIn K (.ref f_x2) = some (.type "function"))
  (l_x2 : K.lookup f_x2 = some ⟨oc_x2, od_x2, .func (PySem.W.fnOf "__init__" "Malformed.__init__" (defArgs st_x_Malformed) (defBody st_x_Malformed) (defScope st_x_Malformed) .none kV_x2 dc_x2 pm_x2 an_x2 cd_x2 ct_x2), sl_x2⟩)
  (c_x2 : PySem.W.codeIn K cd_x2 "Malformed.__init__" = true)
  (k_x2 : PySem.W.keepIn K (.ref f_x2) = true)
  (a_x3 : PySem.W.nsIn K mainGlobals "Refused" = some (some (.ref C3)))
  (o_x3 : K.lookup C3 = some (excClassObj nm_x3 q_x3 C3 N_x3 bs_x3 [.ref CF, .type "Exception", .type "BaseException", .type "object"] true sn_x3 sub_x3 ab_x3 col_x3 dd_x3 m0_x3 m1_x3 m2_x3 m3_x3 m5_x3 "Exception.__new__"))
  (sa_x3 : PySem.W.findIn K (.ref C3) "__setattr__" = some (some (.builtin "object.__setattr__")))
  (ex_x3 : PySem.W.subIn K (.ref C3) (.type "BaseException") = some true)
  (ty_x3 : PySem.W.typeIn K (.ref C3) = some (.type "type"))
  (kp_x3 : PySem.W.keepIn K (.ref C3) = true)
  (ga_x3 : PySem.W.findIn K (.ref C3) "__getattribute__" = some (some (.builtin "BaseException.__getattribute__")))
  (gg_x3 : PySem.W.findIn K (.ref C3) "__getattr__" = some none)
  (no_x3 : PySem.W.findIn K (.ref C3) "reason" = some none)
  (hd_x3 : PySem.W.hasDictIn K C3 = true)
  (ic_x3 : PySem.W.isClsIn K C3 = true)
  (s2_x3 : PySem.W.subIn K (.ref C3) (.ref C2) = some false)
  (s3_x3 : PySem.W.subIn K (.ref C3) (.ref C3) = some true)
  (s4_x3 : PySem.W.subIn K (.ref C3) (.ref C4) = some false)
  (b_x3 : PySem.W.findIn K (.ref C3) "__init__" = some (some (.ref f_x3)))
  (t_x3 : PySem.W.typeIn K (.ref f_x3) = some (.type "function"))
  (l_x3 : K.lookup f_x3 = some ⟨oc_x3, od_x3, .func (PySem.W.fnOf "__init__" "Refused.__init__" (defArgs st_x_Refused) (defBody st_x_Refused) (defScope st_x_Refused) .none kV_x3 dc_x3 pm_x3 an_x3 cd_x3 ct_x3), sl_x3⟩)
  (c_x3 : PySem.W.codeIn K cd_x3 "Refused.__init__" = true)
  (k_x3 : PySem.W.keepIn K (.ref f_x3) = true)
  (a_x4 : PySem.W.nsIn K mainGlobals "NoText" = some (some (.ref C4)))
  (o_x4 : K.lookup C4 = some (excClassObj nm_x4 q_x4 C4 N_x4 bs_x4 [.ref CF, .type "Exception", .type "BaseException", .type "object"] true sn_x4 sub_x4 ab_x4 col_x4 dd_x4 m0_x4 m1_x4 m2_x4 m3_x4 m5_x4 "Exception.__new__"))
  (sa_x4 : PySem.W.findIn K (.ref C4) "__setattr__" = some (some (.builtin "object.__setattr__")))
  (ex_x4 : PySem.W.subIn K (.ref C4) (.type "BaseException") = some true)
  (ty_x4 : PySem.W.typeIn K (.ref C4) = some (.type "type"))
  (kp_x4 : PySem.W.keepIn K (.ref C4) = true)
  (ga_x4 : PySem.W.findIn K (.ref C4) "__getattribute__" = some (some (.builtin "BaseException.__getattribute__")))
  (gg_x4 : PySem.W.findIn K (.ref C4) "__getattr__" = some none)
  (no_x4 : PySem.W.findIn K (.ref C4) "at" = some none)
  (hd_x4 : PySem.W.hasDictIn K C4 = true)
  (ic_x4 : PySem.W.isClsIn K C4 = true)
  (s2_x4 : PySem.W.subIn K (.ref C4) (.ref C2) = some false)
  (s3_x4 : PySem.W.subIn K (.ref C4) (.ref C3) = some false)
  (s4_x4 : PySem.W.subIn K (.ref C4) (.ref C4) = some true)
  (b_x4 : PySem.W.findIn K (.ref C4) "__init__" = some (some (.ref f_x4)))
  (t_x4 : PySem.W.typeIn K (.ref f_x4) = some (.type "function"))
  (l_x4 : K.lookup f_x4 = some ⟨oc_x4, od_x4, .func (PySem.W.fnOf "__init__" "NoText.__init__" (defArgs st_x_NoText) (defBody st_x_NoText) (defScope st_x_NoText) .none kV_x4 dc_x4 pm_x4 an_x4 cd_x4 ct_x4), sl_x4⟩)
  (c_x4 : PySem.W.codeIn K cd_x4 "NoText.__init__" = true)
  (k_x4 : PySem.W.keepIn K (.ref f_x4) = true)
  (v_DIGITS : PySem.W.nsIn K mainGlobals "DIGITS" = some (some (.str "0123456789" tk_DIGITS)))
  (v_MOST_SIGNS : PySem.W.nsIn K mainGlobals "MOST_SIGNS" = some (some (.int 2000 tk_MOST_SIGNS)))
  (z_len : PySem.W.nsIn K mainGlobals "len" = some none)
  (z_range : PySem.W.nsIn K mainGlobals "range" = some none)
  (z_zip : PySem.W.nsIn K mainGlobals "zip" = some none)
  (z_enumerate : PySem.W.nsIn K mainGlobals "enumerate" = some none)
  (z_tuple : PySem.W.nsIn K mainGlobals "tuple" = some none)
  (z_list : PySem.W.nsIn K mainGlobals "list" = some none)
  (z_dict : PySem.W.nsIn K mainGlobals "dict" = some none)
  (z_isinstance : PySem.W.nsIn K mainGlobals "isinstance" = some none)
  (z_abs : PySem.W.nsIn K mainGlobals "abs" = some none)
  (z_max : PySem.W.nsIn K mainGlobals "max" = some none)
  (z_min : PySem.W.nsIn K mainGlobals "min" = some none)
  (z_all : PySem.W.nsIn K mainGlobals "all" = some none)
  (z_any : PySem.W.nsIn K mainGlobals "any" = some none)
  (z_sum : PySem.W.nsIn K mainGlobals "sum" = some none)
  (z_int : PySem.W.nsIn K mainGlobals "int" = some none)
  (z_str : PySem.W.nsIn K mainGlobals "str" = some none)
  (z_sorted : PySem.W.nsIn K mainGlobals "sorted" = some none)
  (z_set : PySem.W.nsIn K mainGlobals "set" = some none)
  (z_bool : PySem.W.nsIn K mainGlobals "bool" = some none)
  (dig : PySem.W.nsIn K cStatics "sys.int_max_str_digits" = some none)
  (a_S : PySem.W.nsIn K mainGlobals "_law_state" = some (some (.ref fS)))
  (l_S : K.lookup fS = some ⟨oc_S, od_S, .func (PySem.W.fnOf "_law_state" "_law_state" (defArgs st__law_state) (defBody st__law_state) (defScope st__law_state) .none kV_S dc_S pm_S an_S cd_S ct_S), sl_S⟩)
  (c_S : PySem.W.codeIn K cd_S "_law_state" = true)
  (k_S : PySem.W.keepIn K (.ref fS) = true)
  (l_L : K.lookup fL = some ⟨oc_L, od_L, .func (PySem.W.fnOf "law" "law" (defArgs st_law) (defBody st_law) (defScope st_law) .none kV_L dc_L pm_L an_L cd_L ct_L), sl_L⟩)
  (c_L : PySem.W.codeIn K cd_L "law" = true)
  (k_L : PySem.W.keepIn K (.ref fL) = true)
  (a_L : PySem.W.nsIn K mainGlobals "law" = some (some (.ref fL))) :
  ∃ fd : FuncData, (∀ (s : Shared) (v : Value), BindsTo s fd ⟨[v], []⟩ [("script", v)]) ∧ ∀ base : Heap, K.In base → base.Ns mainGlobals mg → FnOk P w K mg base CX0 (l_law + 1) fa fd ["script"] (spLaw K) := by
  have e := hfa.symm.trans (PySem.W.mg_of X N a_L)
  cases e
  refine ⟨PySem.W.fnOf "law" "law" (defArgs st_law) (defBody st_law) (defScope st_law) .none kV_L dc_L pm_L an_L cd_L ct_L, fun s v => .of_eq (by kernel_rfl), fun base _ _ => ?_⟩
  have all := fun l => all_at (P := P) (w := w) (base := base) X N aRatio a_are_ratios l_are_ratios c_are_ratios k_are_ratios a_m_eq i_m_eq l_m_eq c_m_eq k_m_eq a_common l_common c_common k_common a_is_integer l_is_integer c_is_integer k_is_integer a_init i_init l_init c_init k_init l_TD mk kc a_law_made l_law_made c_law_made k_law_made a_check_ratio l_check_ratio c_check_ratio k_check_ratio a_m_over i_m_over l_m_over c_m_over k_m_over a_law_over l_law_over c_law_over k_law_over a_m_mul i_m_mul l_m_mul c_m_mul k_m_mul a_m_less i_m_less l_m_less c_m_less k_m_less a_m_sub i_m_sub l_m_sub c_m_sub k_m_sub a_m_add i_m_add l_m_add c_m_add k_m_add a_law_act l_law_act c_law_act k_law_act a_as_ratio l_as_ratio c_as_ratio k_as_ratio a_ratio_text l_ratio_text c_ratio_text k_ratio_text a_is_number l_is_number c_is_number k_is_number a_read_ratio l_read_ratio c_read_ratio k_read_ratio a_law_told l_law_told c_law_told k_law_told a_law_all_malformed l_law_all_malformed c_law_all_malformed k_law_all_malformed a_m_neg i_m_neg l_m_neg c_m_neg k_m_neg a_law_common l_law_common c_law_common k_law_common a_law_plain l_law_plain c_law_plain k_law_plain a_law_is_whole l_law_is_whole c_law_is_whole k_law_is_whole a_law_same l_law_same c_law_same k_law_same a_law_is l_law_is c_law_is k_law_is a_law_reads_itself l_law_reads_itself c_law_reads_itself k_law_reads_itself a_law_take l_law_take c_law_take k_law_take a_m_is_whole i_m_is_whole l_m_is_whole c_m_is_whole k_m_is_whole a_law_says l_law_says c_law_says k_law_says a_m_floor i_m_floor l_m_floor c_m_floor k_m_floor a_m_sign i_m_sign l_m_sign c_m_sign k_m_sign a_law_pair l_law_pair c_law_pair k_law_pair a_law_ops_hold l_law_ops_hold c_law_ops_hold k_law_ops_hold a_ratio_sum l_ratio_sum c_ratio_sum k_ratio_sum a_ratio_dot l_ratio_dot c_ratio_dot k_ratio_dot a_law_sums_hold l_law_sums_hold c_law_sums_hold k_law_sums_hold pg hd po sa nn ndd ha hm hn htk sf nm ic0 ty0 kt_int kt_bool kt_str kt_tuple kt_list kt_dict sb_NoneType nf_NoneType sb_bool nf_bool sb_int nf_int sb_str nf_str sb_tuple nf_tuple sb_list nf_list r_add r_sub r_mul aF gaF rdF atF a_x2 o_x2 sa_x2 ex_x2 ty_x2 kp_x2 ga_x2 gg_x2 no_x2 hd_x2 ic_x2 s2_x2 s3_x2 s4_x2 b_x2 t_x2 l_x2 c_x2 k_x2 a_x3 o_x3 sa_x3 ex_x3 ty_x3 kp_x3 ga_x3 gg_x3 no_x3 hd_x3 ic_x3 s2_x3 s3_x3 s4_x3 b_x3 t_x3 l_x3 c_x3 k_x3 a_x4 o_x4 sa_x4 ex_x4 ty_x4 kp_x4 ga_x4 gg_x4 no_x4 hd_x4 ic_x4 s2_x4 s3_x4 s4_x4 b_x4 t_x4 l_x4 c_x4 k_x4 v_DIGITS v_MOST_SIGNS z_len z_range z_zip z_enumerate z_tuple z_list z_dict z_isinstance z_abs z_max z_min z_all z_any z_sum z_int z_str z_sorted z_set z_bool dig a_S l_S c_S k_S l_L c_L k_L a_L l
  have FS := fun_mk (st := st__law_state) l_S c_S k_S
  exact law_sound (G := wd P w K mg base C0 C2 C3 C4) (N := N_law) (b := b_law) (k := l_law) (fun_mk (st := st_law) l_L c_L k_L) s_law e_law (by decide +kernel) (by decide +kernel) (by decide +kernel) (by decide) w_law (fun l => o_law (all l)) (all 0).bl (by decide)
    (st_ok state_t FS (all 0).bl) (PySem.W.mg_of X N a_S) k_S (FS.binds (ps := ["script"]) fun _ _ _ _ _ _ us hl => match us, hl with | [_], _ => by kernel_rfl) true_
end
theorem walk {l : PySem.W.OpenLaw} {q : Program} {loose : List Str} {XP : (Str → Option Value) → Heap → Prop} {YP : World → Heap → Prop} {d : DefRec} {K : Params → PySem.W.Frag} (hn : l.most = some 63) (hdf : d.params.defaults = [])
    (hY : ∀ (w : World) (h : Heap), YP w h → (K w.params).In h)
    (F : ∀ (w : World) (mg : Str → Option Value) (fa : Addr) (h : Heap), (K w.params).In h → h.Ns mainGlobals mg → mg d.name = some (.ref fa) →
      ∃ fd : FuncData, (∀ (s : Shared) (u : Value), BindsTo s fd ⟨[u], []⟩ [("script", u)]) ∧ ∀ base : Heap, (K w.params).In base → base.Ns mainGlobals mg → FnOk l.prog w (K w.params) mg base CX0 (l_law + 1) fa fd ["script"] (spLaw (K w.params))) :
    PySem.W.WalkO q loose XP YP l.row.toRowW d [] (fun f vs => PySem.call f vs) :=
  L2.walk_of (n := 63) (k := l_law + 1) (x := "script") (CX := fun _ => CX0) (sp := fun w => spLaw (K w.params)) hn (by decide) hdf ⟨rfl, by decide, by decide⟩ hY F
    (fun _ _ a ns hl _ hS => ⟨a, ns, rfl, hS, hl, fun _ => rfl⟩) fun _ _ _ _ _ z => z
end Dn.K00
open PySem PySem.W PyProof.Rows
set_option maxRecDepth 100000 in
set_option maxHeartbeats 0 in
theorem PySem.Challenge.cw_fewestpowers_k00_whole_fractions_holds : PySem.Challenge.rw_fewestpowers_k00_whole_fractions.Holds := by
  w_on; o_law; k_head; (case hw => w_witness2)
  k_fill
  refine Dn.K00.walk (l := PySem.Challenge.rw_fewestpowers_k00_whole_fractions) rfl rfl (fun w h Y => PySem.W.kIn_of Y) ?F
  case F =>
    intro w mg fa h KX G hmg
    refine' Dn.K00.law_ok Dn.K00.law_true KX G hmg ?aRatio ?a_are_ratios ?l_are_ratios ?c_are_ratios ?k_are_ratios ?a_m_eq ?i_m_eq ?l_m_eq ?c_m_eq ?k_m_eq ?a_common ?l_common ?c_common ?k_common ?a_is_integer ?l_is_integer ?c_is_integer ?k_is_integer ?a_init ?i_init ?l_init ?c_init ?k_init ?l_TD ?mk ?kc ?a_law_made ?l_law_made ?c_law_made ?k_law_made ?a_check_ratio ?l_check_ratio ?c_check_ratio ?k_check_ratio ?a_m_over ?i_m_over ?l_m_over ?c_m_over ?k_m_over ?a_law_over ?l_law_over ?c_law_over ?k_law_over ?a_m_mul ?i_m_mul ?l_m_mul ?c_m_mul ?k_m_mul ?a_m_less ?i_m_less ?l_m_less ?c_m_less ?k_m_less ?a_m_sub ?i_m_sub ?l_m_sub ?c_m_sub ?k_m_sub ?a_m_add ?i_m_add ?l_m_add ?c_m_add ?k_m_add ?a_law_act ?l_law_act ?c_law_act ?k_law_act ?a_as_ratio ?l_as_ratio ?c_as_ratio ?k_as_ratio ?a_ratio_text ?l_ratio_text ?c_ratio_text ?k_ratio_text ?a_is_number ?l_is_number ?c_is_number ?k_is_number ?a_read_ratio ?l_read_ratio ?c_read_ratio ?k_read_ratio ?a_law_told ?l_law_told ?c_law_told ?k_law_told ?a_law_all_malformed ?l_law_all_malformed ?c_law_all_malformed ?k_law_all_malformed ?a_m_neg ?i_m_neg ?l_m_neg ?c_m_neg ?k_m_neg ?a_law_common ?l_law_common ?c_law_common ?k_law_common ?a_law_plain ?l_law_plain ?c_law_plain ?k_law_plain ?a_law_is_whole ?l_law_is_whole ?c_law_is_whole ?k_law_is_whole ?a_law_same ?l_law_same ?c_law_same ?k_law_same ?a_law_is ?l_law_is ?c_law_is ?k_law_is ?a_law_reads_itself ?l_law_reads_itself ?c_law_reads_itself ?k_law_reads_itself ?a_law_take ?l_law_take ?c_law_take ?k_law_take ?a_m_is_whole ?i_m_is_whole ?l_m_is_whole ?c_m_is_whole ?k_m_is_whole ?a_law_says ?l_law_says ?c_law_says ?k_law_says ?a_m_floor ?i_m_floor ?l_m_floor ?c_m_floor ?k_m_floor ?a_m_sign ?i_m_sign ?l_m_sign ?c_m_sign ?k_m_sign ?a_law_pair ?l_law_pair ?c_law_pair ?k_law_pair ?a_law_ops_hold ?l_law_ops_hold ?c_law_ops_hold ?k_law_ops_hold ?a_ratio_sum ?l_ratio_sum ?c_ratio_sum ?k_ratio_sum ?a_ratio_dot ?l_ratio_dot ?c_ratio_dot ?k_ratio_dot ?a_law_sums_hold ?l_law_sums_hold ?c_law_sums_hold ?k_law_sums_hold ?pg ?hd ?po ?sa ?nn ?ndd ?ha ?hm ?hn ?htk ?sf ?nm ?ic0 ?ty0 ?kt_int ?kt_bool ?kt_str ?kt_tuple ?kt_list ?kt_dict ?sb_NoneType ?nf_NoneType ?sb_bool ?nf_bool ?sb_int ?nf_int ?sb_str ?nf_str ?sb_tuple ?nf_tuple ?sb_list ?nf_list ?r_add ?r_sub ?r_mul ?aF ?gaF ?rdF ?atF ?a_x2 ?o_x2 ?sa_x2 ?ex_x2 ?ty_x2 ?kp_x2 ?ga_x2 ?gg_x2 ?no_x2 ?hd_x2 ?ic_x2 ?s2_x2 ?s3_x2 ?s4_x2 ?b_x2 ?t_x2 ?l_x2 ?c_x2 ?k_x2 ?a_x3 ?o_x3 ?sa_x3 ?ex_x3 ?ty_x3 ?kp_x3 ?ga_x3 ?gg_x3 ?no_x3 ?hd_x3 ?ic_x3 ?s2_x3 ?s3_x3 ?s4_x3 ?b_x3 ?t_x3 ?l_x3 ?c_x3 ?k_x3 ?a_x4 ?o_x4 ?sa_x4 ?ex_x4 ?ty_x4 ?kp_x4 ?ga_x4 ?gg_x4 ?no_x4 ?hd_x4 ?ic_x4 ?s2_x4 ?s3_x4 ?s4_x4 ?b_x4 ?t_x4 ?l_x4 ?c_x4 ?k_x4 ?v_DIGITS ?v_MOST_SIGNS ?z_len ?z_range ?z_zip ?z_enumerate ?z_tuple ?z_list ?z_dict ?z_isinstance ?z_abs ?z_max ?z_min ?z_all ?z_any ?z_sum ?z_int ?z_str ?z_sorted ?z_set ?z_bool ?dig ?a_S ?l_S ?c_S ?k_S ?l_L ?c_L ?k_L ?a_L
    (case aRatio => k_is)
    (case a_are_ratios => k_is)
    (case a_m_eq => k_is)
    (case a_common => k_is)
    (case a_is_integer => k_is)
    (case a_init => k_is)
    (case a_law_made => k_is)
    (case a_check_ratio => k_is)
    (case a_m_over => k_is)
    (case a_law_over => k_is)
    (case a_m_mul => k_is)
    (case a_m_less => k_is)
    (case a_m_sub => k_is)
    (case a_m_add => k_is)
    (case a_law_act => k_is)
    (case a_as_ratio => k_is)
    (case a_ratio_text => k_is)
    (case a_is_number => k_is)
    (case a_read_ratio => k_is)
    (case a_law_told => k_is)
    (case a_law_all_malformed => k_is)
    (case a_m_neg => k_is)
    (case a_law_common => k_is)
    (case a_law_plain => k_is)
    (case a_law_is_whole => k_is)
    (case a_law_same => k_is)
    (case a_law_is => k_is)
    (case a_law_reads_itself => k_is)
    (case a_law_take => k_is)
    (case a_m_is_whole => k_is)
    (case a_law_says => k_is)
    (case a_m_floor => k_is)
    (case a_m_sign => k_is)
    (case a_law_pair => k_is)
    (case a_law_ops_hold => k_is)
    (case a_ratio_sum => k_is)
    (case a_ratio_dot => k_is)
    (case a_law_sums_hold => k_is)
    (case aF => k_is)
    (case atF => k_is)
    (case a_x2 => k_is)
    (case b_x2 => k_is)
    (case a_x3 => k_is)
    (case b_x3 => k_is)
    (case a_x4 => k_is)
    (case b_x4 => k_is)
    (case a_S => k_is)
    (case a_L => k_is)
    (case l_are_ratios => k_is)
    (case c_are_ratios => k_is)
    (case k_are_ratios => k_is)
    (case i_m_eq => k_is)
    (case l_m_eq => k_is)
    (case c_m_eq => k_is)
    (case k_m_eq => k_is)
    (case l_common => k_is)
    (case c_common => k_is)
    (case k_common => k_is)
    (case l_is_integer => k_is)
    (case c_is_integer => k_is)
    (case k_is_integer => k_is)
    (case i_init => k_is)
    (case l_init => k_is)
    (case c_init => k_is)
    (case k_init => k_is)
    (case l_TD => k_is)
    (case mk => k_is)
    (case kc => k_is)
    (case l_law_made => k_is)
    (case c_law_made => k_is)
    (case k_law_made => k_is)
    (case l_check_ratio => k_is)
    (case c_check_ratio => k_is)
    (case k_check_ratio => k_is)
    (case i_m_over => k_is)
    (case l_m_over => k_is)
    (case c_m_over => k_is)
    (case k_m_over => k_is)
    (case l_law_over => k_is)
    (case c_law_over => k_is)
    (case k_law_over => k_is)
    (case i_m_mul => k_is)
    (case l_m_mul => k_is)
    (case c_m_mul => k_is)
    (case k_m_mul => k_is)
    (case i_m_less => k_is)
    (case l_m_less => k_is)
    (case c_m_less => k_is)
    (case k_m_less => k_is)
    (case i_m_sub => k_is)
    (case l_m_sub => k_is)
    (case c_m_sub => k_is)
    (case k_m_sub => k_is)
    (case i_m_add => k_is)
    (case l_m_add => k_is)
    (case c_m_add => k_is)
    (case k_m_add => k_is)
    (case l_law_act => k_is)
    (case c_law_act => k_is)
    (case k_law_act => k_is)
    (case l_as_ratio => k_is)
    (case c_as_ratio => k_is)
    (case k_as_ratio => k_is)
    (case l_ratio_text => k_is)
    (case c_ratio_text => k_is)
    (case k_ratio_text => k_is)
    (case l_is_number => k_is)
    (case c_is_number => k_is)
    (case k_is_number => k_is)
    (case l_read_ratio => k_is)
    (case c_read_ratio => k_is)
    (case k_read_ratio => k_is)
    (case l_law_told => k_is)
    (case c_law_told => k_is)
    (case k_law_told => k_is)
    (case l_law_all_malformed => k_is)
    (case c_law_all_malformed => k_is)
    (case k_law_all_malformed => k_is)
    (case i_m_neg => k_is)
    (case l_m_neg => k_is)
    (case c_m_neg => k_is)
    (case k_m_neg => k_is)
    (case l_law_common => k_is)
    (case c_law_common => k_is)
    (case k_law_common => k_is)
    (case l_law_plain => k_is)
    (case c_law_plain => k_is)
    (case k_law_plain => k_is)
    (case l_law_is_whole => k_is)
    (case c_law_is_whole => k_is)
    (case k_law_is_whole => k_is)
    (case l_law_same => k_is)
    (case c_law_same => k_is)
    (case k_law_same => k_is)
    (case l_law_is => k_is)
    (case c_law_is => k_is)
    (case k_law_is => k_is)
    (case l_law_reads_itself => k_is)
    (case c_law_reads_itself => k_is)
    (case k_law_reads_itself => k_is)
    (case l_law_take => k_is)
    (case c_law_take => k_is)
    (case k_law_take => k_is)
    (case i_m_is_whole => k_is)
    (case l_m_is_whole => k_is)
    (case c_m_is_whole => k_is)
    (case k_m_is_whole => k_is)
    (case l_law_says => k_is)
    (case c_law_says => k_is)
    (case k_law_says => k_is)
    (case i_m_floor => k_is)
    (case l_m_floor => k_is)
    (case c_m_floor => k_is)
    (case k_m_floor => k_is)
    (case i_m_sign => k_is)
    (case l_m_sign => k_is)
    (case c_m_sign => k_is)
    (case k_m_sign => k_is)
    (case l_law_pair => k_is)
    (case c_law_pair => k_is)
    (case k_law_pair => k_is)
    (case l_law_ops_hold => k_is)
    (case c_law_ops_hold => k_is)
    (case k_law_ops_hold => k_is)
    (case l_ratio_sum => k_is)
    (case c_ratio_sum => k_is)
    (case k_ratio_sum => k_is)
    (case l_ratio_dot => k_is)
    (case c_ratio_dot => k_is)
    (case k_ratio_dot => k_is)
    (case l_law_sums_hold => k_is)
    (case c_law_sums_hold => k_is)
    (case k_law_sums_hold => k_is)
    (case pg => k_is)
    (case hd => k_is)
    (case po => k_is)
    (case sa => k_is)
    (case nn => k_is)
    (case ndd => k_is)
    (case ha => k_is)
    (case hm => k_is)
    (case hn => k_is)
    (case htk => k_is)
    (case sf => k_is)
    (case nm => k_is)
    (case ic0 => k_is)
    (case ty0 => k_is)
    (case kt_int => k_is)
    (case kt_bool => k_is)
    (case kt_str => k_is)
    (case kt_tuple => k_is)
    (case kt_list => k_is)
    (case kt_dict => k_is)
    (case sb_NoneType => k_is)
    (case nf_NoneType => k_is)
    (case sb_bool => k_is)
    (case nf_bool => k_is)
    (case sb_int => k_is)
    (case nf_int => k_is)
    (case sb_str => k_is)
    (case nf_str => k_is)
    (case sb_tuple => k_is)
    (case nf_tuple => k_is)
    (case sb_list => k_is)
    (case nf_list => k_is)
    (case r_add => k_is)
    (case r_sub => k_is)
    (case r_mul => k_is)
    (case gaF => k_is)
    (case rdF => k_is)
    (case o_x2 => k_is)
    (case sa_x2 => k_is)
    (case ex_x2 => k_is)
    (case ty_x2 => k_is)
    (case kp_x2 => k_is)
    (case ga_x2 => k_is)
    (case gg_x2 => k_is)
    (case no_x2 => k_is)
    (case hd_x2 => k_is)
    (case ic_x2 => k_is)
    (case s2_x2 => k_is)
    (case s3_x2 => k_is)
    (case s4_x2 => k_is)
    (case t_x2 => k_is)
    (case l_x2 => k_is)
    (case c_x2 => k_is)
    (case k_x2 => k_is)
    (case o_x3 => k_is)
    (case sa_x3 => k_is)
    (case ex_x3 => k_is)
    (case ty_x3 => k_is)
    (case kp_x3 => k_is)
    (case ga_x3 => k_is)
    (case gg_x3 => k_is)
    (case no_x3 => k_is)
    (case hd_x3 => k_is)
    (case ic_x3 => k_is)
    (case s2_x3 => k_is)
    (case s3_x3 => k_is)
    (case s4_x3 => k_is)
    (case t_x3 => k_is)
    (case l_x3 => k_is)
    (case c_x3 => k_is)
    (case k_x3 => k_is)
    (case o_x4 => k_is)
    (case sa_x4 => k_is)
    (case ex_x4 => k_is)
    (case ty_x4 => k_is)
    (case kp_x4 => k_is)
    (case ga_x4 => k_is)
    (case gg_x4 => k_is)
    (case no_x4 => k_is)
    (case hd_x4 => k_is)
    (case ic_x4 => k_is)
    (case s2_x4 => k_is)
    (case s3_x4 => k_is)
    (case s4_x4 => k_is)
    (case t_x4 => k_is)
    (case l_x4 => k_is)
    (case c_x4 => k_is)
    (case k_x4 => k_is)
    (case v_DIGITS => k_is)
    (case v_MOST_SIGNS => k_is)
    (case z_len => k_is)
    (case z_range => k_is)
    (case z_zip => k_is)
    (case z_enumerate => k_is)
    (case z_tuple => k_is)
    (case z_list => k_is)
    (case z_dict => k_is)
    (case z_isinstance => k_is)
    (case z_abs => k_is)
    (case z_max => k_is)
    (case z_min => k_is)
    (case z_all => k_is)
    (case z_any => k_is)
    (case z_sum => k_is)
    (case z_int => k_is)
    (case z_str => k_is)
    (case z_sorted => k_is)
    (case z_set => k_is)
    (case z_bool => k_is)
    (case dig => k_is)
    (case l_S => k_is)
    (case c_S => k_is)
    (case k_S => k_is)
    (case l_L => k_is)
    (case c_L => k_is)
    (case k_L => k_is)
