import PyProof.Rows.All
import Wide.All
import OpenK.AllK
import Wide.FinOn
import KE.KStateDown
import Lean
import HandS.Base
import HandS.Call
import HandS.List
import HandS.Comp
import HandS.Ends
import HandS.Dict
import HandS.Iter
import HandS.Text
import HandS.More
import HandS.Exc
import HandS.TryOnly
import HandS.TryMany
import HandS.ExcOwn
import HandS.Words
import HandS.WordsList
import HandS.WordsExc
import HandS.Defaults
import HandS.Wide
import HandS.IsInst
import HandS.Flow
import HandS.Style
import HandS.Sort
import HandS.Conv
import HandS.Head0
import HandS.Head1
import HandS.Head2
import HandS.HeadEnd
import HandS.HeadHook1
import HandS.HeadHook2
import PySem.Challenge.RW_agegrade_k42_bounds_told
set_option Elab.async false
set_option linter.all false
set_option maxRecDepth 100000
set_option maxHeartbeats 0

/-! Data without addresses: what a value stands for (D), what a reading gives of data (EvR, EvT, EvA), what a statement does to slots that hold data (WpS). Own work. -/
namespace Ag
open PySem PySem.Spec PyProof.Rows L2

/-! ### 1. data -/
inductive D where
  | non | bl (b : Bool) | int (i : Int) | str (x : Str)
  | ty (n : String) | ad (a : Addr) | lst (l : List D) | tup (l : List D) | ins (C : Str) (fs : List (Str × D))

mutual
inductive Rp (K : PySem.W.Frag) (S : Hp) : V → D → Prop
  | non : Rp K S .non .non
  | bl (b : Bool) : Rp K S (.bl b) (.bl b)
  | int (i : Int) : Rp K S (.int i) (.int i)
  | str (x : Str) : Rp K S (.str x) (.str x)
  | ty (n : String) : Rp K S (.ty n) (.ty n)
  | ad (a : Addr) : Rp K S (.ref a) (.ad a)
  | lst {a : Addr} {xs : List V} {ds : List D} : SqL K S a xs → Rps K S xs ds → Rp K S (.ref a) (.lst ds)
  | tup {a : Addr} {xs : List V} {ds : List D} : SqT K S a xs → Rps K S xs ds → Rp K S (.ref a) (.tup ds)
  | ins {a dx : Addr} {C : Str} {fs : List (Str × V)} {gs : List (Str × D)} : S a = some (.ins (He.ga K C) dx fs) → RpF K S fs gs → Rp K S (.ref a) (.ins C gs)
inductive Rps (K : PySem.W.Frag) (S : Hp) : List V → List D → Prop
  | nil : Rps K S [] []
  | cons {v : V} {vs : List V} {d : D} {ds : List D} : Rp K S v d → Rps K S vs ds → Rps K S (v :: vs) (d :: ds)
inductive RpF (K : PySem.W.Frag) (S : Hp) : List (Str × V) → List (Str × D) → Prop
  | nil : RpF K S [] []
  | cons {f : Str} {v : V} {vs : List (Str × V)} {d : D} {ds : List (Str × D)} : Rp K S v d → RpF K S vs ds → RpF K S ((f, v) :: vs) ((f, d) :: ds)
end

def Ex (H H' : Hp) : Prop := ∀ b o, H b = some o → H' b = some o
theorem Ex.refl (H : Hp) : Ex H H := fun _ _ h => h
theorem Ex.trans {H H1 H2 : Hp} (a : Ex H H1) (b : Ex H1 H2) : Ex H H2 := fun x o h => b x o (a x o h)
theorem Ex.new {H : Hp} {p : Addr} {o : HO} (h : H p = none) : Ex H (upd H p o) := fun a u e => by
  rw [upd_ne (ne_of_none e h)]
  exact e
theorem Ex.mut {H H' : Hp} {p : Addr} {o : HO} (e : Ex H H') (h : H p = none) : Ex H (upd H' p o) := fun a u ha => by
  rw [upd_ne (ne_of_none ha h)]
  exact e a u ha
theorem Ex.free {H H' : Hp} {p : Addr} (e : Ex H H') (h : H' p = none) : H p = none := by
  cases h1 : H p with
  | none => rfl
  | some o =>
    rw [e p o h1] at h
    cases h
theorem Ex.up {H H' : Hp} {p : Addr} {o : HO} (e : Ex H H') : Ex (upd H p o) (upd H' p o) := fun a u h => by
  by_cases q : a = p
  · subst q
    rw [upd_same] at h ⊢
    exact h
  · rw [upd_ne q] at h ⊢
    exact e a u h
theorem Ex.rd {H H' : Hp} {a : Addr} {u : HO} (e : Ex H H') (h : Rd H a u) : Rd H' a u := by
  rcases h with h | ⟨o, h⟩
  · exact Or.inl (e a _ h)
  · exact Or.inr ⟨o, e a _ h⟩
theorem Ex.l {K : PySem.W.Frag} {H H' : Hp} {a : Addr} {xs : List V} (e : Ex H H') (h : SqL K H a xs) : SqL K H' a xs := by
  rcases h with h | h
  · exact Or.inl (e.rd h)
  · exact Or.inr h
theorem Ex.t {K : PySem.W.Frag} {H H' : Hp} {a : Addr} {xs : List V} (e : Ex H H') (h : SqT K H a xs) : SqT K H' a xs := by
  rcases h with h | h
  · exact Or.inl (e.rd h)
  · exact Or.inr h

section
variable {K : PySem.W.Frag} {S S' : Hp}
mutual
theorem Rp.mono (e : Ex S S') : ∀ {v : V} {d : D}, Rp K S v d → Rp K S' v d
  | _, _, .non => .non
  | _, _, .bl b => .bl b
  | _, _, .int i => .int i
  | _, _, .str x => .str x
  | _, _, .ty x => .ty x
  | _, _, .ad x => .ad x
  | _, _, .lst h r => .lst (e.l h) (Rps.mono e r)
  | _, _, .tup h r => .tup (e.t h) (Rps.mono e r)
  | _, _, .ins h r => .ins (e _ _ h) (RpF.mono e r)
theorem Rps.mono (e : Ex S S') : ∀ {vs : List V} {ds : List D}, Rps K S vs ds → Rps K S' vs ds
  | _, _, .nil => .nil
  | _, _, .cons r rs => .cons (Rp.mono e r) (Rps.mono e rs)
theorem RpF.mono (e : Ex S S') : ∀ {vs : List (Str × V)} {ds : List (Str × D)}, RpF K S vs ds → RpF K S' vs ds
  | _, _, .nil => .nil
  | _, _, .cons r rs => .cons (Rp.mono e r) (RpF.mono e rs)
end
theorem Rps.length : ∀ {vs : List V} {ds : List D}, Rps K S vs ds → vs.length = ds.length
  | _, _, .nil => rfl
  | _, _, .cons _ t => congrArg (· + 1) (Rps.length t)
theorem Rps.get : ∀ {vs : List V} {ds : List D} {i : Nat} {d : D}, Rps K S vs ds → ds[i]? = some d → ∃ v, vs[i]? = some v ∧ Rp K S v d
  | _, _, _, _, .nil, e => by simp at e
  | _, _, 0, _, .cons r _, e => by simp at e; subst e; exact ⟨_, rfl, r⟩
  | _, _, i + 1, d, .cons _ t, e => by
    obtain ⟨u, h1, h2⟩ := Rps.get (i := i) (d := d) t (by simpa using e)
    exact ⟨u, by simpa using h1, h2⟩
theorem Rps.get' : ∀ {vs : List V} {ds : List D} {i : Nat} {v : V}, Rps K S vs ds → vs[i]? = some v → ∃ d, ds[i]? = some d ∧ Rp K S v d
  | _, _, _, _, .nil, e => by simp at e
  | _, _, 0, _, .cons r _, e => by simp at e; subst e; exact ⟨_, rfl, r⟩
  | _, _, i + 1, v, .cons _ t, e => by
    obtain ⟨u, h1, h2⟩ := Rps.get' (i := i) (v := v) t (by simpa using e)
    exact ⟨u, by simpa using h1, h2⟩
theorem Rps.app : ∀ {vs ws : List V} {ds es : List D}, Rps K S vs ds → Rps K S ws es → Rps K S (vs ++ ws) (ds ++ es)
  | _, _, _, _, .nil, s => s
  | _, _, _, _, .cons r t, s => .cons r (Rps.app t s)
theorem Rps.take : ∀ {vs : List V} {ds : List D} (n : Nat), Rps K S vs ds → Rps K S (vs.take n) (ds.take n)
  | _, _, 0, _ => .nil
  | _, _, _ + 1, .nil => .nil
  | _, _, n + 1, .cons r t => .cons r (Rps.take n t)
theorem Rps.drop : ∀ {vs : List V} {ds : List D} (n : Nat), Rps K S vs ds → Rps K S (vs.drop n) (ds.drop n)
  | _, _, 0, r => r
  | _, _, _ + 1, .nil => .nil
  | _, _, n + 1, .cons _ t => Rps.drop n t
theorem Rps.set {v : V} {d : D} (r : Rp K S v d) : ∀ {vs : List V} {ds : List D} (i : Nat), Rps K S vs ds → Rps K S (vs.set i v) (ds.set i d)
  | _, _, _, .nil => .nil
  | _, _, 0, .cons _ t => .cons r t
  | _, _, i + 1, .cons q t => .cons q (Rps.set r i t)
theorem Rps.rev {vs : List V} {ds : List D} (h : Rps K S vs ds) : Rps K S vs.reverse ds.reverse := by
  induction vs generalizing ds with
  | nil => cases h; exact .nil
  | cons v vs ih =>
    cases h with
    | cons r t =>
      rw [List.reverse_cons, List.reverse_cons]
      exact (ih t).app (.cons r .nil)
theorem Rps.one {v : V} {d : D} (r : Rp K S v d) : Rps K S [v] [d] := .cons r .nil
theorem Rps.ints : ∀ (ns : List Int), Rps K S (ns.map V.int) (ns.map D.int)
  | [] => .nil
  | n :: r => .cons (.int n) (Rps.ints r)
theorem Rps.of_ints : ∀ {vs : List V} {ns : List Int}, Rps K S vs (ns.map D.int) → vs = ns.map V.int
  | _, [], h => by cases h; rfl
  | _, n :: r, h => by
    cases h with
    | cons a t =>
      cases a
      rw [Rps.of_ints t]
      rfl
theorem Rps.of_bls : ∀ {vs : List V} {ns : List Bool}, Rps K S vs (ns.map D.bl) → vs = ns.map V.bl
  | _, [], h => by cases h; rfl
  | _, n :: r, h => by
    cases h with
    | cons a t =>
      cases a
      rw [Rps.of_bls t]
      rfl
theorem Rps.of_strs : ∀ {vs : List V} {ns : List Str}, Rps K S vs (ns.map D.str) → vs = ns.map V.str
  | _, [], h => by cases h; rfl
  | _, n :: r, h => by
    cases h with
    | cons a t =>
      cases a
      rw [Rps.of_strs t]
      rfl
theorem Rps.strs' : ∀ (ns : List Str), Rps K S (ns.map V.str) (ns.map D.str)
  | [] => .nil
  | n :: r => .cons (.str n) (Rps.strs' r)
theorem RpF.lookup : ∀ {vs : List (Str × V)} {ds : List (Str × D)} {f : Str} {d : D}, RpF K S vs ds → ds.lookup f = some d → ∃ v, vs.lookup f = some v ∧ Rp K S v d
  | _, _, _, _, .nil, e => by cases e
  | _, _, f, d, @RpF.cons _ _ g _ _ _ _ r t, e => by
    rw [List.lookup_cons] at e ⊢
    cases h : f == g with
    | true =>
      rw [h] at e
      cases e
      exact ⟨_, rfl, r⟩
    | false =>
      rw [h] at e
      exact RpF.lookup t e
theorem RpF.none : ∀ {vs : List (Str × V)} {ds : List (Str × D)} {f : Str}, RpF K S vs ds → ds.lookup f = none → vs.lookup f = Option.none
  | _, _, _, .nil, _ => rfl
  | _, _, f, @RpF.cons _ _ g _ _ _ _ r t, e => by
    rw [List.lookup_cons] at e ⊢
    cases h : f == g with
    | true =>
      rw [h] at e
      cases e
    | false =>
      rw [h] at e
      exact RpF.none t e
end
abbrev dI (ns : List Int) : D := .lst (ns.map D.int)

/-! ### 2. how the heap grows: S, what is shared and stays; H, all -/
structure Gx (S H S' H' : Hp) : Prop where
  s : Ex S S'
  sub : Ex S' H'
  h : Ex H H'
  fr : ∀ b, H b ≠ none → S' b = S b
theorem Gx.refl {S H : Hp} (e : Ex S H) : Gx S H S H := ⟨Ex.refl S, e, Ex.refl H, fun _ _ => rfl⟩
theorem Gx.trans {S H S1 H1 S2 H2 : Hp} (a : Gx S H S1 H1) (b : Gx S1 H1 S2 H2) : Gx S H S2 H2 :=
  ⟨a.s.trans b.s, b.sub, a.h.trans b.h, fun x hx => (b.fr x (by
    cases q : H x with
    | none => exact absurd q hx
    | some o => rw [a.h x o q]; exact fun z => by cases z)).trans (a.fr x hx)⟩
/-- a new thing, shared -/
theorem Gx.new {S H : Hp} {p : Addr} {o : HO} (e : Ex S H) (hp : H p = none) : Gx S H (upd S p o) (upd H p o) :=
  ⟨Ex.new (e.free hp), e.up, Ex.new hp, fun b hb => upd_ne fun z => by subst z; exact hb hp⟩
/-- a new thing that is not shared -/
theorem Gx.mine {S H : Hp} {p : Addr} {o : HO} (e : Ex S H) (hp : H p = none) : Gx S H S (upd H p o) :=
  ⟨Ex.refl S, e.trans (Ex.new hp), Ex.new hp, fun _ _ => rfl⟩
theorem Gx.grown {S H H' : Hp} (e : Ex S H) (h : Ex H H') : Gx S H S H' := ⟨Ex.refl S, e.trans h, h, fun _ _ => rfl⟩

/-! ### 3. slots -/
inductive Sl where
  | un | sh (d : D) | ow (ds : List D)
structure Cf (K : PySem.W.Frag) (S0 H0 : Hp) (δ : List Sl) (S H : Hp) (σ : L2.St) : Prop where
  g : Gx S0 H0 S H
  len : σ.length = δ.length
  sh : ∀ (i : Nat) (d : D), δ[i]? = some (.sh d) → ∃ v, σ[i]? = some (some v) ∧ Rp K S v d
  ow : ∀ (i : Nat) (ds : List D), δ[i]? = some (.ow ds) → ∃ a xs, σ[i]? = some (some (.ref a)) ∧ H a = some (.lst xs) ∧ S a = none ∧ H0 a = none ∧ Rps K S xs ds
  ap : ∀ (i j : Nat) (ds es : List D) (a : Addr), i ≠ j → δ[i]? = some (.ow ds) → δ[j]? = some (.ow es) → σ[i]? = some (some (.ref a)) → σ[j]? = some (some (.ref a)) → False
section
variable {K : PySem.W.Frag} {S0 H0 S H S' H' : Hp} {δ : List Sl} {σ : L2.St}
theorem Cf.grow (c : Cf K S0 H0 δ S H σ) (g : Gx S H S' H') : Cf K S0 H0 δ S' H' σ where
  g := c.g.trans g
  len := c.len
  sh := fun i d e => by
    obtain ⟨v, h1, h2⟩ := c.sh i d e
    exact ⟨v, h1, h2.mono g.s⟩
  ow := fun i ds e => by
    obtain ⟨a, xs, h1, h2, h3, h4, h5⟩ := c.ow i ds e
    exact ⟨a, xs, h1, g.h _ _ h2, (g.fr a (by rw [h2]; exact fun z => by cases z)).trans h3, h4, h5.mono g.s⟩
  ap := c.ap
theorem set_cases {α : Type} {l : List α} {i j : Nat} {x y : α} (h : (l.set i x)[j]? = some y) : (i = j ∧ x = y) ∨ (i ≠ j ∧ l[j]? = some y) := by
  by_cases e : i = j
  · subst e
    by_cases hl : i < l.length
    · rw [List.getElem?_set_self hl] at h
      exact .inl ⟨rfl, Option.some.inj h⟩
    · rw [List.getElem?_eq_none (by simpa using hl)] at h
      cases h
  · rw [List.getElem?_set_ne e] at h
    exact .inr ⟨e, h⟩
theorem Cf.setSh (c : Cf K S0 H0 δ S H σ) {i : Nat} {v : V} {d : D} (r : Rp K S v d) : Cf K S0 H0 (δ.set i (.sh d)) S H (σ.set i (some v)) where
  g := c.g
  len := by rw [List.length_set, List.length_set]; exact c.len
  sh := fun j d' e => by
    rcases set_cases e with ⟨rfl, q⟩ | ⟨n, q⟩
    · cases q
      have hl : i < δ.length := by
        have := (List.getElem?_eq_some_iff.mp e).1
        simpa using this
      exact ⟨v, List.getElem?_set_self (by rw [c.len]; exact hl), r⟩
    · rw [List.getElem?_set_ne n]
      exact c.sh j d' q
  ow := fun j ds e => by
    rcases set_cases e with ⟨rfl, q⟩ | ⟨n, q⟩
    · cases q
    · rw [List.getElem?_set_ne n]
      exact c.ow j ds q
  ap := fun j k ds es a n e1 e2 e3 e4 => by
    rcases set_cases e1 with ⟨rfl, q⟩ | ⟨n1, q1⟩
    · cases q
    · rcases set_cases e2 with ⟨rfl, q⟩ | ⟨n2, q2⟩
      · cases q
      · rw [List.getElem?_set_ne n1] at e3
        rw [List.getElem?_set_ne n2] at e4
        exact c.ap j k ds es a n q1 q2 e3 e4
/-- a slot is forgotten -/
theorem Cf.un (c : Cf K S0 H0 δ S H σ) (i : Nat) (x : Option V) : Cf K S0 H0 (δ.set i .un) S H (σ.set i x) where
  g := c.g
  len := by rw [List.length_set, List.length_set]; exact c.len
  sh := fun j d' e => by
    rcases set_cases e with ⟨rfl, q⟩ | ⟨n, q⟩
    · cases q
    · rw [List.getElem?_set_ne n]
      exact c.sh j d' q
  ow := fun j ds e => by
    rcases set_cases e with ⟨rfl, q⟩ | ⟨n, q⟩
    · cases q
    · rw [List.getElem?_set_ne n]
      exact c.ow j ds q
  ap := fun j k ds es a n e1 e2 e3 e4 => by
    rcases set_cases e1 with ⟨rfl, q⟩ | ⟨n1, q1⟩
    · cases q
    · rcases set_cases e2 with ⟨rfl, q⟩ | ⟨n2, q2⟩
      · cases q
      · rw [List.getElem?_set_ne n1] at e3
        rw [List.getElem?_set_ne n2] at e4
        exact c.ap j k ds es a n q1 q2 e3 e4
theorem Cf.forget (c : Cf K S0 H0 δ S H σ) (i : Nat) : Cf K S0 H0 (δ.set i .un) S H σ where
  g := c.g
  len := by rw [List.length_set]; exact c.len
  sh := fun j d' e => by
    rcases set_cases e with ⟨rfl, q⟩ | ⟨n, q⟩
    · cases q
    · exact c.sh j d' q
  ow := fun j ds e => by
    rcases set_cases e with ⟨rfl, q⟩ | ⟨n, q⟩
    · cases q
    · exact c.ow j ds q
  ap := fun j k ds es a n e1 e2 e3 e4 => by
    rcases set_cases e1 with ⟨rfl, q⟩ | ⟨n1, q1⟩
    · cases q
    · rcases set_cases e2 with ⟨rfl, q⟩ | ⟨n2, q2⟩
      · cases q
      · exact c.ap j k ds es a n q1 q2 e3 e4
/-- a new list of one's own at p -/
theorem Cf.setOw (c : Cf K S0 H0 δ S H σ) {i : Nat} {p : Addr} {xs : List V} {ds : List D} (hp : H p = some (.lst xs)) (sp : S p = none) (h0 : H0 p = none) (r : Rps K S xs ds)
    (al : ∀ (j : Nat) (es : List D) (a : Addr), δ[j]? = some (.ow es) → σ[j]? = some (some (.ref a)) → a ≠ p) : Cf K S0 H0 (δ.set i (.ow ds)) S H (σ.set i (some (.ref p))) where
  g := c.g
  len := by rw [List.length_set, List.length_set]; exact c.len
  sh := fun j d' e => by
    rcases set_cases e with ⟨rfl, q⟩ | ⟨n, q⟩
    · cases q
    · rw [List.getElem?_set_ne n]
      exact c.sh j d' q
  ow := fun j es e => by
    rcases set_cases e with ⟨rfl, q⟩ | ⟨n, q⟩
    · cases q
      have hl : i < δ.length := by
        have := (List.getElem?_eq_some_iff.mp e).1
        simpa using this
      exact ⟨p, xs, List.getElem?_set_self (by rw [c.len]; exact hl), hp, sp, h0, r⟩
    · rw [List.getElem?_set_ne n]
      exact c.ow j es q
  ap := fun j k ds es a n e1 e2 e3 e4 => by
    rcases set_cases e1 with ⟨rfl, q⟩ | ⟨n1, q1⟩
    · rcases set_cases e3 with ⟨_, z3⟩ | ⟨n3, _⟩
      · cases z3
        rcases set_cases e2 with ⟨z, _⟩ | ⟨n2, q2⟩
        · exact n z
        · rw [List.getElem?_set_ne n2] at e4
          exact al k es p q2 e4 rfl
      · exact n3 rfl
    · rw [List.getElem?_set_ne n1] at e3
      rcases set_cases e2 with ⟨rfl, q⟩ | ⟨n2, q2⟩
      · rcases set_cases e4 with ⟨_, z4⟩ | ⟨n4, _⟩
        · cases z4
          exact al j ds p q1 e3 rfl
        · exact n4 rfl
      · rw [List.getElem?_set_ne n2] at e4
        exact c.ap j k ds es a n q1 q2 e3 e4
/-- one's own list is changed -/
theorem Cf.change (c : Cf K S0 H0 δ S H σ) {i : Nat} {a : Addr} {ds es : List D} {ys : List V} (e : δ[i]? = some (.ow ds)) (ea : σ[i]? = some (some (.ref a))) (r : Rps K S ys es) :
    Cf K S0 H0 (δ.set i (.ow es)) S (upd H a (.lst ys)) σ where
  g := by
    obtain ⟨a', xs, h1, h2, h3, h4, h5⟩ := c.ow i ds e
    rw [h1] at ea
    cases ea
    exact ⟨c.g.s, c.g.sub.mut h3, c.g.h.mut h4, c.g.fr⟩
  len := by rw [List.length_set]; exact c.len
  sh := fun j d' e' => by
    rcases set_cases e' with ⟨rfl, q⟩ | ⟨n, q⟩
    · cases q
    · exact c.sh j d' q
  ow := fun j fs e' => by
    obtain ⟨a', xs, h1, h2, h3, h4, h5⟩ := c.ow i ds e
    rw [h1] at ea
    cases ea
    rcases set_cases e' with ⟨rfl, q⟩ | ⟨n, q⟩
    · cases q
      exact ⟨a, ys, h1, upd_same, h3, h4, r⟩
    · obtain ⟨b, zs, k1, k2, k3, k4, k5⟩ := c.ow j fs q
      refine ⟨b, zs, k1, ?_, k3, k4, k5⟩
      rw [upd_ne fun z => ?_]
      · exact k2
      · subst z
        exact c.ap i j ds fs b n e q h1 k1
  ap := fun j k ds' es' b n e1 e2 e3 e4 => by
    rcases set_cases e1 with ⟨z1, q1⟩ | ⟨n1, q1⟩
    · rcases set_cases e2 with ⟨z2, q2⟩ | ⟨n2, q2⟩
      · exact n (z1.symm.trans z2)
      · subst z1
        exact c.ap i k ds es' b n e q2 e3 e4
    · rcases set_cases e2 with ⟨z2, q2⟩ | ⟨n2, q2⟩
      · subst z2
        exact c.ap j i ds' ds b n q1 e e3 e4
      · exact c.ap j k ds' es' b n q1 q2 e3 e4
/-- one's own list is shared from now on -/
theorem Cf.freeze (c : Cf K S0 H0 δ S H σ) {i : Nat} {ds : List D} (e : δ[i]? = some (.ow ds)) :
    ∃ S' a xs, Ex S S' ∧ σ[i]? = some (some (.ref a)) ∧ S' a = some (.lst xs) ∧ Rps K S' xs ds ∧ Cf K S0 H0 (δ.set i (.sh (.lst ds))) S' H σ := by
  obtain ⟨a, xs, h1, h2, h3, h4, h5⟩ := c.ow i ds e
  have eS : Ex S (upd S a (.lst xs)) := Ex.new h3
  have hl : i < δ.length := (List.getElem?_eq_some_iff.mp e).1
  refine ⟨upd S a (.lst xs), a, xs, eS, h1, upd_same, h5.mono eS, ⟨⟨c.g.s.trans eS, ?_, c.g.h, fun b hb => ?_⟩, ?_, ?_, ?_, ?_⟩⟩
  · intro b o hb
    by_cases z : b = a
    · subst z
      rw [upd_same] at hb
      rw [← hb]
      exact h2
    · rw [upd_ne z] at hb
      exact c.g.sub b o hb
  · rw [upd_ne fun z => by subst z; exact hb h4]
    exact c.g.fr b hb
  · rw [List.length_set]; exact c.len
  · intro j d' e'
    rcases set_cases e' with ⟨rfl, q⟩ | ⟨n, q⟩
    · cases q
      exact ⟨.ref a, h1, .lst (SqL.of upd_same) (h5.mono eS)⟩
    · obtain ⟨v, k1, k2⟩ := c.sh j d' q
      exact ⟨v, k1, k2.mono eS⟩
  · intro j es e'
    rcases set_cases e' with ⟨rfl, q⟩ | ⟨n, q⟩
    · cases q
    · obtain ⟨b, zs, k1, k2, k3, k4, k5⟩ := c.ow j es q
      refine ⟨b, zs, k1, k2, ?_, k4, k5.mono eS⟩
      rw [upd_ne fun z => ?_]
      · exact k3
      · subst z
        exact c.ap i j ds es b n e q h1 k1
  · intro j k ds' es' b n e1 e2 e3 e4
    rcases set_cases e1 with ⟨rfl, q⟩ | ⟨n1, q1⟩
    · cases q
    · rcases set_cases e2 with ⟨rfl, q⟩ | ⟨n2, q2⟩
      · cases q
      · exact c.ap j k ds' es' b n q1 q2 e3 e4
theorem Cf.notMine (c : Cf K S0 H0 δ S H σ) {p : Addr} (hp : H p = none) : ∀ (j : Nat) (es : List D) (a : Addr), δ[j]? = some (.ow es) → σ[j]? = some (some (.ref a)) → a ≠ p := fun j es a e1 e2 z => by
  subst z
  obtain ⟨b, xs, h1, h2, _⟩ := c.ow j es e1
  rw [h1] at e2
  cases e2
  rw [hp] at h2
  cases h2
end
end Ag

namespace Ag
open PySem PySem.Spec PyProof.Rows L2

/-! ### 4. what a reading gives of data -/
section
variable (K : PySem.W.Frag) (S0 H0 : Hp)
/-- all that the body may see: what was shared, and what is new -/
def Tn (H : Hp) : Hp := fun b => match H0 b with
  | some _ => S0 b
  | none => H b
def EvR (te : TE) (δ : List Sl) (R : D → Prop) : Prop := ∀ S H σ, Cf K S0 H0 δ S H σ → ∀ Q : VK, (∀ d v S' H', R d → Gx S H S' H' → Rp K S' v d → Q v H') → te σ H Q
/-- .. where what is given may lean on one's own lists -/
def EvH (te : TE) (δ : List Sl) (R : D → Prop) : Prop := ∀ S H σ, Cf K S0 H0 δ S H σ → ∀ Q : VK, (∀ d v S' H', R d → Gx S H S' H' → Rp K (Tn S0 H0 H') v d → Q v H') → te σ H Q
/-- .. a new list -/
def EvN (te : TE) (δ : List Sl) (R : List D → Prop) : Prop := ∀ S H σ, Cf K S0 H0 δ S H σ → ∀ Q : VK, (∀ ds p xs S' H', R ds → Gx S H S' H' → H p = none → S' p = none → H' p = some (.lst xs) → Rps K S' xs ds → Q (.ref p) H') → te σ H Q
def EvT (tt : TT) (δ : List Sl) (R : Bool → Prop) : Prop := ∀ S H σ, Cf K S0 H0 δ S H σ → ∀ Q : Bool → Hp → Prop, (∀ b S' H', R b → Gx S H S' H' → Q b H') → tt σ H Q
def EvA (ta : TA) (δ : List Sl) (R : List D → Prop) : Prop := ∀ S H σ, Cf K S0 H0 δ S H σ → ∀ Q : List V → Hp → Prop, (∀ ds vs S' H', R ds → Gx S H S' H' → Rps K S' vs ds → Q vs H') → ta σ H Q
def EvHA (ta : TA) (δ : List Sl) (R : List D → Prop) : Prop := ∀ S H σ, Cf K S0 H0 δ S H σ → ∀ Q : List V → Hp → Prop, (∀ ds vs S' H', R ds → Gx S H S' H' → Rps K (Tn S0 H0 H') vs ds → Q vs H') → ta σ H Q
def EvO (to : TO) (δ : List Sl) (R : Option Int → Prop) : Prop := ∀ S H σ, Cf K S0 H0 δ S H σ → ∀ Q : Option Int → Hp → Prop, (∀ o S' H', R o → Gx S H S' H' → Q o H') → to σ H Q
/-- an operation, a built-in's call on data -/
def OpD (r : R2) (d1 d2 : D) (R : D → Prop) : Prop := ∀ S H v1 v2, Ex S H → Rp K S v1 d1 → Rp K S v2 d2 → ∀ Q : VK, (∀ d v S' H', R d → Gx S H S' H' → Rp K S' v d → Q v H') → r v1 v2 H Q
def CaD (r : List V → Hp → VK → Prop) (ds : List D) (R : D → Prop) : Prop := ∀ S H vs, Ex S H → Rps K S vs ds → ∀ Q : VK, (∀ d v S' H', R d → Gx S H S' H' → Rp K S' v d → Q v H') → r vs H Q
end

section
variable {K : PySem.W.Frag} {S0 H0 : Hp} {δ : List Sl} {R : D → Prop} {ta tb tc te : TE}
theorem Tn.old {S0 H0 H : Hp} {b : Addr} {o : HO} (h : H0 b = some o) : Tn S0 H0 H b = S0 b := by
  unfold Tn
  rw [h]
theorem Tn.new {S0 H0 H : Hp} {b : Addr} (h : H0 b = none) : Tn S0 H0 H b = H b := by
  unfold Tn
  rw [h]
theorem Tn.up {S0 H0 H H' : Hp} (e : Ex H H') : Ex (Tn S0 H0 H) (Tn S0 H0 H') := fun b o h => by
  cases q : H0 b with
  | some u => rw [Tn.old q] at h ⊢; exact h
  | none => rw [Tn.new q] at h ⊢; exact e _ _ h
theorem Tn.sub {S0 H0 S H : Hp} (g : Gx S0 H0 S H) : Ex S (Tn S0 H0 H) := fun b o h => by
  cases q : H0 b with
  | some u => rw [Tn.old q, ← g.fr b (by rw [q]; exact fun z => by cases z)]; exact h
  | none => rw [Tn.new q]; exact g.sub _ _ h
theorem Tn.h {S0 H0 S H : Hp} (g : Gx S0 H0 S H) : Ex (Tn S0 H0 H) H := fun b o h => by
  cases q : H0 b with
  | some u => rw [Tn.old q] at h; exact g.sub b o (g.s b o h)
  | none => rw [Tn.new q] at h; exact h
theorem Tn.gx {S0 H0 S H : Hp} (g : Gx S0 H0 S H) : Gx S0 H0 (Tn S0 H0 H) H := ⟨fun b o h => by
    cases q : H0 b with
    | some u => rw [Tn.old q]; exact h
    | none => rw [Tn.new q]; exact g.sub b o (g.s b o h),
  Tn.h g, g.h, fun b hb => by
    cases q : H0 b with
    | some u => exact Tn.old q
    | none => exact absurd q hb⟩
theorem Tn.ext {S0 H0 S H S' H' : Hp} (g : Gx S0 H0 S H) (g' : Gx (Tn S0 H0 H) H S' H') : Ex S' (Tn S0 H0 H') := fun b o h => by
  cases q : H0 b with
  | some u =>
    rw [Tn.old q, ← Tn.old (S0 := S0) (H := H) q, ← g'.fr b (by rw [g.h b u q]; exact fun z => by cases z)]
    exact h
  | none => rw [Tn.new q]; exact g'.sub _ _ h
theorem EvR.imp {R' : D → Prop} (h : EvR K S0 H0 te δ R) (f : ∀ d, R d → R' d) : EvR K S0 H0 te δ R' := fun S H σ c Q k => h S H σ c Q fun d v S' H' r g p => k d v S' H' (f d r) g p
theorem EvR.h (h : EvR K S0 H0 te δ R) : EvH K S0 H0 te δ R := fun S H σ c Q k => h S H σ c Q fun d v S' H' r g p => k d v S' H' r g (p.mono (Tn.sub (c.g.trans g)))
theorem EvN.r {R : D → Prop} (h : EvN K S0 H0 te δ (fun ds => R (.lst ds))) : EvR K S0 H0 te δ R := fun S H σ c Q k => h S H σ c Q fun ds p xs S' H' r g hp sp h' rs => by
  refine k (.lst ds) (.ref p) (upd S' p (.lst xs)) H' r ⟨g.s.trans (Ex.new sp), fun b o hb => ?_, g.h, fun b hb => ?_⟩ (.lst (SqL.of upd_same) (rs.mono (Ex.new sp)))
  · by_cases z : b = p
    · subst z
      rw [upd_same] at hb
      rw [← hb]
      exact h'
    · rw [upd_ne z] at hb
      exact g.sub b o hb
  · rw [upd_ne fun z => by subst z; exact hb hp]
    exact g.fr b hb
/-- flat data lean on nothing -/
def D.flat : D → Bool
  | .non => true | .bl _ => true | .int _ => true | .str _ => true | .ty _ => true | .ad _ => true | _ => false
theorem Rp.flat {S S' : Hp} {v : V} {d : D} (h : Rp K S v d) (f : d.flat = true) : Rp K S' v d := by
  cases h <;> first | exact .non | exact .bl _ | exact .int _ | exact .str _ | exact .ty _ | exact .ad _ | exact absurd (show false = true from f) Bool.false_ne_true
theorem EvH.r (h : EvH K S0 H0 te δ R) (f : ∀ d, R d → d.flat = true) : EvR K S0 H0 te δ R := fun S H σ c Q k => h S H σ c Q fun d v S' H' r g p => k d v S' H' r g (p.flat (f d r))

theorem ev_var {i : Nat} {d : D} (h : δ[i]? = some (.sh d)) (q : R d) : EvR K S0 H0 (tVar i) δ R := fun S H σ c Q k => by
  obtain ⟨v, e, r⟩ := c.sh i d h
  exact ⟨v, e, k d v S H q (Gx.refl c.g.sub) r⟩
theorem eh_var {i : Nat} {ds : List D} (h : δ[i]? = some (.ow ds)) (q : R (.lst ds)) : EvH K S0 H0 (tVar i) δ R := fun S H σ c Q k => by
  obtain ⟨a, xs, h1, h2, h3, h4, h5⟩ := c.ow i ds h
  exact ⟨_, h1, k _ _ S H q (Gx.refl c.g.sub) (.lst (SqL.of ((Tn.new h4).trans h2)) (h5.mono (Tn.sub c.g)))⟩
theorem ev_int {n : Int} (q : R (.int n)) : EvR K S0 H0 (tC (.int n)) δ R := fun S H σ c Q k => k _ _ S H q (Gx.refl c.g.sub) (.int n)
theorem ev_bl {n : Bool} (q : R (.bl n)) : EvR K S0 H0 (tC (.bl n)) δ R := fun S H σ c Q k => k _ _ S H q (Gx.refl c.g.sub) (.bl n)
theorem ev_str {n : Str} (q : R (.str n)) : EvR K S0 H0 (tC (.str n)) δ R := fun S H σ c Q k => k _ _ S H q (Gx.refl c.g.sub) (.str n)
theorem ev_ty {n : String} (q : R (.ty n)) : EvR K S0 H0 (tC (.ty n)) δ R := fun S H σ c Q k => k _ _ S H q (Gx.refl c.g.sub) (.ty n)
theorem ev_non (q : R .non) : EvR K S0 H0 (tC .non) δ R := fun S H σ c Q k => k _ _ S H q (Gx.refl c.g.sub) .non
theorem ev_op {r : R2} (h : EvR K S0 H0 ta δ fun d1 => EvR K S0 H0 tb δ fun d2 => OpD K r d1 d2 R) : EvR K S0 H0 (tOp r ta tb) δ R := fun S H σ c Q k =>
  h S H σ c _ fun d1 v1 S1 H1 r1 g1 p1 => r1 S1 H1 σ (c.grow g1) _ fun d2 v2 S2 H2 r2 g2 p2 => r2 S2 H2 v1 v2 g2.sub (p1.mono g2.s) p2 Q fun d v S3 H3 r3 g3 p3 => k d v S3 H3 r3 ((g1.trans g2).trans g3) p3
/-- the first operand leans on one's own lists, what is given does not -/
theorem ev_opH {r : R2} (h : EvH K S0 H0 ta δ fun d1 => EvR K S0 H0 tb δ fun d2 => OpD K r d1 d2 R) (f : ∀ d, R d → d.flat = true) : EvR K S0 H0 (tOp r ta tb) δ R := fun S H σ c Q k =>
  h S H σ c _ fun d1 v1 S1 H1 r1 g1 p1 => r1 S1 H1 σ (c.grow g1) _ fun d2 v2 S2 H2 r2 g2 p2 => r2 _ H2 v1 v2 (Tn.h (c.g.trans (g1.trans g2))) (p1.mono (Tn.up g2.h)) (p2.mono (Tn.sub (c.g.trans (g1.trans g2)))) Q fun d v S3 H3 r3 g3 p3 => k d v S2 H3 r3 ((g1.trans g2).trans (Gx.grown g2.sub g3.h)) (p3.flat (f d r3))
theorem ev_un {r : V → Hp → VK → Prop} (h : EvR K S0 H0 ta δ fun d => ∃ n, d = .int n ∧ R (.int (-n))) (hr : r = rU fun i => .int (-i)) : EvR K S0 H0 (tUn r ta) δ R := fun S H σ c Q k => by
  subst hr
  exact h S H σ c _ fun d v S1 H1 ⟨n, e, q⟩ g p => by
    subst e
    cases p
    exact ⟨n, rfl, k _ _ S1 H1 q g (.int _)⟩

/-! ints -/
theorem od_I0 {g : Int → Int → V} {f : Int → Int → D} {a b : Int} (q : R (f a b)) (hg : ∀ S, Rp K S (g a b) (f a b)) : OpD K (rI0 g) (.int a) (.int b) R := fun S H v1 v2 e p1 p2 Q k => by
  cases p1; cases p2
  exact ⟨a, b, rfl, rfl, k _ _ S H q (Gx.refl e) (hg S)⟩
theorem od_I {C : Int → Int → Prop} {g : Int → Int → V} {f : Int → Int → D} {a b : Int} (hc : C a b) (q : R (f a b)) (hg : ∀ S, Rp K S (g a b) (f a b)) : OpD K (rI C g) (.int a) (.int b) R := fun S H v1 v2 e p1 p2 Q k => by
  cases p1; cases p2
  exact ⟨a, b, rfl, rfl, hc, k _ _ S H q (Gx.refl e) (hg S)⟩
theorem od_add {a b : Int} (q : R (.int (a + b))) : OpD K (rI0 fun i j => .int (i + j)) (.int a) (.int b) R := od_I0 (f := fun a b => .int (a + b)) q fun _ => .int _
theorem od_sub {a b : Int} (q : R (.int (a - b))) : OpD K (rI0 fun i j => .int (i - j)) (.int a) (.int b) R := od_I0 (f := fun a b => .int (a - b)) q fun _ => .int _
theorem od_lt {a b : Int} (q : R (.bl (decide (a < b)))) : OpD K (rI0 fun i j => .bl (decide (i < j))) (.int a) (.int b) R := od_I0 (f := fun a b => .bl (decide (a < b))) q fun _ => .bl _
theorem od_le {a b : Int} (q : R (.bl (decide (a ≤ b)))) : OpD K (rI0 fun i j => .bl (decide (i ≤ j))) (.int a) (.int b) R := od_I0 (f := fun a b => .bl (decide (a ≤ b))) q fun _ => .bl _
theorem od_gt {a b : Int} (q : R (.bl (decide (b < a)))) : OpD K (rI0 fun i j => .bl (decide (j < i))) (.int a) (.int b) R := od_I0 (f := fun a b => .bl (decide (b < a))) q fun _ => .bl _
theorem od_ge {a b : Int} (q : R (.bl (decide (b ≤ a)))) : OpD K (rI0 fun i j => .bl (decide (j ≤ i))) (.int a) (.int b) R := od_I0 (f := fun a b => .bl (decide (b ≤ a))) q fun _ => .bl _
theorem od_mulW {a b : Int} (hc : CMulW a b) (q : R (.int (a * b))) : OpD K (rI CMulW fun i j => .int (i * j)) (.int a) (.int b) R := od_I (f := fun a b => .int (a * b)) hc q fun _ => .int _
theorem od_mul {a b : Int} (hc : CMul a b) (q : R (.int (a * b))) : OpD K (rI CMul fun i j => .int (i * j)) (.int a) (.int b) R := od_I (f := fun a b => .int (a * b)) hc q fun _ => .int _
theorem od_modN {a b : Int} (hc : b ≠ 0) (q : R (.int (a.fmod b))) : OpD K (rI (fun _ j => j ≠ 0) fun i j => .int (i.fmod j)) (.int a) (.int b) R := od_I (f := fun a b => .int (a.fmod b)) hc q fun _ => .int _
theorem od_fdivN {a b : Int} (hc : CDivN a b) (q : R (.int (a.fdiv b))) : OpD K (rI CDivN fun i j => .int (i.fdiv j)) (.int a) (.int b) R := od_I (f := fun a b => .int (a.fdiv b)) hc q fun _ => .int _
theorem od_pow {a b : Int} (hc : CPow a b) (q : R (.int (a ^ b.toNat))) : OpD K (rI CPow fun i j => .int (i ^ j.toNat)) (.int a) (.int b) R := od_I (f := fun a b => .int (a ^ b.toNat)) hc q fun _ => .int _

/-! == of flat things -/
def sc : D → D → Bool
  | .non, .non => true | .non, .int _ => true | .int _, .non => true | .non, .bl _ => true | .bl _, .non => true | .non, .str _ => true | .str _, .non => true
  | .int _, .int _ => true | .bl _, .bl _ => true | .str _, .str _ => true
  | .int _, .str _ => true | .str _, .int _ => true | .bl _, .str _ => true | .str _, .bl _ => true
  | _, _ => false
def eqD : D → D → Bool
  | .non, .non => true
  | .int a, .int b => decide (a = b)
  | .bl a, .bl b => decide (a = b)
  | .str a, .str b => decide (a = b)
  | _, _ => false
theorem sc_V {S : Hp} {d1 d2 : D} {v1 v2 : V} (h : sc d1 d2 = true) (p1 : Rp K S v1 d1) (p2 : Rp K S v2 d2) : scal v1 v2 = true ∧ decide (v1 = v2) = eqD d1 d2 := by
  cases p1 <;> cases p2 <;> first | (exfalso; simp [sc] at h; done) | (refine ⟨rfl, ?_⟩; simp [eqD])
theorem od_eq {d1 d2 : D} (h : sc d1 d2 = true) (q : R (.bl (eqD d1 d2))) : OpD K rEq d1 d2 R := fun S H v1 v2 e p1 p2 Q k => by
  obtain ⟨h1, h2⟩ := sc_V h p1 p2
  exact ⟨h1, by rw [h2]; exact k _ _ S H q (Gx.refl e) (.bl _)⟩
theorem od_ne {d1 d2 : D} (h : sc d1 d2 = true) (q : R (.bl (!eqD d1 d2))) : OpD K rNe d1 d2 R := fun S H v1 v2 e p1 p2 Q k => by
  obtain ⟨h1, h2⟩ := sc_V h p1 p2
  exact ⟨h1, by rw [h2]; exact k _ _ S H q (Gx.refl e) (.bl _)⟩
def isN : D → Bool
  | .non => true
  | _ => false
theorem isN_V {S : Hp} {d : D} {v : V} (p : Rp K S v d) : decide (v = .non) = isN d := by
  cases p <;> simp [isN]
theorem od_isN {d : D} (q : R (.bl (isN d))) : OpD K (fun x y H Q => y = .non ∧ Q (.bl (decide (x = .non))) H) d .non R := fun S H v1 v2 e p1 p2 Q k => by
  cases p2
  exact ⟨rfl, by rw [isN_V p1]; exact k _ _ S H q (Gx.refl e) (.bl _)⟩
theorem od_notN {d : D} (q : R (.bl (!isN d))) : OpD K (fun x y H Q => y = .non ∧ Q (.bl (!decide (x = .non))) H) d .non R := fun S H v1 v2 e p1 p2 Q k => by
  cases p2
  exact ⟨rfl, by rw [isN_V p1]; exact k _ _ S H q (Gx.refl e) (.bl _)⟩

/-! subscripts -/
theorem ixN_lt {n : Nat} {i : Int} {j : Nat} (h : ixN n i = some j) : j < n := by
  unfold ixN at h
  split at h
  · split at h
    · cases h; omega
    · cases h
  · split at h
    · cases h; omega
    · cases h
theorem Rps.atI {S : Hp} {vs : List V} {ds : List D} {i : Int} {d : D} (h : Rps K S vs ds) (e : atI ds i = some d) : ∃ v, L2.atI vs i = some v ∧ Rp K S v d := by
  unfold L2.atI at e ⊢
  rw [h.length]
  cases q : ixN ds.length i with
  | none => rw [q] at e; cases e
  | some j =>
    rw [q] at e
    exact h.get (i := j) e
theorem od_ixL {ds : List D} {i : Int} {d : D} (h : atI ds i = some d) (q : R d) : OpD K (rIxL K) (.lst ds) (.int i) R := fun S H v1 v2 e p1 p2 Q k => by
  cases p1 with
  | lst hs rs =>
    cases p2
    obtain ⟨v, h1, h2⟩ := rs.atI h
    exact ⟨_, _, i, v, rfl, rfl, e.l hs, h1, k _ _ S H q (Gx.refl e) h2⟩
theorem od_ixT {ds : List D} {i : Int} {d : D} (h : atI ds i = some d) (q : R d) : OpD K (rIxT K) (.tup ds) (.int i) R := fun S H v1 v2 e p1 p2 Q k => by
  cases p1 with
  | tup hs rs =>
    cases p2
    obtain ⟨v, h1, h2⟩ := rs.atI h
    exact ⟨_, _, i, v, rfl, rfl, e.t hs, h1, k _ _ S H q (Gx.refl e) h2⟩
theorem od_ix {ds : List D} {i : Int} {d : D} (h : atI ds i = some d) (q : R d) : OpD K (rIx K) (.lst ds) (.int i) R := fun S H v1 v2 e p1 p2 Q k => .inl (od_ixL h q S H v1 v2 e p1 p2 Q k)
theorem od_ixt {ds : List D} {i : Int} {d : D} (h : atI ds i = some d) (q : R d) : OpD K (rIx K) (.tup ds) (.int i) R := fun S H v1 v2 e p1 p2 Q k => .inr (.inl (od_ixT h q S H v1 v2 e p1 p2 Q k))
theorem od_ixs {z : Str} {i : Int} {c : Nat} (hz : z.length ≤ sizeLine) (h : atI z.cps.toList i = some c) (q : R (.str ⟨#[c]⟩)) : OpD K (rIx K) (.str z) (.int i) R := fun S H v1 v2 e p1 p2 Q k => by
  cases p1; cases p2
  exact .inr (.inr ⟨z, i, c, rfl, rfl, hz, h, k _ _ S H q (Gx.refl e) (.str _)⟩)
/-- an item of one's own list -/
theorem ev_ixOw {i : Nat} {ds : List D} (h : δ[i]? = some (.ow ds)) (hb : EvR K S0 H0 tb δ fun d => ∃ (n : Int) (x : D), d = .int n ∧ atI ds n = some x ∧ R x) : EvR K S0 H0 (tOp (rIx K) (tVar i) tb) δ R := fun S H σ c Q k => by
  obtain ⟨a, xs, h1, h2, h3, h4, h5⟩ := c.ow i ds h
  refine ⟨_, h1, hb S H σ c _ fun d v S1 H1 ⟨n, x, e, ha, q⟩ g p => ?_⟩
  subst e
  cases p
  obtain ⟨w, k1, k2⟩ := (h5.mono g.s).atI ha
  exact .inl ⟨a, xs, n, w, rfl, rfl, SqL.of (g.h _ _ h2), k1, k _ _ S1 H1 q g k2⟩

/-! + of lists, of texts -/
theorem map_ints_app (a b : List Int) : a.map D.int ++ b.map D.int = (a ++ b).map D.int := by rw [List.map_append]

/-! tests -/
theorem et_test {R : Bool → Prop} (h : EvR K S0 H0 te δ fun d => ∃ b, d = .bl b ∧ R b) : EvT K S0 H0 (tTest te) δ R := fun S H σ c Q k =>
  h S H σ c _ fun d v S1 H1 ⟨b, e, q⟩ g p => by
    subst e
    cases p
    exact ⟨b, rfl, k b S1 H1 q g⟩
theorem et_B {R : Bool → Prop} (h : EvR K S0 H0 te δ fun d => ∃ b, d = .bl b ∧ R b) : EvT K S0 H0 (tB te) δ R := fun S H σ c Q k =>
  h S H σ c _ fun d v S1 H1 ⟨b, e, q⟩ g p => by
    subst e
    cases p
    exact ⟨b, rfl, k b S1 H1 q g⟩
theorem et_and {t u : TT} {R : Bool → Prop} (h : EvT K S0 H0 t δ fun b => (b = true → EvT K S0 H0 u δ R) ∧ (b = false → R false)) : EvT K S0 H0 (tAnd t u) δ R := fun S H σ c Q k =>
  h S H σ c _ fun b S1 H1 ⟨q1, q2⟩ g => by
    cases b with
    | true =>
      show u σ H1 Q
      exact q1 rfl S1 H1 σ (c.grow g) Q fun b' S2 H2 r2 g2 => k b' S2 H2 r2 (g.trans g2)
    | false => exact k false S1 H1 (q2 rfl) g
theorem et_or {t u : TT} {R : Bool → Prop} (h : EvT K S0 H0 t δ fun b => (b = false → EvT K S0 H0 u δ R) ∧ (b = true → R true)) : EvT K S0 H0 (tOr t u) δ R := fun S H σ c Q k =>
  h S H σ c _ fun b S1 H1 ⟨q1, q2⟩ g => by
    cases b with
    | false =>
      show u σ H1 Q
      exact q1 rfl S1 H1 σ (c.grow g) Q fun b' S2 H2 r2 g2 => k b' S2 H2 r2 (g.trans g2)
    | true => exact k true S1 H1 (q2 rfl) g
theorem et_not {t : TT} {R : Bool → Prop} (h : EvT K S0 H0 t δ fun b => R (!b)) : EvT K S0 H0 (tNot t) δ R := fun S H σ c Q k =>
  h S H σ c _ fun b S1 H1 q g => k _ S1 H1 q g
theorem EvT.imp {t : TT} {R R' : Bool → Prop} (h : EvT K S0 H0 t δ R) (f : ∀ b, R b → R' b) : EvT K S0 H0 t δ R' := fun S H σ c Q k => h S H σ c Q fun b S' H' r g => k b S' H' (f b r) g
/-- and, or, not as values -/
theorem ev_andV (h : EvR K S0 H0 ta δ fun d => ∃ b, d = .bl b ∧ (b = true → EvR K S0 H0 tb δ R) ∧ (b = false → R (.bl false))) : EvR K S0 H0 (tAndV ta tb) δ R := fun S H σ c Q k =>
  h S H σ c _ fun d v S1 H1 ⟨b, e, q1, q2⟩ g p => by
    subst e
    cases p
    refine ⟨b, rfl, ?_⟩
    cases b with
    | true =>
      rw [if_pos rfl]
      exact q1 rfl S1 H1 σ (c.grow g) Q fun d' v' S2 H2 r2 g2 p2 => k d' v' S2 H2 r2 (g.trans g2) p2
    | false =>
      rw [if_neg Bool.false_ne_true]
      exact k _ _ S1 H1 (q2 rfl) g (.bl false)
theorem ev_orV (h : EvR K S0 H0 ta δ fun d => ∃ b, d = .bl b ∧ (b = false → EvR K S0 H0 tb δ R) ∧ (b = true → R (.bl true))) : EvR K S0 H0 (tOrV ta tb) δ R := fun S H σ c Q k =>
  h S H σ c _ fun d v S1 H1 ⟨b, e, q1, q2⟩ g p => by
    subst e
    cases p
    refine ⟨b, rfl, ?_⟩
    cases b with
    | false =>
      rw [if_neg Bool.false_ne_true]
      exact q1 rfl S1 H1 σ (c.grow g) Q fun d' v' S2 H2 r2 g2 p2 => k d' v' S2 H2 r2 (g.trans g2) p2
    | true =>
      rw [if_pos rfl]
      exact k _ _ S1 H1 (q2 rfl) g (.bl true)
theorem ev_notV (h : EvR K S0 H0 ta δ fun d => ∃ b, d = .bl b ∧ R (.bl (!b))) : EvR K S0 H0 (tNotV ta) δ R := fun S H σ c Q k =>
  h S H σ c _ fun d v S1 H1 ⟨b, e, q⟩ g p => by
    subst e
    cases p
    exact ⟨b, rfl, k _ _ S1 H1 q g (.bl _)⟩
theorem ev_if {t : TT} (h : EvT K S0 H0 t δ fun b => (b = true → EvR K S0 H0 ta δ R) ∧ (b = false → EvR K S0 H0 tb δ R)) : EvR K S0 H0 (tIf t ta tb) δ R := fun S H σ c Q k =>
  h S H σ c _ fun b S1 H1 ⟨q1, q2⟩ g => by
    cases b with
    | true =>
      rw [if_pos rfl]
      exact q1 rfl S1 H1 σ (c.grow g) Q fun d' v' S2 H2 r2 g2 p2 => k d' v' S2 H2 r2 (g.trans g2) p2
    | false =>
      rw [if_neg Bool.false_ne_true]
      exact q2 rfl S1 H1 σ (c.grow g) Q fun d' v' S2 H2 r2 g2 p2 => k d' v' S2 H2 r2 (g.trans g2) p2
/-- a chain of two comparisons -/
theorem ev_chain {r r' : R2} (h : EvR K S0 H0 ta δ fun d1 => EvR K S0 H0 tb δ fun d2 => OpD K r d1 d2 fun z => ∃ b, z = .bl b ∧ (b = true → EvR K S0 H0 tc δ fun d3 => OpD K r' d2 d3 R) ∧ (b = false → R (.bl false))) : EvR K S0 H0 (tChain r r' ta tb tc) δ R := fun S H σ c Q k =>
  h S H σ c _ fun d1 v1 S1 H1 r1 g1 p1 => r1 S1 H1 σ (c.grow g1) _ fun d2 v2 S2 H2 r2 g2 p2 => r2 S2 H2 v1 v2 g2.sub (p1.mono g2.s) p2 _ fun z vz S3 H3 ⟨b, e, q1, q2⟩ g3 p3 => by
    subst e
    cases p3
    refine ⟨b, rfl, ?_⟩
    cases b with
    | true =>
      rw [if_pos rfl]
      exact q1 rfl S3 H3 σ (((c.grow g1).grow g2).grow g3) _ fun d3 v3 S4 H4 r4 g4 p4 => r4 S4 H4 v2 v3 g4.sub ((p2.mono g3.s).mono g4.s) p4 Q fun d v S5 H5 r5 g5 p5 => k d v S5 H5 r5 ((((g1.trans g2).trans g3).trans g4).trans g5) p5
    | false =>
      rw [if_neg Bool.false_ne_true]
      exact k _ _ S3 H3 (q2 rfl) ((g1.trans g2).trans g3) (.bl false)

/-! arguments, displays -/
theorem ea_nil {R : List D → Prop} (q : R []) : EvA K S0 H0 tNil δ R := fun S H σ c Q k => k [] [] S H q (Gx.refl c.g.sub) .nil
theorem ea_cons {ta : TE} {tr : TA} {R : List D → Prop} (h : EvR K S0 H0 ta δ fun d => EvA K S0 H0 tr δ fun ds => R (d :: ds)) : EvA K S0 H0 (tCons ta tr) δ R := fun S H σ c Q k =>
  h S H σ c _ fun d v S1 H1 r1 g1 p1 => r1 S1 H1 σ (c.grow g1) _ fun ds vs S2 H2 r2 g2 p2 => k (d :: ds) (v :: vs) S2 H2 r2 (g1.trans g2) (.cons (p1.mono g2.s) p2)
theorem eha_nil {R : List D → Prop} (q : R []) : EvHA K S0 H0 tNil δ R := fun S H σ c Q k => k [] [] S H q (Gx.refl c.g.sub) .nil
theorem eha_cons {ta : TE} {tr : TA} {R : List D → Prop} (h : EvH K S0 H0 ta δ fun d => EvHA K S0 H0 tr δ fun ds => R (d :: ds)) : EvHA K S0 H0 (tCons ta tr) δ R := fun S H σ c Q k =>
  h S H σ c _ fun d v S1 H1 r1 g1 p1 => r1 S1 H1 σ (c.grow g1) _ fun ds vs S2 H2 r2 g2 p2 => k (d :: ds) (v :: vs) S2 H2 r2 (g1.trans g2) (.cons (p1.mono (Tn.up g2.h)) p2)
theorem ev_tup {ta : TA} (h : EvA K S0 H0 ta δ fun ds => ds.length ≤ 100 ∧ R (.tup ds)) : EvR K S0 H0 (tTup ta) δ R := fun S H σ c Q k =>
  h S H σ c _ fun ds vs S1 H1 ⟨hl, q⟩ g p => ⟨by rw [p.length]; exact Nat.le_trans hl (by decide), fun a ha => k _ _ (upd S1 a (.tup vs)) _ q (g.trans (Gx.new g.sub ha)) (.tup (SqT.of upd_same) (p.mono (Ex.new (g.sub.free ha))))⟩
theorem en_lst {ta : TA} {R : List D → Prop} (h : EvA K S0 H0 ta δ fun ds => ds.length ≤ 100 ∧ R ds) : EvN K S0 H0 (tLst ta) δ R := fun S H σ c Q k =>
  h S H σ c _ fun ds vs S1 H1 ⟨hl, q⟩ g p => ⟨by rw [p.length]; exact Nat.le_trans hl (by decide), fun a ha => k ds a vs S1 _ q (g.trans (Gx.mine g.sub ha)) (g.h.free ha) (g.sub.free ha) upd_same p⟩
theorem ev_lst {ta : TA} (h : EvA K S0 H0 ta δ fun ds => ds.length ≤ 100 ∧ R (.lst ds)) : EvR K S0 H0 (tLst ta) δ R := (en_lst (R := fun ds => R (.lst ds)) h).r
theorem eo_none {R : Option Int → Prop} (q : R none) : EvO K S0 H0 tNoPart δ R := fun S H σ c Q k => k none S H q (Gx.refl c.g.sub)
theorem eo_some {R : Option Int → Prop} (h : EvR K S0 H0 te δ fun d => ∃ n, d = .int n ∧ R (some n)) : EvO K S0 H0 (tPart te) δ R := fun S H σ c Q k =>
  h S H σ c _ fun d v S1 H1 ⟨n, e, q⟩ g p => by
    subst e
    cases p
    exact ⟨n, rfl, k _ S1 H1 q g⟩
/-- xs[a:b], new -/
def cutD (ds : List D) (lo hi : Option Int) : List D := (ds.drop (HT.sIx ds.length 0 lo)).take (HT.sIx ds.length ds.length hi - HT.sIx ds.length 0 lo)
theorem Rps.cut {S : Hp} {vs : List V} {ds : List D} (h : Rps K S vs ds) (lo hi : Option Int) : Rps K S (cutV vs lo hi) (cutD ds lo hi) := by
  unfold cutV cutD
  rw [h.length]
  exact (h.drop _).take _
theorem en_sl {tl th : TO} {R : List D → Prop} (h : EvR K S0 H0 te δ fun d => ∃ ds, d = .lst ds ∧ EvO K S0 H0 tl δ fun lo => EvO K S0 H0 th δ fun hi => R (cutD ds lo hi)) : EvN K S0 H0 (tSl (rSlL K) te tl th) δ R := fun S H σ c Q k =>
  h S H σ c _ fun d v S1 H1 ⟨ds, e, q⟩ g p => q S1 H1 σ (c.grow g) _ fun lo S2 H2 q2 g2 => q2 S2 H2 σ ((c.grow g).grow g2) _ fun hi S3 H3 q3 g3 => by
    subst e
    cases p with
    | lst hs rs => exact ⟨_, _, rfl, (g3.sub).l (g3.s.l (g2.s.l hs)), fun a ha => k _ a _ S3 _ q3 (((g.trans g2).trans g3).trans (Gx.mine g3.sub ha)) (((g.trans g2).trans g3).h.free ha) (g3.sub.free ha) upd_same (((rs.mono g2.s).mono g3.s).cut lo hi)⟩
theorem ev_sl {tl th : TO} (h : EvR K S0 H0 te δ fun d => ∃ ds, d = .lst ds ∧ EvO K S0 H0 tl δ fun lo => EvO K S0 H0 th δ fun hi => R (.lst (cutD ds lo hi))) : EvR K S0 H0 (tSl (rSlL K) te tl th) δ R := (en_sl (R := fun ds => R (.lst ds)) h).r
/-- a field -/
theorem ev_fld {f : Str} (h : EvR K S0 H0 ta δ fun d => ∃ C fs x, d = .ins C fs ∧ Cls K (He.ga K C) ∧ NoAttr K (He.ga K C) f ∧ fs.lookup f = some x ∧ R x) : EvR K S0 H0 (tFld K ta f) δ R := fun S H σ c Q k =>
  h S H σ c _ fun d v S1 H1 ⟨C, fs, x, e, hc, hn, hl, q⟩ g p => by
    subst e
    cases p with
    | ins hs rs =>
      obtain ⟨w, k1, k2⟩ := rs.lookup hl
      exact ⟨_, _, _, _, w, rfl, g.sub _ _ hs, hc, hn, k1, k _ _ S1 H1 q g k2⟩
theorem eh_fld {f : Str} (h : EvH K S0 H0 ta δ fun d => ∃ C fs x, d = .ins C fs ∧ Cls K (He.ga K C) ∧ NoAttr K (He.ga K C) f ∧ fs.lookup f = some x ∧ R x) : EvH K S0 H0 (tFld K ta f) δ R := fun S H σ c Q k =>
  h S H σ c _ fun d v S1 H1 ⟨C, fs, x, e, hc, hn, hl, q⟩ g p => by
    subst e
    cases p with
    | ins hs rs =>
      obtain ⟨w, k1, k2⟩ := rs.lookup hl
      exact ⟨_, _, _, _, w, rfl, Tn.h (c.g.trans g) _ _ hs, hc, hn, k1, k _ _ S1 H1 q g k2⟩
end

/-! ### 5. what a def promises, by data -/
section
variable (K : PySem.W.Frag)
/-- Pre ds R X: of such data it gives what R says, or an error of a class that X names -/
abbrev PreT : Type := List D → (D → Prop) → (Str → Prop) → Prop
def XOk (S0 H0 : Hp) (E : XK) (X : Str → Prop) : Prop := ∀ c S' H', X c → Gx S0 H0 S' H' → E (.ref (He.ga K c)) none H'
def SpP (Pre : PreT) : Sp := fun vs H Q E => ∃ S ds R X, Ex S H ∧ Rps K S vs ds ∧ Pre ds R X ∧ (∀ d v S' H', R d → Gx S H S' H' → Rp K S' v d → Q v H') ∧ XOk K S H E X
end
section
variable {K : PySem.W.Frag} {S0 H0 : Hp} {δ : List Sl} {R : D → Prop} {X : Str → Prop} {E : XK} {ta te : TE} {t : TA} {Pre : PreT}
theorem XOk.no {S0 H0 : Hp} : XOk K S0 H0 E (fun _ => False) := fun _ _ _ h => h.elim
theorem XOk.grow {S H : Hp} (h : XOk K S0 H0 E X) (g : Gx S0 H0 S H) : XOk K S H E X := fun c S' H' x g' => h c S' H' x (g.trans g')
theorem ev_call (hE : XOk K S0 H0 E X) (h : EvA K S0 H0 t δ fun ds => Pre ds R X) : EvR K S0 H0 (tCall (SpP K Pre) [] E t) δ R := fun S H σ c Q k =>
  h S H σ c _ fun ds vs S1 H1 q g p => ⟨S1, ds, R, X, g.sub, by rw [List.append_nil]; exact p, q, fun d v S' H' r g' p' => k d v S' H' r (g.trans g') p', hE.grow (c.g.trans g)⟩
theorem eh_call (hE : XOk K S0 H0 E X) (h : EvHA K S0 H0 t δ fun ds => Pre ds R X) : EvH K S0 H0 (tCall (SpP K Pre) [] E t) δ R := fun S H σ c Q k =>
  h S H σ c _ fun ds vs S1 H1 q g p => ⟨_, ds, R, X, Tn.h (c.g.trans g), by rw [List.append_nil]; exact p, q, fun d v S' H' r g' p' => k d v S1 H' r (g.trans (Gx.grown g.sub g'.h)) (p'.mono (Tn.ext (c.g.trans g) g')),
    fun cl S' H' x g' => hE cl S1 H' x (c.g.trans (g.trans (Gx.grown g.sub g'.h)))⟩
theorem ev_meth {C : Addr} {m : Str} (hE : XOk K S0 H0 E X) (h : EvR K S0 H0 ta δ fun d => ∃ Cn fs, d = .ins Cn fs ∧ He.ga K Cn = C ∧ fs.lookup m = none ∧ EvA K S0 H0 t δ fun ds => Pre (d :: ds) R X) : EvR K S0 H0 (tMeth C m (SpP K Pre) [] E ta t) δ R := fun S H σ c Q k =>
  h S H σ c _ fun d v S1 H1 ⟨Cn, fs, e, hC, hl, q⟩ g p => by
    have p0 := p
    subst e
    cases p with
    | ins hs rs =>
      subst hC
      refine ⟨_, _, _, rfl, g.sub _ _ hs, rs.none hl, q S1 H1 σ (c.grow g) _ fun ds vs S2 H2 q2 g2 p2 => ?_⟩
      refine ⟨S2, _ :: ds, R, X, g2.sub, ?_, q2, fun d' v' S' H' r g' p' => k d' v' S' H' r ((g.trans g2).trans g') p', hE.grow (c.g.trans (g.trans g2))⟩
      rw [List.append_nil]
      exact .cons (p0.mono g2.s) p2
theorem eh_meth {C : Addr} {m : Str} (hE : XOk K S0 H0 E X) (h : EvH K S0 H0 ta δ fun d => ∃ Cn fs, d = .ins Cn fs ∧ He.ga K Cn = C ∧ fs.lookup m = none ∧ EvHA K S0 H0 t δ fun ds => Pre (d :: ds) R X) : EvH K S0 H0 (tMeth C m (SpP K Pre) [] E ta t) δ R := fun S H σ c Q k =>
  h S H σ c _ fun d v S1 H1 ⟨Cn, fs, e, hC, hl, q⟩ g p => by
    have p0 := p
    subst e
    cases p with
    | ins hs rs =>
      subst hC
      refine ⟨_, _, _, rfl, Tn.h (c.g.trans g) _ _ hs, rs.none hl, q S1 H1 σ (c.grow g) _ fun ds vs S2 H2 q2 g2 p2 => ?_⟩
      refine ⟨_, _ :: ds, R, X, Tn.h (c.g.trans (g.trans g2)), ?_, q2, fun d' v' S' H' r g' p' => k d' v' S2 H' r ((g.trans g2).trans (Gx.grown g2.sub g'.h)) (p'.mono (Tn.ext (c.g.trans (g.trans g2)) g')), fun cl S' H' x g' => hE cl S2 H' x (c.g.trans ((g.trans g2).trans (Gx.grown g2.sub g'.h)))⟩
      rw [List.append_nil]
      exact .cons (p0.mono (Tn.up g2.h)) p2
/-- C(..) by an __init__ that is told by data: the new instance's data in the end; what is handed in may lean on more than what is given -/
def SpI (K : PySem.W.Frag) (C : Str) (Pre : PreT) : Sp := fun vs H Q E => ∃ x dx ws H1 SA S ds R X, vs = .ref x :: ws ∧ H = upd (upd H1 dx (.own x)) x (.ins (He.ga K C) dx []) ∧ H1 x = none ∧ H1 dx = none ∧ dx ≠ x ∧ Ex SA H1 ∧ Ex S H1 ∧ Rps K SA ws ds ∧ Pre ds R X ∧
  (∀ d S' H', R d → Gx S H1 S' H' → Rp K S' (.ref x) d → Q .non H') ∧ (∀ c S' H', X c → Ex H1 H' → Gx S H1 S' H' → E (.ref (He.ga K c)) none H')
theorem ev_make {C : Str} (hE : XOk K S0 H0 E X) (h : EvA K S0 H0 t δ fun ds => Pre ds R X) : EvR K S0 H0 (tMake (He.ga K C) (SpI K C Pre) [] E t) δ R := fun S H σ c Q k =>
  h S H σ c _ fun ds vs S1 H1 q g p => fun x dx hx hdx hne => ⟨x, dx, vs, H1, S1, S1, ds, R, X, by rw [List.append_nil], rfl, hx, hdx, hne, g.sub, g.sub, p, q, fun d S' H' r g' p' => ⟨rfl, k d _ S' H' r (g.trans g') p'⟩, fun c' S' H' hx _ g' => hE.grow (c.g.trans g) c' S' H' hx g'⟩
theorem ev_makeH {C : Str} (hE : XOk K S0 H0 E X) (h : EvHA K S0 H0 t δ fun ds => Pre ds R X) : EvR K S0 H0 (tMake (He.ga K C) (SpI K C Pre) [] E t) δ R := fun S H σ c Q k =>
  h S H σ c _ fun ds vs S1 H1 q g p => fun x dx hx hdx hne => ⟨x, dx, vs, H1, _, S1, ds, R, X, by rw [List.append_nil], rfl, hx, hdx, hne, Tn.h (c.g.trans g), g.sub, p, q, fun d S' H' r g' p' => ⟨rfl, k d _ S' H' r (g.trans g') p'⟩, fun c' S' H' hx _ g' => hE.grow (c.g.trans g) c' S' H' hx g'⟩
/-- Pre ds R X: of such data it gives a new list that R tells -/
abbrev PreN : Type := List D → (List D → Prop) → (Str → Prop) → Prop
def SpN (K : PySem.W.Frag) (Pre : PreN) : Sp := fun vs H Q E => ∃ S ds R X, Ex S H ∧ Rps K S vs ds ∧ Pre ds R X ∧ (∀ es a xs S' H', R es → Gx S H S' H' → H a = none → S' a = none → H' a = some (.lst xs) → Rps K S' xs es → Q (.ref a) H') ∧ XOk K S H E X
theorem en_call {Pre : PreN} {R : List D → Prop} (hE : XOk K S0 H0 E X) (h : EvA K S0 H0 t δ fun ds => Pre ds R X) : EvN K S0 H0 (tCall (SpN K Pre) [] E t) δ R := fun S H σ c Q k =>
  h S H σ c _ fun ds vs S1 H1 q g p => ⟨S1, ds, R, X, g.sub, by rw [List.append_nil]; exact p, q, fun es a xs S' H' r g' ha sa h1 rs => k es a xs S' H' r (g.trans g') (g.h.free ha) sa h1 rs, hE.grow (c.g.trans g)⟩
theorem en_meth {Pre : PreN} {R : List D → Prop} {C : Addr} {m : Str} (hE : XOk K S0 H0 E X) (h : EvR K S0 H0 ta δ fun d => ∃ Cn fs, d = .ins Cn fs ∧ He.ga K Cn = C ∧ fs.lookup m = none ∧ EvA K S0 H0 t δ fun ds => Pre (d :: ds) R X) : EvN K S0 H0 (tMeth C m (SpN K Pre) [] E ta t) δ R := fun S H σ c Q k =>
  h S H σ c _ fun d v S1 H1 ⟨Cn, fs, e, hC, hl, q⟩ g p => by
    have p0 := p
    subst e
    cases p with
    | ins hs rs =>
      subst hC
      refine ⟨_, _, _, rfl, g.sub _ _ hs, rs.none hl, q S1 H1 σ (c.grow g) _ fun ds vs S2 H2 q2 g2 p2 => ?_⟩
      refine ⟨S2, _ :: ds, R, X, g2.sub, ?_, q2, fun es a xs S' H' r g' ha sa h1 rs => k es a xs S' H' r ((g.trans g2).trans g') ((g.trans g2).h.free ha) sa h1 rs, hE.grow (c.g.trans (g.trans g2))⟩
      rw [List.append_nil]
      exact .cons (p0.mono g2.s) p2
/-- list(x), new -/
theorem en_listL {R : List D → Prop} (h : EvR K S0 H0 ta δ fun d => ∃ ds, d = .lst ds ∧ R ds) : EvN K S0 H0 (tCB (fun xs H Q => ∃ p ys, xs = [.ref p] ∧ (SqL K H p ys ∨ SqT K H p ys) ∧ ∀ l, H l = none → Q (.ref l) (upd H l (.lst ys))) (tCons ta tNil)) δ R := fun S H σ c Q k =>
  h S H σ c _ fun d v S1 H1 ⟨ds, e, q⟩ g p => by
    subst e
    cases p with
    | lst hs rs => exact ⟨_, _, rfl, .inl (g.sub.l hs), fun l hl => k ds l _ S1 _ q (g.trans (Gx.mine g.sub hl)) (g.h.free hl) (g.sub.free hl) upd_same rs⟩
/-- a built-in's call -/
theorem ev_cb {r : List V → Hp → VK → Prop} (h : EvA K S0 H0 t δ fun ds => CaD K r ds R) : EvR K S0 H0 (tCB r t) δ R := fun S H σ c Q k =>
  h S H σ c _ fun ds vs S1 H1 q g p => q S1 H1 vs g.sub p Q fun d v S' H' r g' p' => k d v S' H' r (g.trans g') p'
theorem ev_cbH {r : List V → Hp → VK → Prop} (h : EvHA K S0 H0 t δ fun ds => CaD K r ds R) (f : ∀ d, R d → d.flat = true) : EvR K S0 H0 (tCB r t) δ R := fun S H σ c Q k =>
  h S H σ c _ fun ds vs S1 H1 q g p => q _ H1 vs (Tn.h (c.g.trans g)) p Q fun d v S' H' r g' p' => k d v S1 H' r (g.trans (Gx.grown g.sub g'.h)) (p'.flat (f d r))
theorem ca_lenL {ds : List D} (q : R (.int ds.length)) : CaD K (fun xs H Q => ∃ x n, xs = [x] ∧ LenV K x H n ∧ Q (.int n) H) [.lst ds] R := fun S H vs e p Q k => by
  cases p with
  | cons p1 p2 =>
    cases p2
    cases p1 with
    | lst hs rs => exact ⟨_, ds.length, rfl, .inl ⟨_, e.l hs, rs.length.symm⟩, k _ _ S H q (Gx.refl e) (.int _)⟩
theorem ca_lenT {ds : List D} (q : R (.int ds.length)) : CaD K (fun xs H Q => ∃ x n, xs = [x] ∧ LenV K x H n ∧ Q (.int n) H) [.tup ds] R := fun S H vs e p Q k => by
  cases p with
  | cons p1 p2 =>
    cases p2
    cases p1 with
    | tup hs rs => exact ⟨_, ds.length, rfl, .inr ⟨_, e.t hs, rs.length.symm⟩, k _ _ S H q (Gx.refl e) (.int _)⟩
theorem ca_sum {ns : List Int} (q : R (.int ns.sum)) : CaD K (rSum K) [dI ns] R := fun S H vs e p Q k => by
  cases p with
  | cons p1 p2 =>
    cases p2
    cases p1 with
    | lst hs rs =>
      cases rs.of_ints
      exact ⟨_, ns, rfl, e.l hs, k _ _ S H q (Gx.refl e) (.int _)⟩
theorem ca_max2 {a b : Int} (q : R (.int (if b > a then b else a))) : CaD K (fun xs H Q => ∃ i j, xs = [.int i, .int j] ∧ Q (.int (if j > i then j else i)) H) [.int a, .int b] R := fun S H vs e p Q k => by
  cases p with
  | cons p1 p2 =>
    cases p2 with
    | cons p2 p3 =>
      cases p3; cases p1; cases p2
      exact ⟨a, b, rfl, k _ _ S H q (Gx.refl e) (.int _)⟩
theorem ca_min2 {a b : Int} (q : R (.int (if b < a then b else a))) : CaD K (fun xs H Q => ∃ i j, xs = [.int i, .int j] ∧ Q (.int (if j < i then j else i)) H) [.int a, .int b] R := fun S H vs e p Q k => by
  cases p with
  | cons p1 p2 =>
    cases p2 with
    | cons p2 p3 =>
      cases p3; cases p1; cases p2
      exact ⟨a, b, rfl, k _ _ S H q (Gx.refl e) (.int _)⟩
theorem ca_list {ds : List D} (q : R (.lst ds)) : CaD K (fun xs H Q => ∃ p ys, xs = [.ref p] ∧ (SqL K H p ys ∨ SqT K H p ys) ∧ ∀ l, H l = none → Q (.ref l) (upd H l (.lst ys))) [.lst ds] R := fun S H vs e p Q k => by
  cases p with
  | cons p1 p2 =>
    cases p2
    cases p1 with
    | lst hs rs => exact ⟨_, _, rfl, .inl (e.l hs), fun l hl => k _ _ (upd S l (.lst _)) _ q (Gx.new e hl) (.lst (SqL.of upd_same) (rs.mono (Ex.new (e.free hl))))⟩
theorem ca_all {bs : List Bool} (q : R (.bl (bs.all id))) : CaD K (rAll K) [.lst (bs.map D.bl)] R := fun S H vs e p Q k => by
  cases p with
  | cons p1 p2 =>
    cases p2
    cases p1 with
    | lst hs rs =>
      cases rs.of_bls
      exact ⟨_, bs, rfl, e.l hs, k _ _ S H q (Gx.refl e) (.bl _)⟩
end
end Ag

namespace Ag
open PySem PySem.Spec PyProof.Rows L2

/-! ### 6. statements -/
structure DE where
  nx : List Sl → Prop
  rt : D → Prop
  bk : List Sl → Prop := fun _ => False
  ct : List Sl → Prop := fun _ => False
  rn : List D → Prop := fun ds => rt (.lst ds)
structure EOk (K : PySem.W.Frag) (S0 H0 S : Hp) (Dn : Ends) (e : DE) : Prop where
  nx : ∀ δ S' H σ, e.nx δ → Ex S S' → Cf K S0 H0 δ S' H σ → Dn.nx σ H
  rt : ∀ d v S' H, e.rt d → Gx S0 H0 S' H → Rp K S' v d → Dn.rt v H
  bk : ∀ δ S' H σ, e.bk δ → Ex S S' → Cf K S0 H0 δ S' H σ → Dn.bk σ H
  ct : ∀ δ S' H σ, e.ct δ → Ex S S' → Cf K S0 H0 δ S' H σ → Dn.ct σ H
  rn : ∀ ds a xs S' H, e.rn ds → Gx S0 H0 S' H → H0 a = none → S' a = none → H a = some (.lst xs) → Rps K S' xs ds → Dn.rt (.ref a) H
def WpS (K : PySem.W.Frag) (S0 H0 : Hp) (t : TS) (δ : List Sl) (e : DE) : Prop := ∀ S H σ (Dn : Ends), Cf K S0 H0 δ S H σ → EOk K S0 H0 S Dn e → t Dn σ H

section
variable {K : PySem.W.Frag} {S0 H0 : Hp} {δ : List Sl} {e : DE} {te ta tb : TE} {t u : TS} {c : TT}
theorem EOk.up {S S1 : Hp} {Dn : Ends} (o : EOk K S0 H0 S Dn e) (x : Ex S S1) : EOk K S0 H0 S1 Dn e :=
  ⟨fun δ S' H σ h q c => o.nx δ S' H σ h (x.trans q) c, o.rt, fun δ S' H σ h q c => o.bk δ S' H σ h (x.trans q) c, fun δ S' H σ h q c => o.ct δ S' H σ h (x.trans q) c, o.rn⟩
theorem EOk.seq {S : Hp} {Dn : Ends} (o : EOk K S0 H0 S Dn e) : EOk K S0 H0 S { Dn with nx := u Dn } { e with nx := fun δ => WpS K S0 H0 u δ e } :=
  ⟨fun δ S' H σ h q c => h S' H σ Dn c (o.up q), o.rt, o.bk, o.ct, o.rn⟩
theorem ws_seq (h : WpS K S0 H0 t δ { e with nx := fun δ => WpS K S0 H0 u δ e }) : WpS K S0 H0 (tSeq t u) δ e := fun S H σ Dn c o => h S H σ { Dn with nx := u Dn } c o.seq
theorem ws_next (h : e.nx δ) : WpS K S0 H0 tNext δ e := fun S H σ Dn c o => o.nx δ S H σ h (Ex.refl S) c
theorem ws_brk (h : e.bk δ) : WpS K S0 H0 tBreak δ e := fun S H σ Dn c o => o.bk δ S H σ h (Ex.refl S) c
theorem ws_cont (h : e.ct δ) : WpS K S0 H0 tCont δ e := fun S H σ Dn c o => o.ct δ S H σ h (Ex.refl S) c
theorem ws_ret (h : EvR K S0 H0 te δ e.rt) : WpS K S0 H0 (tRet te) δ e := fun S H σ Dn c o => h S H σ c _ fun d v S1 H1 r g p => o.rt d v S1 H1 r (c.g.trans g) p
theorem ws_retH (h : EvH K S0 H0 te δ e.rt) : WpS K S0 H0 (tRet te) δ e := fun S H σ Dn c o => h S H σ c _ fun d v S1 H1 r g p => o.rt d v _ H1 r (Tn.gx (c.g.trans g)) p
/-- a new list is given, still one's own -/
theorem ws_retNw (h : EvN K S0 H0 te δ e.rn) : WpS K S0 H0 (tRet te) δ e := fun S H σ Dn c o => h S H σ c _ fun ds p xs S1 H1 r g hp sp h1 rs => o.rn ds p xs S1 H1 r (c.g.trans g) (c.g.h.free hp) sp h1 rs
theorem ws_retOw {i : Nat} {ds : List D} (q : δ[i]? = some (.ow ds)) (h : e.rn ds) : WpS K S0 H0 (tRet (tVar i)) δ e := fun S H σ Dn c o => by
  obtain ⟨a, xs, h1, h2, h3, h4, h5⟩ := c.ow i ds q
  exact ⟨_, h1, o.rn ds a xs S H h c.g h4 h3 h2 h5⟩
theorem ws_retN (h : e.rt .non) : WpS K S0 H0 tRetN δ e := fun S H σ Dn c o => o.rt .non .non S H h c.g .non
theorem ws_asg {i : Nat} (h : EvR K S0 H0 te δ fun d => e.nx (δ.set i (.sh d))) : WpS K S0 H0 (tAsg te (gName i)) δ e := fun S H σ Dn c o =>
  h S H σ c _ fun d v S1 H1 r g p => o.nx _ S1 H1 _ r g.s ((c.grow g).setSh p)
theorem ws_asgN {i : Nat} (h : EvN K S0 H0 te δ fun ds => e.nx (δ.set i (.ow ds))) : WpS K S0 H0 (tAsg te (gName i)) δ e := fun S H σ Dn c o =>
  h S H σ c _ fun ds p xs S1 H1 r g hp sp h' rs => o.nx _ S1 H1 _ r g.s ((c.grow g).setOw h' sp (c.g.h.free hp) rs (c.notMine hp))
theorem ws_drop (h : EvR K S0 H0 te δ fun _ => e.nx δ) : WpS K S0 H0 (tDrop te) δ e := fun S H σ Dn c o =>
  h S H σ c _ fun d v S1 H1 r g p => o.nx _ S1 H1 _ r g.s (c.grow g)
theorem ws_if (h : EvT K S0 H0 c δ fun b => (b = true → WpS K S0 H0 t δ e) ∧ (b = false → WpS K S0 H0 u δ e)) : WpS K S0 H0 (tIfS c t u) δ e := fun S H σ Dn cf o =>
  h S H σ cf _ fun b S1 H1 ⟨q1, q2⟩ g => by
    cases b with
    | true =>
      rw [if_pos rfl]
      exact q1 rfl S1 H1 σ Dn (cf.grow g) (o.up g.s)
    | false =>
      rw [if_neg Bool.false_ne_true]
      exact q2 rfl S1 H1 σ Dn (cf.grow g) (o.up g.s)
/-- a word between two statements -/
theorem ws_cut {M : List Sl → Prop} (h : WpS K S0 H0 t δ { e with nx := M }) (k : ∀ δ', M δ' → WpS K S0 H0 u δ' e) : WpS K S0 H0 (tSeq t u) δ e := fun S H σ Dn c o =>
  h S H σ { Dn with nx := u Dn } c ⟨fun δ' S' H' σ' m q c' => k δ' m S' H' σ' Dn c' (o.up q), o.rt, o.bk, o.ct, o.rn⟩
theorem ws_un (i : Nat) (h : WpS K S0 H0 t (δ.set i .un) e) : WpS K S0 H0 t δ e := fun S H σ Dn c o => h S H σ Dn (c.forget i) o
theorem ws_freeze {i : Nat} {ds : List D} (q : δ[i]? = some (.ow ds)) (h : WpS K S0 H0 t (δ.set i (.sh (.lst ds))) e) : WpS K S0 H0 t δ e := fun S H σ Dn c o => by
  obtain ⟨S', a, xs, h1, h2, h3, h4, c'⟩ := c.freeze q
  exact h S' H σ Dn c' (o.up h1)
/-- x.append(e), x one's own -/
theorem ws_app {i : Nat} {ds : List D} (q : δ[i]? = some (.ow ds)) (hl : ds.length < 100000) (h : EvR K S0 H0 te δ fun d => e.nx (δ.set i (.ow (ds ++ [d])))) : WpS K S0 H0 (tDrop (tBM K "list" rAppend (tVar i) (tCons te tNil))) δ e := fun S H σ Dn c o => by
  obtain ⟨a, xs, h1, h2, h3, h4, h5⟩ := c.ow i ds q
  refine ⟨_, h1, Or.inl ⟨rfl, xs, SqL.of h2⟩, h S H σ c _ fun d v S1 H1 r g p => ⟨a, xs, v, rfl, rfl, g.h _ _ h2, by rw [h5.length]; exact Nat.lt_of_lt_of_le hl (by decide), ?_⟩⟩
  exact o.nx _ S1 _ σ r g.s ((c.grow g).change q h1 ((h5.mono g.s).app (.one p)))
/-- x[i] = e, x one's own -/
theorem ws_setOw {i : Nat} {ds : List D} (q : δ[i]? = some (.ow ds)) (h : EvR K S0 H0 te δ fun d => EvR K S0 H0 tb δ fun n => ∃ (m : Int) (j : Nat), n = .int m ∧ ixN ds.length m = some j ∧ e.nx (δ.set i (.ow (ds.set j d)))) : WpS K S0 H0 (tAsg te (gSub (tVar i) tb rSetL)) δ e := fun S H σ Dn c o =>
  h S H σ c _ fun d v S1 H1 r g p => by
    obtain ⟨a, xs, h1, h2, h3, h4, h5⟩ := (c.grow g).ow i ds q
    refine ⟨_, h1, r S1 H1 σ (c.grow g) _ fun n w S2 H2 ⟨m, j, e1, e2, k⟩ g2 p2 => ?_⟩
    subst e1
    cases p2
    refine ⟨a, xs, m, j, rfl, rfl, g2.h _ _ h2, by rw [h5.length]; exact e2, ?_⟩
    exact o.nx _ S2 _ σ k (g.s.trans g2.s) (((c.grow g).grow g2).change q h1 ((h5.mono g2.s).set (p.mono g2.s) j))
/-- x = x op e of ints -/
theorem ws_aug {i : Nat} {f : Int → Int → Int} {a : Int} (q : δ[i]? = some (.sh (.int a))) (h : EvR K S0 H0 te δ fun d => ∃ b, d = .int b ∧ e.nx (δ.set i (.sh (.int (f a b))))) : WpS K S0 H0 (tAug i te (ipI f)) δ e := fun S H σ Dn c o => by
  obtain ⟨v, h1, h2⟩ := c.sh i _ q
  cases h2
  exact ⟨_, h1, h S H σ c _ fun d v S1 H1 ⟨b, eb, k⟩ g p => by
    subst eb
    cases p
    exact ⟨a, b, rfl, rfl, o.nx _ S1 H1 _ k g.s ((c.grow g).setSh (.int _))⟩⟩
/-- (a, b, ..) = a tuple -/
def gNames : List Nat → TGs
  | [] => gNil
  | i :: l => gCons (gName i) (gNames l)
def setAll (δ : List Sl) : List Nat → List D → List Sl
  | i :: is, d :: ds => setAll (δ.set i (.sh d)) is ds
  | _, _ => δ
theorem gNames_ok {S : Hp} {H : Hp} : ∀ {l : List Nat} {vs : List V} {ds : List D} {δ : List Sl} {σ : L2.St}, Rps K S vs ds → l.length = ds.length → ∀ {Q : L2.St → Hp → Prop}, (∀ σ', (∀ S' H', Ex S S' → Cf K S0 H0 δ S' H' σ → Cf K S0 H0 (setAll δ l ds) S' H' σ') → Q σ' H) → gNames l vs σ H Q
  | [], vs, ds, δ, σ, r, hl, Q, k => by
    cases ds with
    | nil => cases r; exact ⟨rfl, k σ fun _ _ _ c => c⟩
    | cons _ _ => cases hl
  | i :: l, vs, ds, δ, σ, r, hl, Q, k => by
    cases ds with
    | nil => cases hl
    | cons d ds =>
      cases r with
      | cons r rs =>
        refine ⟨_, _, rfl, ?_⟩
        exact gNames_ok rs (Nat.succ.inj hl) fun σ' k' => k σ' fun S' H' x c => k' S' H' x (c.setSh (r.mono x))
theorem ws_asgT {l : List Nat} {n : Nat} {g : TGs} (hg : g = gNames l) (hn : l.length = n) (h : EvR K S0 H0 te δ fun d => ∃ ds, d = .tup ds ∧ ds.length = n ∧ e.nx (setAll δ l ds)) : WpS K S0 H0 (tAsg te (gTup K n g)) δ e := fun S H σ Dn c o =>
  h S H σ c _ fun d v S1 H1 ⟨ds, ed, hl, k⟩ g p => by
    subst ed
    subst hg
    cases p with
    | tup hs rs => exact ⟨_, _, rfl, g.sub.t hs, by rw [rs.length]; exact hl, gNames_ok rs (hn.trans hl.symm) fun σ' c' => o.nx _ S1 H1 σ' k g.s (c' S1 H1 (Ex.refl S1) (c.grow g))⟩

/-! loops: Inv, a word of the turn and the slots -/
/-- the target of a loop: one name, or names for a tuple -/
structure TgOk (K : PySem.W.Frag) (S0 H0 : Hp) (g : TG) (f : List Sl → D → List Sl) (P : D → Prop) : Prop where
  go : ∀ {d v δ S H σ}, P d → Rp K S v d → Cf K S0 H0 δ S H σ → ∀ {Q : L2.St → Hp → Prop}, (∀ σ', (∀ S' H', Ex S S' → Cf K S0 H0 δ S' H' σ → Cf K S0 H0 (f δ d) S' H' σ') → Q σ' H) → g v σ H Q
theorem tg_name {j : Nat} : TgOk K S0 H0 (gName j) (fun δ d => δ.set j (.sh d)) (fun _ => True) := ⟨fun _ r c _ k => k _ fun S' H' x c' => c'.setSh (r.mono x)⟩
def tupL : D → List D
  | .tup ds => ds
  | _ => []
theorem tg_tup {l : List Nat} {n : Nat} {g : TGs} (hg : g = gNames l) (hn : l.length = n) : TgOk K S0 H0 (gTup K n g) (fun δ d => setAll δ l (tupL d)) (fun d => ∃ ds, d = .tup ds ∧ ds.length = n) := ⟨fun {d v δ S H σ} ⟨ds, ed, hl⟩ r c Q k => by
  subst ed
  subst hg
  cases r with
  | tup hs rs => exact ⟨_, _, rfl, c.g.sub.t hs, by rw [rs.length]; exact hl, gNames_ok rs (hn.trans hl.symm) k⟩⟩
/-- over a list that is shared -/
theorem ws_forL {g : TG} {f : List Sl → D → List Sl} {P : D → Prop} {ds : List D} {tl : TE} (tg : TgOk K S0 H0 g f P) (Inv : Nat → List Sl → Prop) (h : EvR K S0 H0 tl δ fun d => d = .lst ds ∧ Inv 0 δ)
    (hs : ∀ (i : Nat) d δ', ds[i]? = some d → Inv i δ' → P d ∧ WpS K S0 H0 t (f δ' d) { nx := Inv (i + 1), ct := Inv (i + 1), bk := e.nx, rt := e.rt, rn := e.rn }) (hd : ∀ δ', Inv ds.length δ' → e.nx δ') : WpS K S0 H0 (tFor (iList K tl) g t) δ e := fun S H σ Dn c o =>
  h S H σ c _ fun d v S1 H1 ⟨ed, i0⟩ g p => by
    subst ed
    cases p with
    | @lst a xs _ hs1 rs =>
      refine ⟨a, rfl, ⟨xs, g.sub.l hs1⟩, for_list (fun i σ2 H2 => ∃ δ2 S2, Inv i δ2 ∧ Ex S1 S2 ∧ Cf K S0 H0 δ2 S2 H2 σ2) ⟨δ, S1, i0, Ex.refl S1, c.grow g⟩ (fun i σ2 H2 _ ⟨δ2, S2, _, ex, c2⟩ => c2.g.sub.l (ex.l hs1)) ?_ ?_⟩
      · rintro i x σ2 H2 hx ⟨δ2, S2, i2, ex, c2⟩
        obtain ⟨d, hd1, hr⟩ := rs.get' hx
        obtain ⟨hP, hw⟩ := hs i d δ2 hd1 i2
        refine tg.go hP (hr.mono ex) c2 fun σ3 c3 => hw S2 H2 σ3 _ (c3 S2 H2 (Ex.refl S2) c2) ⟨?_, o.rt, ?_, ?_, o.rn⟩
        · exact fun δ3 S3 H3 σ3 i3 q c3 => ⟨δ3, S3, i3, ex.trans q, c3⟩
        · exact fun δ3 S3 H3 σ3 i3 q c3 => o.nx δ3 S3 H3 σ3 i3 ((g.s.trans ex).trans q) c3
        · exact fun δ3 S3 H3 σ3 i3 q c3 => ⟨δ3, S3, i3, ex.trans q, c3⟩
      · rintro σ2 H2 ⟨δ2, S2, i2, ex, c2⟩
        exact o.nx δ2 S2 H2 σ2 (hd δ2 (by rw [← rs.length]; exact i2)) (g.s.trans ex) c2
/-- over one's own list, which stays as it is -/
theorem ws_forO {g : TG} {f : List Sl → D → List Sl} {P : D → Prop} {ds : List D} {k : Nat} (tg : TgOk K S0 H0 g f P) (hk : δ[k]? = some (.ow ds)) (Inv : Nat → List Sl → Prop) (h0 : Inv 0 (δ.set k (.sh (.lst ds))))
    (hs : ∀ (i : Nat) d δ', ds[i]? = some d → Inv i δ' → P d ∧ WpS K S0 H0 t (f δ' d) { nx := Inv (i + 1), ct := Inv (i + 1), bk := e.nx, rt := e.rt, rn := e.rn }) (hd : ∀ δ', Inv ds.length δ' → e.nx δ') : WpS K S0 H0 (tFor (iList K (tVar k)) g t) δ e :=
  ws_freeze hk (ws_forL tg Inv (ev_var (by
    have hl := (List.getElem?_eq_some_iff.mp hk).1
    exact List.getElem?_set_self hl) ⟨rfl, h0⟩) hs hd)
theorem ws_forR1 {g : TG} {f : List Sl → D → List Sl} {P : D → Prop} {n : Int} {ta : TA} (tg : TgOk K S0 H0 g f P) (Inv : Nat → List Sl → Prop) (h : EvA K S0 H0 ta δ fun ds => ds = [.int n] ∧ -(2 ^ 62) ≤ n ∧ n < 2 ^ 62 ∧ Inv 0 δ)
    (hs : ∀ (i : Nat) δ', (i : Int) < n → Inv i δ' → P (.int i) ∧ WpS K S0 H0 t (f δ' (.int i)) { nx := Inv (i + 1), ct := Inv (i + 1), bk := e.nx, rt := e.rt, rn := e.rn }) (hd : ∀ δ', Inv n.toNat δ' → e.nx δ') : WpS K S0 H0 (tFor (iRng1 ta) g t) δ e := fun S H σ Dn c o =>
  h S H σ c _ fun ds vs S1 H1 ⟨ed, b1, b2, i0⟩ g p => by
    subst ed
    cases p with
    | cons p1 p2 =>
      cases p2
      cases p1
      refine ⟨n, rfl, b1, b2, for_range (lo := 0) (n := n.toNat) (fun i σ2 H2 => ∃ δ2 S2, Inv i δ2 ∧ Ex S1 S2 ∧ Cf K S0 H0 δ2 S2 H2 σ2) ⟨δ, S1, i0, Ex.refl S1, c.grow g⟩ ?_ ?_⟩
      · rintro i σ2 H2 hi ⟨δ2, S2, i2, ex, c2⟩
        obtain ⟨hP, hw⟩ := hs i δ2 (by omega) i2
        rw [Int.zero_add]
        refine tg.go hP (.int _) c2 fun σ3 c3 => hw S2 H2 σ3 _ (c3 S2 H2 (Ex.refl S2) c2) ⟨?_, o.rt, ?_, ?_, o.rn⟩
        · exact fun δ3 S3 H3 σ3 i3 q c3 => ⟨δ3, S3, i3, ex.trans q, c3⟩
        · exact fun δ3 S3 H3 σ3 i3 q c3 => o.nx δ3 S3 H3 σ3 i3 ((g.s.trans ex).trans q) c3
        · exact fun δ3 S3 H3 σ3 i3 q c3 => ⟨δ3, S3, i3, ex.trans q, c3⟩
      · rintro σ2 H2 ⟨δ2, S2, i2, ex, c2⟩
        exact o.nx δ2 S2 H2 σ2 (hd δ2 i2) (g.s.trans ex) c2
theorem ws_forR2 {g : TG} {f : List Sl → D → List Sl} {P : D → Prop} {m n : Int} {ta : TA} (tg : TgOk K S0 H0 g f P) (Inv : Nat → List Sl → Prop) (h : EvA K S0 H0 ta δ fun ds => ds = [.int m, .int n] ∧ (-(2 ^ 62) ≤ m ∧ m < 2 ^ 62 ∧ -(2 ^ 62) ≤ n ∧ n < 2 ^ 62) ∧ Inv 0 δ)
    (hs : ∀ (i : Nat) δ', m + (i : Int) < n → Inv i δ' → P (.int (m + i)) ∧ WpS K S0 H0 t (f δ' (.int (m + i))) { nx := Inv (i + 1), ct := Inv (i + 1), bk := e.nx, rt := e.rt, rn := e.rn }) (hd : ∀ δ', Inv (n - m).toNat δ' → e.nx δ') : WpS K S0 H0 (tFor (iRng2 ta) g t) δ e := fun S H σ Dn c o =>
  h S H σ c _ fun ds vs S1 H1 ⟨ed, b, i0⟩ g p => by
    subst ed
    cases p with
    | cons p1 p2 =>
      cases p2 with
      | cons p2 p3 =>
        cases p3
        cases p1
        cases p2
        refine ⟨m, n, rfl, b, for_range (lo := m) (n := (n - m).toNat) (fun i σ2 H2 => ∃ δ2 S2, Inv i δ2 ∧ Ex S1 S2 ∧ Cf K S0 H0 δ2 S2 H2 σ2) ⟨δ, S1, i0, Ex.refl S1, c.grow g⟩ ?_ ?_⟩
        · rintro i σ2 H2 hi ⟨δ2, S2, i2, ex, c2⟩
          obtain ⟨hP, hw⟩ := hs i δ2 (by omega) i2
          refine tg.go hP (.int _) c2 fun σ3 c3 => hw S2 H2 σ3 _ (c3 S2 H2 (Ex.refl S2) c2) ⟨?_, o.rt, ?_, ?_, o.rn⟩
          · exact fun δ3 S3 H3 σ3 i3 q c3 => ⟨δ3, S3, i3, ex.trans q, c3⟩
          · exact fun δ3 S3 H3 σ3 i3 q c3 => o.nx δ3 S3 H3 σ3 i3 ((g.s.trans ex).trans q) c3
          · exact fun δ3 S3 H3 σ3 i3 q c3 => ⟨δ3, S3, i3, ex.trans q, c3⟩
        · rintro σ2 H2 ⟨δ2, S2, i2, ex, c2⟩
          exact o.nx δ2 S2 H2 σ2 (hd δ2 i2) (g.s.trans ex) c2
/-- while, by a word that falls -/
theorem ws_while {tc : TT} (W : Nat → List Sl → Prop) (m0 : Nat) (h0 : W m0 δ)
    (hs : ∀ m δ', W m δ' → EvT K S0 H0 tc δ' fun b => (b = true → WpS K S0 H0 t δ' { nx := fun δ2 => ∃ m', m' < m ∧ W m' δ2, ct := fun δ2 => ∃ m', m' < m ∧ W m' δ2, bk := e.nx, rt := e.rt, rn := e.rn }) ∧ (b = false → e.nx δ')) : WpS K S0 H0 (tWhile tc t) δ e := fun S H σ Dn c o => by
  refine ⟨fun m σ2 H2 => ∃ δ2 S2, W m δ2 ∧ Ex S S2 ∧ Cf K S0 H0 δ2 S2 H2 σ2, ⟨m0, δ, S, h0, Ex.refl S, c⟩, ?_⟩
  rintro m σ2 H2 ⟨δ2, S2, w2, ex, c2⟩
  refine hs m δ2 w2 S2 H2 σ2 c2 _ fun b S3 H3 ⟨q1, q2⟩ g => ?_
  cases b with
  | true =>
    rw [if_pos rfl]
    refine ⟨fun σ4 H4 => ∃ m', m' < m ∧ ∃ δ4 S4, W m' δ4 ∧ Ex S S4 ∧ Cf K S0 H0 δ4 S4 H4 σ4, fun σ4 H4 ⟨m', l, r⟩ => ⟨m', l, r⟩, q1 rfl S3 H3 σ2 _ (c2.grow g) ⟨?_, o.rt, ?_, ?_, o.rn⟩⟩
    · exact fun δ4 S4 H4 σ4 ⟨m', l, w⟩ q c4 => ⟨m', l, δ4, S4, w, (ex.trans g.s).trans q, c4⟩
    · exact fun δ4 S4 H4 σ4 i4 q c4 => o.nx δ4 S4 H4 σ4 i4 ((ex.trans g.s).trans q) c4
    · exact fun δ4 S4 H4 σ4 ⟨m', l, w⟩ q c4 => ⟨m', l, δ4, S4, w, (ex.trans g.s).trans q, c4⟩
  | false =>
    rw [if_neg Bool.false_ne_true]
    exact o.nx δ2 S3 H3 σ2 (q2 rfl) (ex.trans g.s) (c2.grow g)
/-- raise X(..): E is wished -/
theorem ws_raise {E : XK} {X : Str → Prop} {cn : Str} (hE : XOk K S0 H0 E X) (h : X cn) : WpS K S0 H0 (fun _ σ H => (fun (_ : L2.St) (H : Hp) (Q : XK) => Q (.ref (He.ga K cn)) none H) σ H fun cls d H' => (fun cls d _ H => E cls d H) cls d σ H') δ e := fun S H σ Dn c o => hE cn S H h c.g
end

/-! ### 7. comprehensions -/
section
variable {K : PySem.W.Frag} {S0 H0 : Hp} {δ : List Sl} {te : TE}
def wipeD (δ : List Sl) : List Nat → List Sl
  | [] => δ
  | v :: vs => (wipeD δ vs).set v .un
theorem Cf.wipe {S H : Hp} {σ : L2.St} (c : Cf K S0 H0 δ S H σ) : ∀ vs : List Nat, Cf K S0 H0 (wipeD δ vs) S H (wipe σ vs)
  | [] => c
  | v :: vs => (Cf.wipe c vs).un v none
/-- what a comprehension makes of data: of each item one thing, or none -/
inductive Made (P : D → Option D → Prop) : List D → List D → Prop
  | nil : Made P [] []
  | yes {d x : D} {ds xs : List D} : P d (some x) → Made P ds xs → Made P (d :: ds) (x :: xs)
  | no {d : D} {ds xs : List D} : P d none → Made P ds xs → Made P (d :: ds) xs
theorem Made.length {P : D → Option D → Prop} {ds xs : List D} (h : Made P ds xs) : xs.length ≤ ds.length := by
  induction h with
  | nil => exact Nat.le_refl _
  | yes _ _ ih => simpa using ih
  | no _ _ ih => exact Nat.le_succ_of_le ih
theorem Made.snocY {P : D → Option D → Prop} {ds xs : List D} {d x : D} (h : Made P ds xs) (p : P d (some x)) : Made P (ds ++ [d]) (xs ++ [x]) := by
  induction h with
  | nil => exact .yes p .nil
  | yes q _ ih => exact .yes q ih
  | no q _ ih => exact .no q ih
theorem Made.snocN {P : D → Option D → Prop} {ds xs : List D} {d : D} (h : Made P ds xs) (p : P d none) : Made P (ds ++ [d]) xs := by
  induction h with
  | nil => exact .no p .nil
  | yes q _ ih => exact .yes q ih
  | no q _ ih => exact .no q ih
theorem Made.map {P : D → Option D → Prop} {f : D → D} {ds xs : List D} (h : Made P ds xs) (hf : ∀ d o, d ∈ ds → P d o → o = some (f d)) : xs = ds.map f := by
  induction h with
  | nil => rfl
  | yes p _ ih =>
    have e := hf _ _ List.mem_cons_self p
    cases e
    rw [List.map_cons, ← ih fun d o m => hf d o (List.mem_cons_of_mem _ m)]
  | no p _ ih =>
    have e := hf _ _ List.mem_cons_self p
    cases e
theorem Made.filterMap {P : D → Option D → Prop} {f : D → Option D} {ds xs : List D} (h : Made P ds xs) (hf : ∀ d o, d ∈ ds → P d o → o = f d) : xs = ds.filterMap f := by
  induction h with
  | nil => rfl
  | yes p _ ih =>
    have e := hf _ _ List.mem_cons_self p
    rw [List.filterMap_cons, ← e, ← ih fun d o m => hf d o (List.mem_cons_of_mem _ m)]
  | no p _ ih =>
    have e := hf _ _ List.mem_cons_self p
    rw [List.filterMap_cons, ← e, ← ih fun d o m => hf d o (List.mem_cons_of_mem _ m)]
theorem take_snoc {α : Type} : ∀ {l : List α} {i : Nat} {x : α}, l[i]? = some x → l.take (i + 1) = l.take i ++ [x]
  | [], i, x, h => by simp at h
  | a :: l, 0, x, h => by
    have e : a = x := Option.some.inj h
    subst e
    rfl
  | a :: l, i + 1, x, h => by
    have ih := take_snoc (l := l) (i := i) (x := x) h
    show a :: l.take (i + 1) = a :: l.take i ++ [x]
    rw [ih]
    rfl
theorem app_cases {α : Type} {l : List α} {x y : α} {j : Nat} (h : (l ++ [x])[j]? = some y) : (l[j]? = some y) ∨ (j = l.length ∧ x = y) := by
  by_cases q : j < l.length
  · rw [List.getElem?_append_left q] at h
    exact .inl h
  · by_cases z : j = l.length
    · subst z
      rw [List.getElem?_append_right (Nat.le_refl _), Nat.sub_self] at h
      exact .inr ⟨rfl, Option.some.inj h⟩
    · rw [List.getElem?_eq_none (by rw [List.length_append, List.length_singleton]; omega)] at h
      cases h
theorem app_old {α : Type} {l : List α} {x y : α} {j : Nat} (h : l[j]? = some y) : (l ++ [x])[j]? = some y := by
  rw [List.getElem?_append_left (List.getElem?_eq_some_iff.mp h).1]
  exact h
theorem app_new {α : Type} {l : List α} {x : α} : (l ++ [x])[l.length]? = some x := by
  rw [List.getElem?_append_right (Nat.le_refl _), Nat.sub_self]
  rfl
theorem Cf.push {S H : Hp} {σ : L2.St} (c : Cf K S0 H0 δ S H σ) {p : Addr} {xs : List V} {ds : List D} (hp : H p = some (.lst xs)) (sp : S p = none) (h0 : H0 p = none) (r : Rps K S xs ds)
    (al : ∀ (j : Nat) (es : List D) (a : Addr), δ[j]? = some (.ow es) → σ[j]? = some (some (.ref a)) → a ≠ p) : Cf K S0 H0 (δ ++ [.ow ds]) S H (σ ++ [some (.ref p)]) where
  g := c.g
  len := by rw [List.length_append, List.length_append, c.len]; rfl
  sh := fun i d e => by
    rcases app_cases e with q | ⟨_, q⟩
    · obtain ⟨v, h1, h2⟩ := c.sh i d q
      exact ⟨v, app_old h1, h2⟩
    · cases q
  ow := fun i es e => by
    rcases app_cases e with q | ⟨z, q⟩
    · obtain ⟨a, ys, h1, h2⟩ := c.ow i es q
      exact ⟨a, ys, app_old h1, h2⟩
    · cases q
      subst z
      refine ⟨p, xs, ?_, hp, sp, h0, r⟩
      rw [← c.len]
      exact app_new
  ap := fun i j ds' es' a n e1 e2 e3 e4 => by
    rcases app_cases e1 with q1 | ⟨z1, q1⟩
    · rcases app_cases e2 with q2 | ⟨z2, q2⟩
      · rcases app_cases e3 with k3 | ⟨y3, k3⟩
        · rcases app_cases e4 with k4 | ⟨y4, k4⟩
          · exact c.ap i j ds' es' a n q1 q2 k3 k4
          · have := (List.getElem?_eq_some_iff.mp q2).1
            rw [y4, c.len] at this
            exact absurd this (Nat.lt_irrefl _)
        · have := (List.getElem?_eq_some_iff.mp q1).1
          rw [y3, c.len] at this
          exact absurd this (Nat.lt_irrefl _)
      · cases q2
        subst z2
        rw [← c.len, app_new] at e4
        cases e4
        rcases app_cases e3 with k3 | ⟨y3, k3⟩
        · exact al i ds' _ q1 k3 rfl
        · have := (List.getElem?_eq_some_iff.mp q1).1
          rw [y3, c.len] at this
          exact absurd this (Nat.lt_irrefl _)
    · cases q1
      subst z1
      rw [← c.len, app_new] at e3
      cases e3
      rcases app_cases e2 with q2 | ⟨z2, q2⟩
      · rcases app_cases e4 with k4 | ⟨y4, k4⟩
        · exact al j es' _ q2 k4 rfl
        · exact n (by rw [y4, c.len])
      · exact n z2.symm
theorem Cf.pop {S H : Hp} {σ : L2.St} {x : Sl} {y : Option V} (c : Cf K S0 H0 (δ ++ [x]) S H (σ ++ [y])) : Cf K S0 H0 δ S H σ where
  g := c.g
  len := by have := c.len; rw [List.length_append, List.length_append] at this; exact Nat.add_right_cancel this
  sh := fun i d e => by
    obtain ⟨v, h1, h2⟩ := c.sh i d (app_old e)
    have hl : σ.length = δ.length := by have := c.len; rw [List.length_append, List.length_append] at this; exact Nat.add_right_cancel this
    rcases app_cases h1 with q | ⟨z, _⟩
    · exact ⟨v, q, h2⟩
    · have := (List.getElem?_eq_some_iff.mp e).1
      rw [z, hl] at this
      exact absurd this (Nat.lt_irrefl _)
  ow := fun i es e => by
    obtain ⟨a, ys, h1, h2⟩ := c.ow i es (app_old e)
    have hl : σ.length = δ.length := by have := c.len; rw [List.length_append, List.length_append] at this; exact Nat.add_right_cancel this
    rcases app_cases h1 with q | ⟨z, _⟩
    · exact ⟨a, ys, q, h2⟩
    · have := (List.getElem?_eq_some_iff.mp e).1
      rw [z, hl] at this
      exact absurd this (Nat.lt_irrefl _)
  ap := fun i j ds es a n e1 e2 e3 e4 => c.ap i j ds es a n (app_old e1) (app_old e2) (app_old e3) (app_old e4)
section
variable {tt : TT} {vs : List Nat} {P : D → Option D → Prop} {S1 H1 : Hp} {Dl : Addr} {ds : List D}
/-- the comprehension's list so far: one more slot of one's own -/
def Lc (K : PySem.W.Frag) (S0 H0 S1 H1 : Hp) (δ : List Sl) (σ : L2.St) (P : D → Option D → Prop) (Dl : Addr) (ds : List D) (i : Nat) (H : Hp) : Prop :=
  ∃ S2 xs, Gx S1 H1 S2 H ∧ Cf K S0 H0 (δ ++ [.ow xs]) S2 H (σ ++ [some (.ref Dl)]) ∧ H1 Dl = none ∧ Made P (ds.take i) xs
theorem lc_zero {σ : L2.St} (c : Cf K S0 H0 δ S1 H1 σ) (hD : H1 Dl = none) : Lc K S0 H0 S1 H1 δ σ P Dl ds 0 (upd H1 Dl (.lst [])) := by
  have g := Gx.mine (o := .lst []) c.g.sub hD
  refine ⟨S1, [], g, (c.grow g).push upd_same (c.g.sub.free hD) (c.g.h.free hD) .nil (c.notMine hD), hD, .nil⟩
theorem Lc.out {σ : L2.St} {i : Nat} {H : Hp} (h : Lc K S0 H0 S1 H1 δ σ P Dl ds i H) : ∃ S2 ys xs, Gx S1 H1 S2 H ∧ H Dl = some (.lst ys) ∧ S2 Dl = none ∧ Rps K S2 ys xs ∧ Made P (ds.take i) xs := by
  obtain ⟨S2, xs, g, c, hD, m⟩ := h
  obtain ⟨a, ys, h1, h2, h3, h4, h5⟩ := c.ow δ.length xs app_new
  rw [← c.pop.len, app_new] at h1
  cases h1
  exact ⟨S2, ys, xs, g, h2, h3, h5, m⟩
theorem lc_turn {σ σ2 : L2.St} {δ2 : List Sl} {d : D} {i : Nat} {H Sx : Hp} {xs : List D} (hl : ds.length ≤ 100000) (hi : ds[i]? = some d) (g : Gx S1 H1 Sx H) (c : Cf K S0 H0 (δ ++ [.ow xs]) Sx H (σ ++ [some (.ref Dl)])) (hD : H1 Dl = none) (m : Made P (ds.take i) xs)
    (c2 : ∀ S H, Ex Sx S → Cf K S0 H0 δ S H σ → Cf K S0 H0 δ2 S H σ2) (ht : EvT K S0 H0 tt δ2 fun b => (b = true → EvR K S0 H0 te δ2 fun x => P d (some x)) ∧ (b = false → P d none)) :
    tt σ2 H fun b H3 => if b = true then te σ2 H3 fun y H4 => ∃ acc, H4 Dl = some (.lst acc) ∧ acc.length < sizeLine ∧ Lc K S0 H0 S1 H1 δ σ P Dl ds (i + 1) (upd H4 Dl (.lst (acc ++ [y]))) else Lc K S0 H0 S1 H1 δ σ P Dl ds (i + 1) H3 := by
  refine ht Sx H σ2 (c2 Sx H (Ex.refl Sx) c.pop) _ fun b S3 H3 ⟨q1, q2⟩ g3 => ?_
  cases b with
  | true =>
    rw [if_pos rfl]
    refine q1 rfl S3 H3 σ2 ((c2 Sx H (Ex.refl Sx) c.pop).grow g3) _ fun x y S4 H4 hx g4 py => ?_
    have c4 := (c.grow g3).grow g4
    obtain ⟨a, ys, h1, h2, h3, h4, h5⟩ := c4.ow δ.length xs app_new
    have h1' := h1
    rw [← c.pop.len, app_new] at h1'
    cases h1'
    have gg := (g.trans g3).trans g4
    refine ⟨ys, h2, ?_, S4, xs ++ [x], ⟨gg.s, gg.sub.mut h3, gg.h.mut hD, gg.fr⟩, ?_, hD, ?_⟩
    · have := m.length
      rw [h5.length]
      rw [List.length_take] at this
      exact Nat.lt_of_le_of_lt (Nat.le_trans this (Nat.le_trans (Nat.min_le_right _ _) hl)) (by decide)
    · have cc := c4.change (es := xs ++ [x]) (ys := ys ++ [y]) app_new h1 (h5.app (.one py))
      rw [List.set_append_right _ _ (Nat.le_refl _), Nat.sub_self] at cc
      exact cc
    · rw [take_snoc hi]
      exact m.snocY hx
  | false =>
    rw [if_neg Bool.false_ne_true]
    refine ⟨S3, xs, g.trans g3, c.grow g3, hD, ?_⟩
    rw [take_snoc hi]
    exact m.snocN (q2 rfl)
/-- the target's slots are the comprehension's own -/
def Own (g : TG) (vs : List Nat) : Prop := ∀ v (σ : L2.St) H (Q : L2.St → Hp → Prop), g v (wipe σ vs) H Q → g v (wipe σ vs) H fun σ2 H2 => wipe σ2 vs = wipe σ vs ∧ Q σ2 H2
theorem own_name {j : Nat} : Own (gName j) [j] := fun v σ H Q q => ⟨by simp only [wipe, List.set_set], q⟩
theorem own_two {i j : Nat} (h : i ≠ j) {g : TGs} (hg : g = gNames [i, j]) : Own (gTup K 2 g) [i, j] := fun v σ H Q ⟨a, xs, e1, e2, e3, q⟩ => by
  subst hg
  obtain ⟨x, r, e4, y, r', e5, e6, q⟩ := q
  refine ⟨a, xs, e1, e2, e3, x, r, e4, y, r', e5, e6, ?_, q⟩
  apply List.ext_getElem?
  intro n
  simp only [wipe, List.getElem?_set, List.length_set]
  by_cases h1 : i = n <;> by_cases h2 : j = n <;> simp_all
/-- over a list -/
theorem en_lcL {g : TG} {f : List Sl → D → List Sl} {Pg : D → Prop} {R : List D → Prop} {tl : TE} (tg : TgOk K S0 H0 g f Pg) (hw : Own g vs) (P : D → Option D → Prop)
    (h : EvR K S0 H0 tl δ fun d => ∃ ds, d = .lst ds ∧ ds.length ≤ 100000 ∧ (∀ d ∈ ds, Pg d ∧ EvT K S0 H0 tt (f (wipeD δ vs) d) fun b => (b = true → EvR K S0 H0 te (f (wipeD δ vs) d) fun x => P d (some x)) ∧ (b = false → P d none)) ∧ ∀ xs, Made P ds xs → R xs) :
    EvN K S0 H0 (tLc (iList K tl) g tt te vs) δ R := fun S H σ c Q k => h S H σ c _ fun d v S1 H1 ⟨ds, ed, hl, hb, hR⟩ gx p => by
  subst ed
  cases p with
  | @lst a xs _ hs1 rs =>
    refine ⟨a, rfl, ⟨xs, gx.sub.l hs1⟩, fun Dl hD => lc_list (xs := xs) (Lc K S0 H0 S1 H1 δ σ P Dl ds) (lc_zero (c.grow gx) hD) (fun i H2 _ q => ?_) (fun i x H2 hx q => ?_) fun H2 q => ?_⟩
    · obtain ⟨S2, xs', g2, c2, _⟩ := q
      exact g2.sub.l (g2.s.l hs1)
    · obtain ⟨d, hd1, hr⟩ := rs.get' hx
      obtain ⟨b1, b2⟩ := hb d (List.mem_of_getElem? hd1)
      obtain ⟨S2, xs', g2, c2, hD2, m2⟩ := q
      exact hw x σ H2 _ (tg.go b1 (hr.mono g2.s) (c2.pop.wipe vs) fun σ3 c3 => lc_turn hl hd1 g2 c2 hD2 m2 (fun S3 H3 e3 c4 => c3 S3 H3 e3 (c4.wipe vs)) b2)
    · obtain ⟨S2, ys, xs', g2, e1, e2, r, m⟩ := q.out
      rw [rs.length, List.take_length] at m
      exact k xs' Dl ys S2 H2 (hR xs' m) (gx.trans g2) (gx.h.free hD) e2 e1 r
def rngD (lo : Int) (n : Nat) : List D := (List.range n).map fun (i : Nat) => D.int (lo + (i : Int))
theorem rngD_get {lo : Int} {n i : Nat} (h : i < n) : (rngD lo n)[i]? = some (.int (lo + (i : Int))) := by
  unfold rngD
  rw [List.getElem?_map, List.getElem?_range h]
  rfl
theorem rngD_mem {lo : Int} {n : Nat} {d : D} (h : d ∈ rngD lo n) : ∃ i : Nat, i < n ∧ d = .int (lo + (i : Int)) := by
  unfold rngD at h
  obtain ⟨i, h1, h2⟩ := List.mem_map.mp h
  exact ⟨i, List.mem_range.mp h1, h2.symm⟩
theorem rngD_len {lo : Int} {n : Nat} : (rngD lo n).length = n := by
  unfold rngD
  rw [List.length_map, List.length_range]
/-- over range(n) -/
theorem en_lcR1 {g : TG} {f : List Sl → D → List Sl} {Pg : D → Prop} {R : List D → Prop} {ta : TA} (tg : TgOk K S0 H0 g f Pg) (hw : Own g vs) (P : D → Option D → Prop)
    (h : EvA K S0 H0 ta δ fun as => ∃ n : Int, as = [.int n] ∧ n ≤ 100000 ∧ -(2 ^ 62) ≤ n ∧ (∀ i : Nat, (i : Int) < n → Pg (.int i) ∧ EvT K S0 H0 tt (f (wipeD δ vs) (.int i)) fun b => (b = true → EvR K S0 H0 te (f (wipeD δ vs) (.int i)) fun x => P (.int i) (some x)) ∧ (b = false → P (.int i) none)) ∧ ∀ xs, Made P (rngD 0 n.toNat) xs → R xs) :
    EvN K S0 H0 (tLc (iRng1 ta) g tt te vs) δ R := fun S H σ c Q k => h S H σ c _ fun as us S1 H1 ⟨n, ed, hl, hl2, hb, hR⟩ gx p => by
  subst ed
  cases p with
  | cons p1 p2 =>
    cases p2
    cases p1
    refine ⟨n, rfl, hl2, by omega, fun Dl hD => lc_range (lo := 0) (n := n.toNat) (Lc K S0 H0 S1 H1 δ σ P Dl (rngD 0 n.toNat)) (lc_zero (c.grow gx) hD) (fun i H2 hi q => ?_) fun H2 q => ?_⟩
    · obtain ⟨b1, b2⟩ := hb i (by omega)
      obtain ⟨S2, xs', g2, c2, hD2, m2⟩ := q
      have e0 : (0 : Int) + (i : Int) = (i : Int) := Int.zero_add _
      have hg : (rngD 0 n.toNat)[i]? = some (.int (i : Int)) := by rw [rngD_get hi, e0]
      rw [e0]
      exact hw _ σ H2 _ (tg.go b1 (.int _) (c2.pop.wipe vs) fun σ3 c3 => lc_turn (by rw [rngD_len]; omega) hg g2 c2 hD2 m2 (fun S3 H3 e3 c4 => c3 S3 H3 e3 (c4.wipe vs)) b2)
    · obtain ⟨S2, ys, xs', g2, e1, e2, r, m⟩ := q.out
      rw [List.take_of_length_le (Nat.le_of_eq rngD_len)] at m
      exact k xs' Dl ys S2 H2 (hR xs' m) (gx.trans g2) (gx.h.free hD) e2 e1 r
theorem et_yes {δ : List Sl} {R : Bool → Prop} (q : R true) : EvT K S0 H0 tYes δ R := fun S H σ c Q k => k true S H q (Gx.refl c.g.sub)
end
end
/-! ### 8. + of lists -/
section
variable {K : PySem.W.Frag} {S0 H0 : Hp} {δ : List Sl} {ta tb : TE}
/-- of two new lists -/
theorem en_cat {R : List D → Prop} (h : EvN K S0 H0 ta δ fun a => a.length ≤ 50000 ∧ EvN K S0 H0 tb δ fun b => b.length ≤ 50000 ∧ R (a ++ b)) : EvN K S0 H0 (tOp rCat ta tb) δ R := fun S H σ c Q k =>
  h S H σ c _ fun as p xs S1 H1 ⟨la, r1⟩ g1 hp sp h1 rs1 => r1 S1 H1 σ (c.grow g1) _ fun bs q ys S2 H2 ⟨lb, r2⟩ g2 hq sq h2 rs2 =>
    ⟨p, q, xs, ys, rfl, rfl, g2.h _ _ h1, h2, by rw [rs1.length, rs2.length]; exact Nat.le_trans (Nat.add_le_add la lb) (by decide), fun l hl => k _ l _ S2 _ r2 ((g1.trans g2).trans (Gx.mine g2.sub hl)) ((g1.trans g2).h.free hl) (g2.sub.free hl) upd_same ((rs1.mono g2.s).app rs2)⟩
end
/-! ### 9. a def keeps its promise -/
section
variable {P : Program} {w : World} {K : PySem.W.Frag} {mg : Str → Option Value} {base : Heap}
theorem Rps.slots {S : Hp} : ∀ {vs : List V} {ds : List D} {n i : Nat} {d : D}, Rps K S vs ds → (ds.map Sl.sh ++ List.replicate n .un)[i]? = some (.sh d) → ∃ v, (vs.map some ++ List.replicate n (none : Option V))[i]? = some (some v) ∧ Rp K S v d
  | _, _, n, i, d, .nil, e => by
    simp only [List.map_nil, List.nil_append] at e
    rw [List.getElem?_replicate] at e
    split at e <;> cases e
  | _, _, n, 0, d, .cons r _, e => by
    simp at e
    subst e
    exact ⟨_, rfl, r⟩
  | _, _, n, i + 1, d, .cons _ t, e => by
    obtain ⟨v, h1, h2⟩ := Rps.slots (n := n) (i := i) t (by simpa using e)
    exact ⟨v, by simpa using h1, h2⟩
theorem no_ow {ds : List D} {n : Nat} {es : List D} {i : Nat} : (ds.map Sl.sh ++ List.replicate n .un)[i]? ≠ some (.ow es) := by
  induction ds generalizing i with
  | nil =>
    intro e
    simp only [List.map_nil, List.nil_append] at e
    rw [List.getElem?_replicate] at e
    split at e <;> cases e
  | cons d ds ih =>
    cases i with
    | zero => intro e; simp at e
    | succ i => intro e; exact ih (i := i) (by simpa using e)
theorem Cf.start {S H : Hp} {vs : List V} {ds : List D} {N : List Str} (e : Ex S H) (r : Rps K S vs ds) : Cf K S H (ds.map Sl.sh ++ List.replicate (N.length - ds.length) .un) S H (start N vs) where
  g := Gx.refl e
  len := by
    unfold L2.start
    rw [List.length_append, List.length_append, List.length_map, List.length_map, List.length_replicate, List.length_replicate, r.length]
  sh := fun i d h => by
    unfold L2.start
    rw [r.length]
    exact r.slots h
  ow := fun i ds' h => absurd h no_ow
  ap := fun i j ds' es a n h => absurd h no_ow
theorem Gx.frz {S H S' H' : Hp} {p : Addr} {xs : List V} {ds : List D} (g : Gx S H S' H') (hp : H p = none) (sp : S' p = none) (h' : H' p = some (.lst xs)) (rs : Rps K S' xs ds) : Gx S H (upd S' p (.lst xs)) H' ∧ Rp K (upd S' p (.lst xs)) (.ref p) (.lst ds) := by
  refine ⟨⟨g.s.trans (Ex.new sp), fun b o hb => ?_, g.h, fun b hb => ?_⟩, .lst (SqL.of upd_same) (rs.mono (Ex.new sp))⟩
  · by_cases z : b = p
    · subst z
      rw [upd_same] at hb
      rw [← hb]
      exact h'
    · rw [upd_ne z] at hb
      exact g.sub b o hb
  · rw [upd_ne fun z => by subst z; exact hb hp]
    exact g.fr b hb
/-- THE RULE for a def told by data -/
theorem fn_p {x qual : Str} {ps : Arguments} {body : List Stmt} {scope : Scope} {f : Addr} {fd : FuncData} {N pn : List Str} {k : Nat} {Pre : PreT} (F : FunD K x qual ps body scope [] [] f fd) (S : FnScope N pn scope) (len : ∀ ds R X, Pre ds R X → ds.length = pn.length)
    (hbody : ∀ (cdv : Value) (A : Around) (outer : List Env) (s : Shared) (H S0 : Hp) (E : XK) (X : Str → Prop) (R : D → Prop) (ds : List D), Room k (A.deeper (envOfC qual scope s.heap.objs.size f cdv)) → Pre ds R X → XOk K S0 H E X →
      ∃ t, PSs (cxOf (L2.CX P w) P w K mg base N qual scope f cdv A outer s H E) body t ∧ WpS K S0 H t (ds.map Sl.sh ++ List.replicate (N.length - ds.length) .un) { nx := fun _ => R .non, rt := R }) :
    FnOk P w K mg base (L2.CX P w) (k + 1) f fd pn (SpP K Pre) := by
  refine F.ok S (fun vs H Q E h => ?_) (fun cdv A outer s H vs Q E hr h => ?_)
  · obtain ⟨S0, ds, R, X, _, r, p, _⟩ := h
    rw [r.length]
    exact len ds R X p
  · obtain ⟨S0, ds, R, X, ex, r, p, q, hE⟩ := h
    obtain ⟨t, ht, hw⟩ := hbody cdv A outer s H S0 E X R ds hr p hE
    exact ⟨t, ht, hw S0 H (start N vs) _ (Cf.start ex r) ⟨fun δ S' H' σ n e c => q .non .non S' H' n c.g .non, fun d v S' H' m g' p' => q d v S' H' m g' p', fun _ _ _ _ z => z.elim, fun _ _ _ _ z => z.elim, fun ds a xs S' H' m g' h0 sp h1 rs => q _ _ _ _ m (g'.frz h0 sp h1 rs).1 (g'.frz h0 sp h1 rs).2⟩⟩
/-- .. that gives a new list, which the caller owns -/
theorem fn_pN {x qual : Str} {ps : Arguments} {body : List Stmt} {scope : Scope} {f : Addr} {fd : FuncData} {N pn : List Str} {k : Nat} {Pre : PreN} (F : FunD K x qual ps body scope [] [] f fd) (S : FnScope N pn scope) (len : ∀ ds R X, Pre ds R X → ds.length = pn.length)
    (hbody : ∀ (cdv : Value) (A : Around) (outer : List Env) (s : Shared) (H S0 : Hp) (E : XK) (X : Str → Prop) (R : List D → Prop) (ds : List D), Room k (A.deeper (envOfC qual scope s.heap.objs.size f cdv)) → Pre ds R X → XOk K S0 H E X →
      ∃ t, PSs (cxOf (L2.CX P w) P w K mg base N qual scope f cdv A outer s H E) body t ∧ WpS K S0 H t (ds.map Sl.sh ++ List.replicate (N.length - ds.length) .un) { nx := fun _ => False, rt := fun _ => False, rn := R }) :
    FnOk P w K mg base (L2.CX P w) (k + 1) f fd pn (SpN K Pre) := by
  refine F.ok S (fun vs H Q E h => ?_) (fun cdv A outer s H vs Q E hr h => ?_)
  · obtain ⟨S0, ds, R, X, _, r, p, _⟩ := h
    rw [r.length]
    exact len ds R X p
  · obtain ⟨S0, ds, R, X, ex, r, p, q, hE⟩ := h
    obtain ⟨t, ht, hw⟩ := hbody cdv A outer s H S0 E X R ds hr p hE
    exact ⟨t, ht, hw S0 H (start N vs) _ (Cf.start ex r) ⟨fun _ _ _ _ z => z.elim, fun _ _ _ _ z => z.elim, fun _ _ _ _ z => z.elim, fun _ _ _ _ z => z.elim, fun ds a xs S' H' m g' h0 sp h1 rs => q ds a xs S' H' m g' h0 sp h1 rs⟩⟩
end
end Ag

namespace Ag
open PySem PySem.Spec PyProof.Rows L2

/-! ### 10. defs, methods, makers with their promises -/
structure Df (P : Program) (w : World) (K : PySem.W.Frag) (mg : Str → Option Value) (base : Heap) (k : Nat) (x : Str) (ps : List Str) (sp : Sp) : Prop where
  ex : ∃ f fd, FnOk P w K mg base (L2.CX P w) k f fd ps sp ∧ mg x = some (.ref f) ∧ PySem.W.keepIn K (.ref f) = true ∧ Binds K fd ps []
structure Dm (P : Program) (w : World) (K : PySem.W.Frag) (mg : Str → Option Value) (base : Heap) (k : Nat) (C m : Str) (ps : List Str) (sp : Sp) : Prop where
  ex : ∃ f fd, FnOk P w K mg base (L2.CX P w) k f fd ps sp ∧ Meth K (He.ga K C) m f ∧ Cls K (He.ga K C) ∧ Binds K fd ps []
structure Dk (P : Program) (w : World) (K : PySem.W.Frag) (mg : Str → Option Value) (base : Heap) (k : Nat) (C : Str) (ps : List Str) (sp : Sp) : Prop where
  ex : ∃ f fd, FnOk P w K mg base (L2.CX P w) k f fd ps sp ∧ Mk K (He.ga K C) f ∧ mg C = some (.ref (He.ga K C)) ∧ Binds K fd ps []
theorem binds_of {K : PySem.W.Frag} {x qual : Str} {ps : Arguments} {body : List Stmt} {scope : Scope} {f : Addr} {fd : FuncData} {pn : List Str} (F : FunD K x qual ps body scope [] [] f fd)
    (h : ∀ (kV doc pm : Value) (an : Option Addr) (cdv ct : Value) (us : List Value), us.length = pn.length → bindArgs (PySem.W.fnOf x qual ps body scope .none kV doc pm an cdv ct) ⟨us, []⟩ = pure (pn.zip us)) : Binds K fd pn [] := by
  obtain ⟨oc, od, dV, kV, doc, pm, an, cdv, ct, osl, rfl, lk, hcd, hd, _⟩ := F.ex
  rcases hd with ⟨_, e⟩ | ⟨e, _⟩
  · subst e
    exact .all (h kV doc pm an cdv ct)
  · exact absurd rfl e
section
variable {X : Cx} {k j : Nat} {x C m : Str} {ps : List Str} {sp : Sp} {E : XK} {ES : L2.St → XK} {e o : Expr} {es : List Expr} {ta : TE} {t : TA} {p pos apos : Pos}
theorem pe_df (D : Df X.prog X.w X.K X.mg X.base j x ps sp) (hr : Room k X.A) (hj : j ≤ k) (hx : Passes (L2.CX X.prog X.w) X E) (ha : PA X (e :: es) t) (hg : Gl X x := by rfl)
    (hdb : (x == ("__debug__" : Str)) = false := by decide) (he : starEach (e :: es) X.env = (false, eval e X.env) :: starEach es X.env := by rfl) (hpl : (backTo pos (starEach es X.env)).any (·.1) = false := by rfl) :
    PE X (.Call (.Name x p) (e :: es) [] pos) (tCall sp [] E t) := by
  obtain ⟨f, fd, G, g, kp, b⟩ := D.ex
  exact pe_call G (hr.mono hj) hg g kp b .nil hx ha hdb he hpl
theorem pe_df0 (D : Df X.prog X.w X.K X.mg X.base j x ps sp) (hr : Room k X.A) (hj : j ≤ k) (hx : Passes (L2.CX X.prog X.w) X E) (hg : Gl X x := by rfl)
    (hdb : (x == ("__debug__" : Str)) = false := by decide) : PE X (.Call (.Name x p) [] [] pos) (tCall sp [] E tNil) := by
  obtain ⟨f, fd, G, g, kp, b⟩ := D.ex
  exact pe_call0 G (hr.mono hj) hg g kp b .nil hx hdb
theorem pe_dfS (D : Df X.prog X.w X.K X.mg X.base j x ps sp) (hr : Room k X.A) (hj : j ≤ k) (hx : ∀ σ, PassesAt (L2.CX X.prog X.w) X σ (ES σ)) (ha : PA X (e :: es) t) (hg : Gl X x := by rfl)
    (hdb : (x == ("__debug__" : Str)) = false := by decide) (he : starEach (e :: es) X.env = (false, eval e X.env) :: starEach es X.env := by rfl) (hpl : (backTo pos (starEach es X.env)).any (·.1) = false := by rfl) :
    PE X (.Call (.Name x p) (e :: es) [] pos) (tCallS sp ES t) := by
  obtain ⟨f, fd, G, g, kp, b⟩ := D.ex
  exact pe_callS G (hr.mono hj) hg g kp b hx ha hdb he hpl
theorem pe_dm {K1 : PySem.W.Frag} {pl : Sem Bool} (he : PE X o ta) (D : Dm X.prog X.w K1 X.mg X.base j C m ps sp) (hr : Room k X.A) (hj : j ≤ k) (hx : Passes (L2.CX X.prog X.w) X E) (ha : PA X (e :: es) t)
    (hst : starEach (e :: es) X.env = (false, eval e X.env) :: starEach es X.env := by rfl) (hpl : (backTo pos (starEach es X.env)).any (·.1) = false := by rfl)
    (ht : eval (.Call (.Attribute o m apos) (e :: es) [] pos) X.env = (do
      let ov ← eval o X.env
      standAt apos.atName
      let (f, first) ← holding [ov] (getMethod ov m pl)
      callWith pos f first (backTo pos (starEach (e :: es) X.env)) (backToKw pos (keywordEach [] X.env))) := by rfl) (hK : X.K = K1 := by rfl) :
    PE X (.Call (.Attribute o m apos) (e :: es) [] pos) (tMeth (He.ga K1 C) m sp [] E ta t) := by
  subst hK
  obtain ⟨f, fd, G, M, c, b⟩ := D.ex
  exact pe_meth he c M G (hr.mono hj) b .nil hx ha hst hpl ht
theorem pe_dm0 {K1 : PySem.W.Frag} {pl : Sem Bool} (he : PE X o ta) (D : Dm X.prog X.w K1 X.mg X.base j C m ps sp) (hr : Room k X.A) (hj : j ≤ k) (hx : Passes (L2.CX X.prog X.w) X E)
    (ht : eval (.Call (.Attribute o m apos) [] [] pos) X.env = (do
      let ov ← eval o X.env
      standAt apos.atName
      let (f, first) ← holding [ov] (getMethod ov m pl)
      callWith pos f first (backTo pos (starEach [] X.env)) (backToKw pos (keywordEach [] X.env))) := by rfl) (hK : X.K = K1 := by rfl) :
    PE X (.Call (.Attribute o m apos) [] [] pos) (tMeth (He.ga K1 C) m sp [] E ta tNil) := by
  subst hK
  obtain ⟨f, fd, G, M, c, b⟩ := D.ex
  exact pe_meth0 he c M G (hr.mono hj) b .nil hx ht
theorem pe_dk {K1 : PySem.W.Frag} (D : Dk X.prog X.w K1 X.mg X.base j C ps sp) (hr : Room k X.A) (hj : j + 1 ≤ k) (hx : Passes (L2.CX X.prog X.w) X E) (ha : PA X (e :: es) t) (hg : Gl X C := by rfl)
    (hdb : (C == ("__debug__" : Str)) = false := by decide) (he : starEach (e :: es) X.env = (false, eval e X.env) :: starEach es X.env := by rfl) (hpl : (backTo pos (starEach es X.env)).any (·.1) = false := by rfl) (hK : X.K = K1 := by rfl) :
    PE X (.Call (.Name C p) (e :: es) [] pos) (tMake (He.ga K1 C) sp [] E t) := by
  subst hK
  obtain ⟨f, fd, G, M, g, b⟩ := D.ex
  exact pe_make M G (hr.mono hj) hg g b .nil hx ha hdb he hpl
/-- a method, in a try's body: what it raises is wished for at the slots -/
def tMethS (C : Addr) (m : Str) (sp : Sp) (ES : L2.St → XK) (ta : TE) (t : TA) : TE := fun σ H Q => ta σ H fun x H1 => ∃ a dx fs, x = .ref a ∧ H1 a = some (.ins C dx fs) ∧ fs.lookup m = none ∧
  t σ H1 fun vs H2 => sp (x :: vs) H2 Q (ES σ)
theorem pe_dmS {K1 : PySem.W.Frag} {pl : Sem Bool} (he : PE X o ta) (D : Dm X.prog X.w K1 X.mg X.base j C m ps sp) (hr : Room k X.A) (hj : j ≤ k) (hx : ∀ σ, PassesAt (L2.CX X.prog X.w) X σ (ES σ)) (ha : PA X (e :: es) t)
    (hst : starEach (e :: es) X.env = (false, eval e X.env) :: starEach es X.env := by rfl) (hpl : (backTo pos (starEach es X.env)).any (·.1) = false := by rfl)
    (ht : eval (.Call (.Attribute o m apos) (e :: es) [] pos) X.env = (do
      let ov ← eval o X.env
      standAt apos.atName
      let (f, first) ← holding [ov] (getMethod ov m pl)
      callWith pos f first (backTo pos (starEach (e :: es) X.env)) (backToKw pos (keywordEach [] X.env))) := by rfl) (hK : X.K = K1 := by rfl) :
    PE X (.Call (.Attribute o m apos) (e :: es) [] pos) (tMethS (He.ga K1 C) m sp ES ta t) := by
  subst hK
  obtain ⟨f, fd, G, M, c, b⟩ := D.ex
  refine ⟨fun pins s σ H Q I h => ?_⟩
  refine PySem.W.methodCall_KW (pl := pl) (thn (he.run pins s σ H _ I h) fun u s1 ⟨x, H1, I1, rx, a, dx, fs, ex, ea, l, q⟩ => ?_) ht
  subst ex
  obtain rfl : u = Value.ref a := rx
  refine getmeth_ok I1 ea c M l ?_
  refine PySem.W.callWith_K (first := [.ref a]) (h₀ := X.base) I.ok.mod.kin M.kp (thn (ha.run pos pins s1 σ H1 _ I1 q) fun us s2 ⟨vs, H2, I2, r, q2⟩ => ⟨I2.kIn, ?_⟩) hst hpl
  exact run_fnS (us := .ref a :: us) (vs := .ref a :: vs) G (hr.mono hj) b (hx σ) I2 (.cons rfl r) q2
theorem pe_dm0S {K1 : PySem.W.Frag} {pl : Sem Bool} (he : PE X o ta) (D : Dm X.prog X.w K1 X.mg X.base j C m ps sp) (hr : Room k X.A) (hj : j ≤ k) (hx : ∀ σ, PassesAt (L2.CX X.prog X.w) X σ (ES σ))
    (ht : eval (.Call (.Attribute o m apos) [] [] pos) X.env = (do
      let ov ← eval o X.env
      standAt apos.atName
      let (f, first) ← holding [ov] (getMethod ov m pl)
      callWith pos f first (backTo pos (starEach [] X.env)) (backToKw pos (keywordEach [] X.env))) := by rfl) (hK : X.K = K1 := by rfl) :
    PE X (.Call (.Attribute o m apos) [] [] pos) (tMethS (He.ga K1 C) m sp ES ta tNil) := by
  subst hK
  obtain ⟨f, fd, G, M, c, b⟩ := D.ex
  refine ⟨fun pins s σ H Q I h => ?_⟩
  refine PySem.W.methodCall_KW (pl := pl) (thn (he.run pins s σ H _ I h) fun u s1 ⟨x, H1, I1, rx, a, dx, fs, ex, ea, l, q⟩ => ?_) ht
  subst ex
  obtain rfl : u = Value.ref a := rx
  refine getmeth_ok I1 ea c M l ?_
  exact PySem.W.callWith_K0 (first := [.ref a]) I1.kIn M.kp (run_fnS (us := [.ref a]) (vs := [.ref a]) G (hr.mono hj) b (hx σ) I1 (.cons rfl .nil) q)
/-- raise X('..') -/
def tRaiseX (K : PySem.W.Frag) (E : XK) (cn : Str) : TS := fun _ _ H => E (.ref (He.ga K cn)) none H
theorem ps_rx {cn m : Str} {jj : Nat} {p p2 pos pos' : Pos} {X : Cx} {E : XK} (hc : X.calm = true) (tk : Takes X (fun cls d _ H => E cls d H)) (gC : X.mg cn = some (.ref (He.ga X.K cn)))
    (q : PySem.W.excIn X.K (He.ga X.K cn) He.veBase "ValueError.__new__" = true ∧ PySem.W.keepIn X.K (.ref (He.ga X.K cn)) = true ∧ PySem.W.subIn X.K (.ref (He.ga X.K cn)) (.type "BaseException") = some true ∧ PySem.W.typeIn X.K (.ref (He.ga X.K cn)) = some (.type "type"))
    (hg : Gl X cn := by rfl) (hdb : (cn == ("__debug__" : Str)) = false := by decide) : PS X (.Raise (some (.Call (.Name cn p) [.Constant (.str m) jj p2] [] pos)) none pos') (tRaiseX X.K E cn) :=
  ps_raise hc tk (pmk_own PySem.F.excBase_ValueError q.1 gC q.2.1 (raises_own q.2.2.1 q.2.2.2) hg hdb)
end
section
variable {K : PySem.W.Frag} {S0 H0 : Hp} {δ : List Sl} {e : DE} {E : XK} {X : Str → Prop}
theorem ws_rx {cn : Str} (hE : XOk K S0 H0 E X) (h : X cn) : WpS K S0 H0 (tRaiseX K E cn) δ e := fun S H σ Dn c o => hE cn S H h c.g
end
/-! K by name (inside a comprehension what is seen must not hang on its own names) -/
section
variable {X : Cx} {K1 : PySem.W.Frag}
theorem aix_seq (hK : X.K = K1 := by rfl) : IxR X (rIx K1) := by subst hK; exact ix_seq
theorem asl_list (hK : X.K = K1 := by rfl) : SlR X (rSlL K1) := by subst hK; exact sl_list
theorem aop_in_seq (hK : X.K = K1 := by rfl) : OpR X (compareOp .In) (rIn K1 false) := by subst hK; exact op_in_seq
theorem aop_notIn_seq (hK : X.K = K1 := by rfl) : OpR X (compareOp .NotIn) (rIn K1 true) := by subst hK; exact op_notIn_seq
theorem acr_sum (hc : X.calm = true) (hK : X.K = K1 := by rfl) : CallR X (.builtin "sum") (rSum K1) := by subst hK; exact cr_sum hc
theorem acr_all (hc : X.calm = true) (hK : X.K = K1 := by rfl) : CallR X (.builtin "all") (rAll K1) := by subst hK; exact cr_all hc
theorem acr_any (hc : X.calm = true) (hK : X.K = K1 := by rfl) : CallR X (.builtin "any") (rAny K1) := by subst hK; exact cr_any hc
theorem acr_max (hc : X.calm = true) (hK : X.K = K1 := by rfl) : CallR X (.builtin "max") (rMax K1) := by subst hK; exact cr_max hc
theorem acr_min (hc : X.calm = true) (hK : X.K = K1 := by rfl) : CallR X (.builtin "min") (rMin K1) := by subst hK; exact cr_min hc
theorem acall_isi (hK : X.K = K1 := by rfl) : CallR X (.builtin "isinstance") (rIsi K1) := by subst hK; exact call_isi
theorem acall_isiT (hK : X.K = K1 := by rfl) : CallR X (.builtin "isinstance") (rIsiT K1) := by subst hK; exact call_isiT
theorem acall_len (hK : X.K = K1 := by rfl) : CallR X (.builtin "len") (fun xs H Q => ∃ x n, xs = [x] ∧ LenV K1 x H n ∧ Q (.int n) H) := by subst hK; exact call_len
theorem acall_list_of (hK : X.K = K1 := by rfl) : CallR X (.type "list") (fun xs H Q => ∃ p ys, xs = [.ref p] ∧ (SqL K1 H p ys ∨ SqT K1 H p ys) ∧ ∀ l, H l = none → Q (.ref l) (upd H l (.lst ys))) := by subst hK; exact call_list_of
theorem ape_fld {e : Expr} {ta : TE} {f : Str} {pos : Pos} (he : PE X e ta) (hb : attributeBase e f X.env (eval e X.env) = eval e X.env) (hK : X.K = K1 := by rfl) : PE X (.Attribute e f pos) (tFld K1 ta f) := by subst hK; exact pe_fld he hb
theorem api_list {tg l : Expr} {tl : TE} (hl : PE X l tl) (hK : X.K = K1 := by rfl) : PI X tg l (iList K1 tl) := by subst hK; exact pi_list hl
end
end Ag

namespace Ag
open PySem PySem.Spec PyProof.Rows L2
/-! ### 11. comprehensions of the usual forms -/
theorem filterMap_ite {α β : Type} (p : α → Bool) (g : α → β) : ∀ ds : List α, ds.filterMap (fun d => if p d then some (g d) else none) = (ds.filter p).map g
  | [] => rfl
  | d :: ds => by
    rw [List.filterMap_cons, List.filter_cons]
    cases q : p d <;> simp [filterMap_ite p g ds]
section
variable {K : PySem.W.Frag} {S0 H0 : Hp} {δ : List Sl} {te : TE} {tt : TT} {j : Nat}
theorem en_map {tl : TE} {R : List D → Prop} (ds : List D) (g : D → D) (h : EvR K S0 H0 tl δ fun d => d = .lst ds) (hl : ds.length ≤ 100000) (he : ∀ d ∈ ds, EvR K S0 H0 te ((δ.set j .un).set j (.sh d)) fun x => x = g d) (hR : R (ds.map g)) :
    EvN K S0 H0 (tLc (iList K tl) (gName j) tYes te [j]) δ R :=
  en_lcL tg_name own_name (fun d o => o = some (g d)) (h.imp fun d e => ⟨ds, e, hl, fun d hd => ⟨trivial, et_yes ⟨fun _ => (he d hd).imp fun x e => by rw [e], fun z => by cases z⟩⟩, fun xs m => by
    rw [m.map fun d o _ p => p]
    exact hR⟩)
theorem en_filter {tl : TE} {R : List D → Prop} (ds : List D) (p : D → Bool) (g : D → D) (h : EvR K S0 H0 tl δ fun d => d = .lst ds) (hl : ds.length ≤ 100000) (ht : ∀ d ∈ ds, EvT K S0 H0 tt ((δ.set j .un).set j (.sh d)) fun b => b = p d) (he : ∀ d ∈ ds, p d = true → EvR K S0 H0 te ((δ.set j .un).set j (.sh d)) fun x => x = g d) (hR : R ((ds.filter p).map g)) :
    EvN K S0 H0 (tLc (iList K tl) (gName j) tt te [j]) δ R :=
  en_lcL tg_name own_name (fun d o => o = if p d then some (g d) else none) (h.imp fun d e => ⟨ds, e, hl, fun d hd => ⟨trivial, (ht d hd).imp fun b e => ⟨fun z => (he d hd (e ▸ z)).imp fun x e2 => by rw [e2, if_pos (e ▸ z)], fun z => by rw [if_neg (by rw [← e, z]; exact Bool.false_ne_true)]⟩⟩, fun xs m => by
    rw [m.filterMap fun d o _ p => p]
    have e := filterMap_ite p g ds
    rw [e]
    exact hR⟩)
theorem en_mapI {tl : TE} {R : List D → Prop} (ns : List Int) (g : Int → D) (h : EvR K S0 H0 tl δ fun d => d = dI ns) (hl : ns.length ≤ 100000) (he : ∀ n ∈ ns, EvR K S0 H0 te ((δ.set j .un).set j (.sh (.int n))) fun x => x = g n) (hR : R (ns.map g)) :
    EvN K S0 H0 (tLc (iList K tl) (gName j) tYes te [j]) δ R := by
  refine en_map (ns.map D.int) (fun d => match d with | .int n => g n | _ => .non) h (by rw [List.length_map]; exact hl) (fun d hd => ?_) (by rw [List.map_map]; exact hR)
  obtain ⟨n, hn, rfl⟩ := List.mem_map.mp hd
  exact he n hn
theorem en_mapR {ta : TA} {R : List D → Prop} (n : Int) (g : Nat → D) (h : EvA K S0 H0 ta δ fun as => as = [.int n]) (hl : n ≤ 100000) (hl2 : -(2 ^ 62) ≤ n) (he : ∀ i : Nat, (i : Int) < n → EvR K S0 H0 te ((δ.set j .un).set j (.sh (.int i))) fun x => x = g i) (hR : R ((List.range n.toNat).map g)) :
    EvN K S0 H0 (tLc (iRng1 ta) (gName j) tYes te [j]) δ R :=
  en_lcR1 tg_name own_name (fun d o => ∀ i : Nat, d = .int i → o = some (g i)) (fun S H σ c Q k => h S H σ c Q fun ds vs S' H' e gx r => k ds vs S' H' ⟨n, e, hl, hl2, fun i hi => ⟨trivial, et_yes ⟨fun _ => (he i hi).imp fun x e m em => by
    rw [e]
    have : i = m := by have := D.int.inj em; omega
    rw [this], fun z => by cases z⟩⟩, fun xs m => by
      have e2 := m.map (f := fun d => match d with | .int z => g z.toNat | _ => .non) fun d o hd hp => by
        obtain ⟨i, hi, rfl⟩ := rngD_mem hd
        have e0 : (0 : Int) + (i : Int) = (i : Int) := Int.zero_add _
        rw [hp i (by rw [e0])]
        show some (g i) = some (g ((0 : Int) + (i : Int)).toNat)
        rw [e0, Int.toNat_natCast]
      rw [e2]
      unfold rngD
      rw [List.map_map]
      have e3 : (fun d : D => match d with | .int z => g z.toNat | _ => .non) ∘ (fun i : Nat => D.int ((0 : Int) + (i : Int))) = g := by
        funext i
        show g ((0 : Int) + (i : Int)).toNat = g i
        rw [Int.zero_add, Int.toNat_natCast]
      rw [e3]
      exact hR⟩ gx r)
theorem en_filterR {ta : TA} {R : List D → Prop} (n : Int) (p : Nat → Bool) (g : Nat → D) (h : EvA K S0 H0 ta δ fun as => as = [.int n]) (hl : n ≤ 100000) (hl2 : -(2 ^ 62) ≤ n) (ht : ∀ i : Nat, (i : Int) < n → EvT K S0 H0 tt ((δ.set j .un).set j (.sh (.int i))) fun b => b = p i) (he : ∀ i : Nat, (i : Int) < n → p i = true → EvR K S0 H0 te ((δ.set j .un).set j (.sh (.int i))) fun x => x = g i) (hR : R (((List.range n.toNat).filter p).map g)) :
    EvN K S0 H0 (tLc (iRng1 ta) (gName j) tt te [j]) δ R :=
  en_lcR1 tg_name own_name (fun d o => ∀ i : Nat, d = .int i → o = if p i then some (g i) else none) (fun S H σ c Q k => h S H σ c Q fun ds vs S' H' e gx r => k ds vs S' H' ⟨n, e, hl, hl2, fun i hi => ⟨trivial, (ht i hi).imp fun b e => ⟨fun z => (he i hi (e ▸ z)).imp fun x e2 m em => by
    have : i = m := by have := D.int.inj em; omega
    subst this
    rw [e2, if_pos (e ▸ z)], fun z m em => by
    have : i = m := by have := D.int.inj em; omega
    subst this
    rw [if_neg (by rw [← e, z]; exact Bool.false_ne_true)]⟩⟩, fun xs m => by
      have e2 := m.filterMap (f := fun d => match d with | .int z => (if p z.toNat then some (g z.toNat) else none) | _ => none) fun d o hd hp => by
        obtain ⟨i, hi, rfl⟩ := rngD_mem hd
        have e0 : (0 : Int) + (i : Int) = (i : Int) := Int.zero_add _
        rw [hp i (by rw [e0])]
        show _ = (if p ((0 : Int) + (i : Int)).toNat then some (g ((0 : Int) + (i : Int)).toNat) else none)
        rw [e0, Int.toNat_natCast]
      rw [e2]
      unfold rngD
      rw [List.filterMap_map]
      have e3 : (fun d : D => match d with | .int z => (if p z.toNat then some (g z.toNat) else none) | _ => none) ∘ (fun i : Nat => D.int ((0 : Int) + (i : Int))) = fun i => if p i then some (g i) else none := by
        funext i
        show (if p ((0 : Int) + (i : Int)).toNat then some (g ((0 : Int) + (i : Int)).toNat) else none) = _
        rw [Int.zero_add, Int.toNat_natCast]
      rw [e3]
      have e4 := filterMap_ite p g (List.range n.toNat)
      rw [e4]
      exact hR⟩ gx r)
end
/-! ### 12. isinstance -/
def tyN : D → Option String
  | .non => some "NoneType" | .bl _ => some "bool" | .int _ => some "int" | .str _ => some "str" | .lst _ => some "list" | .tup _ => some "tuple" | _ => none
theorem TyX.of {K : PySem.W.Frag} {S H : Hp} {v : V} {d : D} {t : String} (e : Ex S H) (p : Rp K S v d) (h : tyN d = some t) : TyX K H v (.type t) := by
  cases p with
  | non => cases h; exact .base .non
  | bl b => cases h; exact .base (.bl b)
  | int i => cases h; exact .base (.int i)
  | str x => cases h; exact .base (.str x)
  | lst hs _ =>
    cases h
    rcases e.l hs with (q | ⟨o, q⟩) | ⟨o, its, n, q, c, _⟩
    · exact .base (.lst q)
    · exact .base (.frz q)
    · exact .kList q c
  | tup hs _ =>
    cases h
    rcases e.t hs with (q | ⟨o, q⟩) | ⟨o, its, n, q, c, _⟩
    · exact .base (.tup q)
    · exact .fTuple q
    · exact .kTuple q c
  | ty n => cases h
  | ad n => cases h
  | ins _ _ => cases h
section
variable {K : PySem.W.Frag} {R : D → Prop}
theorem ca_isi {d : D} {a t : String} {b : Bool} (h : tyN d = some a) (hk : kitB a t = some b) (q : R (.bl b)) : CaD K (rIsi K) [d, .ty t] R := fun S H vs e p Q k => by
  cases p with
  | cons p1 p2 =>
    cases p2 with
    | cons p2 p3 =>
      cases p3
      cases p2
      exact ⟨_, _, _, _, b, rfl, .ty t, TyX.of e p1 h, kit_ty hk, k _ _ S H q (Gx.refl e) (.bl _)⟩
/-- .. of one of two types, the pair made on the spot -/
theorem ev_isiT {S0 H0 : Hp} {δ : List Sl} {ta : TE} {t u : String} (h : EvR K S0 H0 ta δ fun d => ∃ a b c, tyN d = some a ∧ kitB a t = some b ∧ kitB a u = some c ∧ R (.bl (b || c))) :
    EvR K S0 H0 (tCB (rIsiT K) (tCons ta (tCons (tTup (tCons (tC (.ty t)) (tCons (tC (.ty u)) tNil))) tNil))) δ R := fun S H σ cf Q k =>
  h S H σ cf _ fun d v S1 H1 ⟨a, b, c, e1, e2, e3, q⟩ g p => ⟨by show 2 ≤ sizeLine; decide, fun l hl => by
    have gm := Gx.mine (o := .tup [.ty t, .ty u]) g.sub hl
    exact ⟨v, l, _, _, _, b || c, rfl, upd_same, .cons (.ty t) (.cons (.ty u) .nil), TyX.of gm.sub p e1, kitAny_cons (kit_ty e2) (fun z => kitAny_cons (kit_ty e3) (fun z2 => by rw [z, z2]; exact kitAny_nil) fun z2 => by rw [z2, Bool.or_true]) (fun z => by rw [z]; rfl), k _ _ S1 _ q (g.trans gm) (.bl _)⟩⟩
end
/-! ### 13. by data up to a place, by hand from there -/
section
variable {K : PySem.W.Frag} {S0 H0 S H : Hp} {δ : List Sl} {σ : L2.St} {t u : TS} {Dn : Ends}
theorem WpS.go {M : List Sl → Prop} (h : WpS K S0 H0 t δ { nx := M, rt := fun _ => False }) (c : Cf K S0 H0 δ S H σ) (k : ∀ δ' S' H' σ', M δ' → Ex S S' → Cf K S0 H0 δ' S' H' σ' → u Dn σ' H') : tSeq t u Dn σ H :=
  h S H σ { Dn with nx := u Dn } c ⟨fun δ' S' H' σ' m x c' => k δ' S' H' σ' m x c', fun _ _ _ _ z => z.elim, fun _ _ _ _ z => z.elim, fun _ _ _ _ z => z.elim, fun _ _ _ _ _ z => z.elim⟩
inductive SlOk (K : PySem.W.Frag) (S : Hp) : List Sl → L2.St → Prop
  | nil : SlOk K S [] []
  | un {δ : List Sl} {σ : L2.St} {x : Option V} : SlOk K S δ σ → SlOk K S (.un :: δ) (x :: σ)
  | sh {δ : List Sl} {σ : L2.St} {v : V} {d : D} : Rp K S v d → SlOk K S δ σ → SlOk K S (.sh d :: δ) (some v :: σ)
theorem SlOk.len (h : SlOk K S δ σ) : σ.length = δ.length := by
  induction h with
  | nil => rfl
  | un _ ih => simpa using ih
  | sh _ _ ih => simpa using ih
theorem SlOk.get (h : SlOk K S δ σ) : ∀ (i : Nat) (d : D), δ[i]? = some (.sh d) → ∃ v, σ[i]? = some (some v) ∧ Rp K S v d := by
  induction h with
  | nil => intro i d e; simp at e
  | un _ ih =>
    intro i d e
    cases i with
    | zero => simp at e
    | succ i => exact ih i d (by simpa using e)
  | sh r _ ih =>
    intro i d e
    cases i with
    | zero => simp at e; subst e; exact ⟨_, rfl, r⟩
    | succ i => exact ih i d (by simpa using e)
theorem SlOk.no (h : SlOk K S δ σ) : ∀ (i : Nat) (ds : List D), δ[i]? ≠ some (.ow ds) := by
  induction h with
  | nil => intro i d e; simp at e
  | un _ ih =>
    intro i d e
    cases i with
    | zero => simp at e
    | succ i => exact ih i d (by simpa using e)
  | sh r _ ih =>
    intro i d e
    cases i with
    | zero => simp at e
    | succ i => exact ih i d (by simpa using e)
theorem Cf.of (g : Gx S0 H0 S H) (s : SlOk K S δ σ) : Cf K S0 H0 δ S H σ := ⟨g, s.len, s.get, fun i ds e => absurd e (s.no i ds), fun i j ds es a _ e => absurd e (s.no i ds)⟩
end
section
variable {K : PySem.W.Frag} {S0 H0 : Hp} {δ : List Sl} {R : D → Prop}
/-- a field of what a slot holds -/
theorem ev_fldv {i : Nat} {f C : Str} {fs : List (Str × D)} {x : D} (h : δ[i]? = some (.sh (.ins C fs))) (hc : Cls K (He.ga K C)) (hn : NoAttr K (He.ga K C) f) (hl : fs.lookup f = some x) (q : R x) : EvR K S0 H0 (tFld K (tVar i) f) δ R :=
  ev_fld (ev_var h ⟨C, fs, x, rfl, hc, hn, hl, q⟩)
end
section
variable {K : PySem.W.Frag} {S0 H0 : Hp} {δ : List Sl} {R : D → Prop} {X : Str → Prop} {E : XK} {t : TA}
/-- a method of what a slot holds -/
theorem ev_methv {Pre : PreT} {i : Nat} {m C : Str} {fs : List (Str × D)} (h : δ[i]? = some (.sh (.ins C fs))) (hl : fs.lookup m = none) (q : EvA K S0 H0 t δ fun ds => Pre (.ins C fs :: ds) R (fun _ => False)) : EvR K S0 H0 (tMeth (He.ga K C) m (SpP K Pre) [] E (tVar i) t) δ R :=
  ev_meth XOk.no (ev_var h ⟨C, fs, rfl, rfl, hl, q⟩)
theorem en_methv {Pre : PreN} {R : List D → Prop} {i : Nat} {m C : Str} {fs : List (Str × D)} (h : δ[i]? = some (.sh (.ins C fs))) (hl : fs.lookup m = none) (q : EvA K S0 H0 t δ fun ds => Pre (.ins C fs :: ds) R (fun _ => False)) : EvN K S0 H0 (tMeth (He.ga K C) m (SpN K Pre) [] E (tVar i) t) δ R :=
  en_meth XOk.no (ev_var h ⟨C, fs, rfl, rfl, hl, q⟩)
end
/-! ### 14. plain -/
theorem eqD_int (a b : Int) : eqD (.int a) (.int b) = decide (a = b) := rfl
theorem eqD_self : ∀ {d : D}, (match d with | .int _ => true | .bl _ => true | .str _ => true | .non => true | _ => false) = true → eqD d d = true
  | .int _, _ => by simp [eqD]
  | .bl _, _ => by simp [eqD]
  | .str _, _ => by simp [eqD]
  | .non, _ => rfl
theorem both_f {b : Bool} {P Q : Prop} (h : b = false) (q : Q) : (b = true → P) ∧ (b = false → Q) := ⟨fun z => (by rw [h] at z; cases z), fun _ => q⟩
theorem both_t {b : Bool} {P Q : Prop} (h : b = true) (q : P) : (b = true → P) ∧ (b = false → Q) := ⟨fun _ => q, fun z => (by rw [h] at z; cases z)⟩
theorem both_f2 {b : Bool} {P Q : Prop} (h : b = false) (q : P) : (b = false → P) ∧ (b = true → Q) := ⟨fun _ => q, fun z => (by rw [h] at z; cases z)⟩
theorem both_t2 {b : Bool} {P Q : Prop} (h : b = true) (q : Q) : (b = false → P) ∧ (b = true → Q) := ⟨fun z => (by rw [h] at z; cases z), fun _ => q⟩
theorem ixN_nat {n j : Nat} (hj : j < n) : ixN n (j : Int) = some j := by
  unfold ixN
  rw [if_pos (by omega), if_pos (by omega)]
  simp
theorem atI_of {ds : List D} {z : Int} {i : Nat} {d : D} (hz : z = (i : Int)) (h : ds[i]? = some d) : atI ds z = some d := by
  subst hz
  unfold atI
  rw [ixN_nat (List.getElem?_eq_some_iff.mp h).1]
  exact h
theorem atI_nn {ds : List D} {z : Int} {d : D} (hz : decide (0 ≤ z) = true) (h : ds[z.toNat]? = some d) : atI ds z = some d := atI_of (i := z.toNat) (by have := of_decide_eq_true hz; omega) h
theorem cutD_to {ds : List D} {z : Int} {k : Nat} (hz : z = (k : Int)) : cutD ds none (some z) = ds.take k := by
  subst hz
  unfold cutD
  rw [HT.sIx_none, HT.sIx_nat, List.drop_zero, Nat.sub_zero]
  by_cases h : k ≤ ds.length
  · rw [Nat.min_eq_left h]
  · rw [Nat.min_eq_right (by omega), List.take_length, List.take_of_length_le (by omega)]
theorem cutD_from {ds : List D} {z : Int} {k : Nat} (hz : z = (k : Int)) : cutD ds (some z) none = ds.drop k := by
  subst hz
  unfold cutD
  rw [HT.sIx_none, HT.sIx_nat]
  by_cases h : k ≤ ds.length
  · rw [Nat.min_eq_left h, List.take_of_length_le (by rw [List.length_drop]; omega)]
  · rw [Nat.min_eq_right (by omega), List.drop_eq_nil_of_le (Nat.le_refl _), List.drop_eq_nil_of_le (by omega), List.take_nil]
theorem atI_ints {ns : List Int} {z : Int} {i : Nat} {n : Int} (hz : z = (i : Int)) (h : ns[i]? = some n) : atI (ns.map D.int) z = some (.int n) := atI_of hz (by rw [List.getElem?_map, h]; rfl)
theorem mulW {a b : Int} (h1 : a.natAbs < 2 ^ 64) (h2 : b.natAbs < 2 ^ 64) : CMulW a b := by
  unfold CMulW
  have f : ∀ n : Nat, n < 2 ^ 64 → n.log2 < 64 := fun n h => by
    by_cases z : n = 0
    · subst z; decide
    · exact (Nat.log2_lt z).mpr h
  have := f _ h1
  have := f _ h2
  omega
/-- numbers that are drawn: each at least nought and below its limit -/
def Drawn : List Int → List Int → Prop
  | [], rs => rs = []
  | m :: ms, rs => ∃ r t, rs = r :: t ∧ 0 ≤ r ∧ r < m ∧ Drawn ms t
theorem Drawn.snoc : ∀ {ms rs : List Int} {m r : Int}, Drawn ms rs → 0 ≤ r → r < m → Drawn (ms ++ [m]) (rs ++ [r])
  | [], _, m, r, h, a, b => by
    cases h
    exact ⟨r, [], rfl, a, b, rfl⟩
  | _ :: ms, _, m, r, ⟨x, t, e, a, b, h⟩, a', b' => by
    subst e
    exact ⟨x, t ++ [r], rfl, a, b, Drawn.snoc h a' b'⟩
theorem Drawn.len : ∀ {ms rs : List Int}, Drawn ms rs → rs.length = ms.length
  | [], _, h => by cases h; rfl
  | _ :: ms, _, ⟨x, t, e, a, b, h⟩ => by
    subst e
    simp [Drawn.len h]
theorem get_ints {ns : List Int} {i : Nat} {d : D} (h : (ns.map D.int)[i]? = some d) : ∃ z, ns[i]? = some z ∧ d = .int z := by
  rw [List.getElem?_map] at h
  cases e : ns[i]? with
  | none => rw [e] at h; cases h
  | some z => rw [e] at h; exact ⟨z, rfl, (Option.some.inj h).symm⟩
theorem fmod_in {a b : Int} (h : 0 < b) : 0 ≤ a.fmod b ∧ a.fmod b < b := ⟨Int.fmod_nonneg_of_pos _ h, Int.fmod_lt_of_pos _ h⟩
theorem nabs {a : Int} {n : Nat} (h1 : -(n : Int) < a) (h2 : a < (n : Int)) : a.natAbs < n := by omega
def dep : Nat → D → Prop
  | 0, _ => False
  | _ + 1, .non => True
  | _ + 1, .bl _ => True
  | _ + 1, .int _ => True
  | _ + 1, .str _ => True
  | n + 1, .lst l => l.length ≤ 100000 ∧ ∀ x ∈ l, dep n x
  | n + 1, .tup l => l.length ≤ 100000 ∧ ∀ x ∈ l, dep n x
  | _, _ => False
def isFl : D → Bool
  | .non => true | .bl _ => true | .int _ => true | .str _ => true | _ => false
theorem dep_f : ∀ {n : Nat} {d : D}, isFl d = true → dep (n + 1) d
  | _, .non, _ => trivial
  | _, .bl _, _ => trivial
  | _, .int _, _ => trivial
  | _, .str _, _ => trivial
theorem dep_l {n : Nat} {l : List D} (h : l.all isFl = true) (hl : l.length ≤ 100000) : dep (n + 2) (.lst l) := ⟨hl, fun _ hx => dep_f (List.all_eq_true.mp h _ hx)⟩
theorem dep_t {n : Nat} {l : List D} (h : l.all isFl = true) (hl : l.length ≤ 100000) : dep (n + 2) (.tup l) := ⟨hl, fun _ hx => dep_f (List.all_eq_true.mp h _ hx)⟩
theorem dep_i {n : Nat} {l : List Int} (hl : l.length ≤ 100000) : dep (n + 2) (dI l) := dep_l (by rw [List.all_eq_true]; intro x hx; obtain ⟨z, _, rfl⟩ := List.mem_map.mp hx; rfl) (by rw [List.length_map]; exact hl)
theorem eqvI : ∀ (ns ms : List Int), PyData.eqvAll (ns.map PyData.int) (ms.map PyData.int) = decide (ns = ms)
  | [], [] => by simp [PyData.eqvAll]
  | [], _ :: _ => by simp [PyData.eqvAll]
  | _ :: _, [] => by simp [PyData.eqvAll]
  | n :: ns, m :: ms => by
    rw [List.map_cons, List.map_cons, PyData.eqvAll, eqvI ns ms]
    by_cases h : n = m <;> by_cases h2 : ns = ms <;> simp [PyData.eqv, h, h2]
theorem dpI {K : PySem.W.Frag} {H : Hp} : ∀ ns : List Int, DpAll K H (ns.map V.int) (ns.map PyData.int)
  | [] => .nil
  | n :: ns => .cons (.int n) (dpI ns)
theorem canI : ∀ ns : List Int, PyData.canLayAll0 (ns.map PyData.int) = true
  | [] => rfl
  | _ :: r => by simp [PyData.canLayAll0, PyData.canLay0, canI r]
theorem depI : ∀ ns : List Int, PyData.depthAll (ns.map PyData.int) = 0
  | [] => rfl
  | _ :: r => by simp [PyData.depthAll, PyData.depth, depI r]
theorem shapedI (ns : List Int) : SeqAt.shaped (.list (ns.map PyData.int)) = true := by
  simp [SeqAt.shaped, PyData.canLay0, PyData.depth, canI, depI]
section
variable {K : PySem.W.Frag} {R : D → Prop}
theorem od_eqI {ns ms : List Int} (q : R (.bl (decide (ns = ms)))) : OpD K (rEqD K) (dI ns) (dI ms) R := fun S H v1 v2 e p1 p2 Q k => by
  cases p1 with
  | lst h1 r1 =>
    cases p2 with
    | lst h2 r2 =>
      cases r1.of_ints
      cases r2.of_ints
      refine ⟨_, _, .lst (e.l h1) (dpI ns), .lst (e.l h2) (dpI ms), shapedI _, shapedI _, ?_⟩
      rw [PyData.eqv, eqvI]
      exact k _ _ S H q (Gx.refl e) (.bl _)
theorem od_neI {ns ms : List Int} (q : R (.bl (!decide (ns = ms)))) : OpD K (rNeD K) (dI ns) (dI ms) R := fun S H v1 v2 e p1 p2 Q k => by
  cases p1 with
  | lst h1 r1 =>
    cases p2 with
    | lst h2 r2 =>
      cases r1.of_ints
      cases r2.of_ints
      refine ⟨_, _, .lst (e.l h1) (dpI ns), .lst (e.l h2) (dpI ms), shapedI _, shapedI _, ?_⟩
      rw [PyData.eqv, eqvI]
      exact k _ _ S H q (Gx.refl e) (.bl _)
end
end Ag

namespace Ag
open PySem PySem.Spec PyProof.Rows L2
/-! ### 15. try -/
theorem pss_cast {X : Cx} {body : List Stmt} {t t' : TS} (h : PSs X body t) (e : t = t') : PSs X body t' := e ▸ h
section
variable {K : PySem.W.Frag} {S0 H0 : Hp} {δ : List Sl} {R : D → Prop} {X : Str → Prop} {ta : TE} {t : TA} {Pre : PreT} {e : DE} {te : WX → TE} {w : Ends → WX} {i : Nat}
def EvX (K : PySem.W.Frag) (S0 H0 : Hp) (te : WX → TE) (δ : List Sl) (R : D → Prop) (X : Str → Prop) : Prop := ∀ S H σ, Cf K S0 H0 δ S H σ → ∀ (W : WX) (Q : VK), (∀ d v S' H', R d → Gx S H S' H' → Rp K S' v d → Q v H') → (∀ c S' H', X c → Gx S H S' H' → W (.ref (He.ga K c)) none σ H') → te W σ H Q
theorem evx_of (h : EvR K S0 H0 ta δ R) : EvX K S0 H0 (fun _ => ta) δ R X := fun S H σ c W Q k _ => h S H σ c Q k
theorem evx_meth {C : Addr} {m : Str} (h : EvR K S0 H0 ta δ fun d => ∃ Cn fs, d = .ins Cn fs ∧ He.ga K Cn = C ∧ fs.lookup m = none ∧ EvA K S0 H0 t δ fun ds => Pre (d :: ds) R X) : EvX K S0 H0 (fun W => tMethS C m (SpP K Pre) (fun σ => WE W σ) ta t) δ R X := fun S H σ c W Q k kx =>
  h S H σ c _ fun d v S1 H1 ⟨Cn, fs, e, hC, hl, q⟩ g p => by
    have p0 := p
    subst e
    cases p with
    | ins hs rs =>
      subst hC
      refine ⟨_, _, _, rfl, g.sub _ _ hs, rs.none hl, q S1 H1 σ (c.grow g) _ fun ds vs S2 H2 q2 g2 p2 => ?_⟩
      exact ⟨S2, _ :: ds, R, X, g2.sub, .cons (p0.mono g2.s) p2, q2, fun d' v' S' H' r g' p' => k d' v' S' H' r ((g.trans g2).trans g') p', fun cn S' H' x g' => kx cn S' H' x ((g.trans g2).trans g')⟩
theorem evx_call (h : EvA K S0 H0 t δ fun ds => Pre ds R X) : EvX K S0 H0 (fun W => tCallS (SpP K Pre) (fun σ => WE W σ) t) δ R X := fun S H σ c W Q k kx =>
  h S H σ c _ fun ds vs S1 H1 q g p => ⟨S1, ds, R, X, g.sub, p, q, fun d v S' H' r g' p' => k d v S' H' r (g.trans g') p', fun cn S' H' x g' => kx cn S' H' x (g.trans g')⟩
/-- what the handlers do with an error of a class -/
def HxOk (K : PySem.W.Frag) (S0 H0 : Hp) (δ : List Sl) (e : DE) (w : Ends → WX) (cn : Str) : Prop := ∀ D S H σ, Cf K S0 H0 δ S H σ → EOk K S0 H0 S D e → w D (.ref (He.ga K cn)) none σ H
theorem hx_only {c : Value} {ts : Addr → Value → Option Addr → TS} {Wout : WX} {cn : Str} (hb : PySem.W.exmOne K (.ref (He.ga K cn)) c = some true) (h : ∀ a cls d, WpS K S0 H0 (ts a cls d) δ e) : HxOk K S0 H0 δ e (fun D => wOnly K c ts Wout D) cn := fun D S H σ cf o =>
  ⟨true, hb, fun _ a _ => h a _ _ S H σ D cf o, fun z => absurd z (by decide)⟩
theorem hx_many {Wout : WX} {l : List (Value × (Addr → Value → Option Addr → TS))} {c : Value} {ts : Addr → Value → Option Addr → TS} {cn : Str} (hb : PySem.W.exmOne K (.ref (He.ga K cn)) c = some true) (h : ∀ a cls d, WpS K S0 H0 (ts a cls d) δ e) : HxOk K S0 H0 δ e (fun D => wMany K Wout D ((c, ts) :: l)) cn := fun D S H σ cf o =>
  ⟨true, hb, fun _ a _ => h a _ _ S H σ D cf o, fun z => absurd z (by decide)⟩
theorem hx_more {Wout : WX} {l : List (Value × (Addr → Value → Option Addr → TS))} {c : Value} {ts : Addr → Value → Option Addr → TS} {cn : Str} (hb : PySem.W.exmOne K (.ref (He.ga K cn)) c = some false) (h : HxOk K S0 H0 δ e (fun D => wMany K Wout D l) cn) : HxOk K S0 H0 δ e (fun D => wMany K Wout D ((c, ts) :: l)) cn := fun D S H σ cf o =>
  ⟨false, hb, fun z => absurd z (by decide), fun _ => h D S H σ cf o⟩
theorem ws_tryA (h : EvX K S0 H0 te δ (fun d => e.nx (δ.set i (.sh d))) X) (hx : ∀ cn, X cn → HxOk K S0 H0 δ e w cn) : WpS K S0 H0 (fun D σ H => tAsg (te (w D)) (gName i) D σ H) δ e := fun S H σ Dn c o =>
  h S H σ c (w Dn) _ (fun d v S1 H1 r g p => o.nx _ S1 H1 _ r g.s ((c.grow g).setSh p)) fun cn S1 H1 x g => hx cn x Dn S1 H1 σ (c.grow g) (o.up g.s)
theorem ws_tryD (h : EvX K S0 H0 te δ (fun _ => e.nx δ) X) (hx : ∀ cn, X cn → HxOk K S0 H0 δ e w cn) : WpS K S0 H0 (fun D σ H => tDrop (te (w D)) D σ H) δ e := fun S H σ Dn c o =>
  h S H σ c (w Dn) _ (fun d v S1 H1 r g p => o.nx _ S1 H1 _ r g.s (c.grow g)) fun cn S1 H1 x g => hx cn x Dn S1 H1 σ (c.grow g) (o.up g.s)
theorem ws_tryR (h : EvX K S0 H0 te δ e.rt X) (hx : ∀ cn, X cn → HxOk K S0 H0 δ e w cn) : WpS K S0 H0 (fun D σ H => tRet (te (w D)) D σ H) δ e := fun S H σ Dn c o =>
  h S H σ c (w Dn) _ (fun d v S1 H1 r g p => o.rt d v S1 H1 r (c.g.trans g) p) fun cn S1 H1 x g => hx cn x Dn S1 H1 σ (c.grow g) (o.up g.s)
theorem try_AM_o {C : Addr} {m : Str} {c : Value} {ts : Addr → Value → Option Addr → TS} {Wout : WX} (h : EvR K S0 H0 ta δ fun d => ∃ Cn fs, d = .ins Cn fs ∧ He.ga K Cn = C ∧ fs.lookup m = none ∧ EvA K S0 H0 t δ fun ds => Pre (d :: ds) (fun r => e.nx (δ.set i (.sh r))) X) (hx : ∀ cn, X cn → HxOk K S0 H0 δ e (fun D => wOnly K c ts Wout D) cn) : WpS K S0 H0 (fun D σ H => tAsg (tMethS C m (SpP K Pre) (WE (wOnly K c ts Wout D)) ta t) (gName i) D σ H) δ e := ws_tryA (te := fun W => tMethS C m (SpP K Pre) (fun σ => WE W σ) ta t) (w := fun D => wOnly K c ts Wout D) (evx_meth h) hx
theorem try_AM_m {C : Addr} {m : Str} {Wout : WX} {l : List (Value × (Addr → Value → Option Addr → TS))} (h : EvR K S0 H0 ta δ fun d => ∃ Cn fs, d = .ins Cn fs ∧ He.ga K Cn = C ∧ fs.lookup m = none ∧ EvA K S0 H0 t δ fun ds => Pre (d :: ds) (fun r => e.nx (δ.set i (.sh r))) X) (hx : ∀ cn, X cn → HxOk K S0 H0 δ e (fun D => wMany K Wout D l) cn) : WpS K S0 H0 (fun D σ H => tAsg (tMethS C m (SpP K Pre) (WE (wMany K Wout D l)) ta t) (gName i) D σ H) δ e := ws_tryA (te := fun W => tMethS C m (SpP K Pre) (fun σ => WE W σ) ta t) (w := fun D => wMany K Wout D l) (evx_meth h) hx
theorem try_AC_o {C : Addr} {m : Str} {c : Value} {ts : Addr → Value → Option Addr → TS} {Wout : WX} (h : EvA K S0 H0 t δ fun ds => Pre ds (fun r => e.nx (δ.set i (.sh r))) X) (hx : ∀ cn, X cn → HxOk K S0 H0 δ e (fun D => wOnly K c ts Wout D) cn) : WpS K S0 H0 (fun D σ H => tAsg (tCallS (SpP K Pre) (WE (wOnly K c ts Wout D)) t) (gName i) D σ H) δ e := ws_tryA (te := fun W => tCallS (SpP K Pre) (fun σ => WE W σ) t) (w := fun D => wOnly K c ts Wout D) (evx_call h) hx
theorem try_AC_m {C : Addr} {m : Str} {Wout : WX} {l : List (Value × (Addr → Value → Option Addr → TS))} (h : EvA K S0 H0 t δ fun ds => Pre ds (fun r => e.nx (δ.set i (.sh r))) X) (hx : ∀ cn, X cn → HxOk K S0 H0 δ e (fun D => wMany K Wout D l) cn) : WpS K S0 H0 (fun D σ H => tAsg (tCallS (SpP K Pre) (WE (wMany K Wout D l)) t) (gName i) D σ H) δ e := ws_tryA (te := fun W => tCallS (SpP K Pre) (fun σ => WE W σ) t) (w := fun D => wMany K Wout D l) (evx_call h) hx
theorem try_DM_o {C : Addr} {m : Str} {c : Value} {ts : Addr → Value → Option Addr → TS} {Wout : WX} (h : EvR K S0 H0 ta δ fun d => ∃ Cn fs, d = .ins Cn fs ∧ He.ga K Cn = C ∧ fs.lookup m = none ∧ EvA K S0 H0 t δ fun ds => Pre (d :: ds) (fun _ => e.nx δ) X) (hx : ∀ cn, X cn → HxOk K S0 H0 δ e (fun D => wOnly K c ts Wout D) cn) : WpS K S0 H0 (fun D σ H => tDrop (tMethS C m (SpP K Pre) (WE (wOnly K c ts Wout D)) ta t) D σ H) δ e := ws_tryD (te := fun W => tMethS C m (SpP K Pre) (fun σ => WE W σ) ta t) (w := fun D => wOnly K c ts Wout D) (evx_meth h) hx
theorem try_DM_m {C : Addr} {m : Str} {Wout : WX} {l : List (Value × (Addr → Value → Option Addr → TS))} (h : EvR K S0 H0 ta δ fun d => ∃ Cn fs, d = .ins Cn fs ∧ He.ga K Cn = C ∧ fs.lookup m = none ∧ EvA K S0 H0 t δ fun ds => Pre (d :: ds) (fun _ => e.nx δ) X) (hx : ∀ cn, X cn → HxOk K S0 H0 δ e (fun D => wMany K Wout D l) cn) : WpS K S0 H0 (fun D σ H => tDrop (tMethS C m (SpP K Pre) (WE (wMany K Wout D l)) ta t) D σ H) δ e := ws_tryD (te := fun W => tMethS C m (SpP K Pre) (fun σ => WE W σ) ta t) (w := fun D => wMany K Wout D l) (evx_meth h) hx
theorem try_DC_o {C : Addr} {m : Str} {c : Value} {ts : Addr → Value → Option Addr → TS} {Wout : WX} (h : EvA K S0 H0 t δ fun ds => Pre ds (fun _ => e.nx δ) X) (hx : ∀ cn, X cn → HxOk K S0 H0 δ e (fun D => wOnly K c ts Wout D) cn) : WpS K S0 H0 (fun D σ H => tDrop (tCallS (SpP K Pre) (WE (wOnly K c ts Wout D)) t) D σ H) δ e := ws_tryD (te := fun W => tCallS (SpP K Pre) (fun σ => WE W σ) t) (w := fun D => wOnly K c ts Wout D) (evx_call h) hx
theorem try_DC_m {C : Addr} {m : Str} {Wout : WX} {l : List (Value × (Addr → Value → Option Addr → TS))} (h : EvA K S0 H0 t δ fun ds => Pre ds (fun _ => e.nx δ) X) (hx : ∀ cn, X cn → HxOk K S0 H0 δ e (fun D => wMany K Wout D l) cn) : WpS K S0 H0 (fun D σ H => tDrop (tCallS (SpP K Pre) (WE (wMany K Wout D l)) t) D σ H) δ e := ws_tryD (te := fun W => tCallS (SpP K Pre) (fun σ => WE W σ) t) (w := fun D => wMany K Wout D l) (evx_call h) hx
theorem try_RM_o {C : Addr} {m : Str} {c : Value} {ts : Addr → Value → Option Addr → TS} {Wout : WX} (h : EvR K S0 H0 ta δ fun d => ∃ Cn fs, d = .ins Cn fs ∧ He.ga K Cn = C ∧ fs.lookup m = none ∧ EvA K S0 H0 t δ fun ds => Pre (d :: ds) (e.rt) X) (hx : ∀ cn, X cn → HxOk K S0 H0 δ e (fun D => wOnly K c ts Wout D) cn) : WpS K S0 H0 (fun D σ H => tRet (tMethS C m (SpP K Pre) (WE (wOnly K c ts Wout D)) ta t) D σ H) δ e := ws_tryR (te := fun W => tMethS C m (SpP K Pre) (fun σ => WE W σ) ta t) (w := fun D => wOnly K c ts Wout D) (evx_meth h) hx
theorem try_RM_m {C : Addr} {m : Str} {Wout : WX} {l : List (Value × (Addr → Value → Option Addr → TS))} (h : EvR K S0 H0 ta δ fun d => ∃ Cn fs, d = .ins Cn fs ∧ He.ga K Cn = C ∧ fs.lookup m = none ∧ EvA K S0 H0 t δ fun ds => Pre (d :: ds) (e.rt) X) (hx : ∀ cn, X cn → HxOk K S0 H0 δ e (fun D => wMany K Wout D l) cn) : WpS K S0 H0 (fun D σ H => tRet (tMethS C m (SpP K Pre) (WE (wMany K Wout D l)) ta t) D σ H) δ e := ws_tryR (te := fun W => tMethS C m (SpP K Pre) (fun σ => WE W σ) ta t) (w := fun D => wMany K Wout D l) (evx_meth h) hx
theorem try_RC_o {C : Addr} {m : Str} {c : Value} {ts : Addr → Value → Option Addr → TS} {Wout : WX} (h : EvA K S0 H0 t δ fun ds => Pre ds (e.rt) X) (hx : ∀ cn, X cn → HxOk K S0 H0 δ e (fun D => wOnly K c ts Wout D) cn) : WpS K S0 H0 (fun D σ H => tRet (tCallS (SpP K Pre) (WE (wOnly K c ts Wout D)) t) D σ H) δ e := ws_tryR (te := fun W => tCallS (SpP K Pre) (fun σ => WE W σ) t) (w := fun D => wOnly K c ts Wout D) (evx_call h) hx
theorem try_RC_m {C : Addr} {m : Str} {Wout : WX} {l : List (Value × (Addr → Value → Option Addr → TS))} (h : EvA K S0 H0 t δ fun ds => Pre ds (e.rt) X) (hx : ∀ cn, X cn → HxOk K S0 H0 δ e (fun D => wMany K Wout D l) cn) : WpS K S0 H0 (fun D σ H => tRet (tCallS (SpP K Pre) (WE (wMany K Wout D l)) t) D σ H) δ e := ws_tryR (te := fun W => tCallS (SpP K Pre) (fun σ => WE W σ) t) (w := fun D => wMany K Wout D l) (evx_call h) hx
/-- range(m, n), n told by a word -/
theorem EvA.forR2 {m : Int} {ta : TA} {j : Nat} {t : TS} (N : Int → Prop) (Inv : Nat → List Sl → Prop) (h : EvA K S0 H0 ta δ fun ds => ∃ n : Int, ds = [.int m, .int n] ∧ N n ∧ Inv 0 δ)
    (hs : ∀ (n : Int) (i : Nat) δ', N n → m + (i : Int) < n → Inv i δ' → WpS K S0 H0 t (δ'.set j (.sh (.int (m + i)))) { nx := Inv (i + 1), ct := Inv (i + 1), bk := e.nx, rt := e.rt, rn := e.rn }) (hd : ∀ n δ', N n → Inv (n - m).toNat δ' → e.nx δ')
    (hm : -(2 ^ 62) ≤ m ∧ m < 2 ^ 62 := by decide) (hN : ∀ n, N n → -(2 ^ 62) ≤ n ∧ n < 2 ^ 62 := by intro n h; omega) : WpS K S0 H0 (tFor (iRng2 ta) (gName j) t) δ e := fun S H σ Dn c o =>
  h S H σ c _ fun ds vs S1 H1 ⟨n, ed, hn, i0⟩ g p => by
    have hb := hN n hn
    have w := ws_forR2 (K := K) (S0 := S0) (H0 := H0) (t := t) (δ := δ) (e := e) (n := n) (m := m) (ta := fun σ H Q => Q [.int m, .int n] H) (tg_name (j := j)) Inv (fun S H σ c Q k => k [.int m, .int n] [.int m, .int n] S H ⟨rfl, ⟨hm.1, hm.2, hb.1, hb.2⟩, i0⟩ (Gx.refl c.g.sub) (.cons (.int _) (.cons (.int _) .nil))) (fun i δ' hi q => ⟨trivial, hs n i δ' hn hi q⟩) (fun δ' q => hd n δ' hn q)
    subst ed
    cases p with
    | cons p1 p2 =>
      cases p2 with
      | cons p2 p3 =>
        cases p3
        cases p1
        cases p2
        exact w S1 H1 σ Dn (c.grow g) (o.up g.s)
end
end Ag

namespace Ag
open PySem PySem.Spec PyProof.Rows L2
def topS (i : Nat) : Stmt := PySem.Challenge.pw_agegrade_k42_bounds_told.main.body.getD i (.Pass ⟨0, 0, 0, 0⟩)
abbrev s_bounds : Stmt := topS 5
abbrev s_within : Stmt := topS 12
abbrev s_good_stays : Stmt := topS 13
abbrev s__law_draw : Stmt := topS 16
abbrev s__law_cell : Stmt := topS 17
abbrev s__law_same : Stmt := topS 18
abbrev s__law_rule : Stmt := topS 19
abbrev s__law_made : Stmt := topS 20
abbrev s__law_grade : Stmt := topS 21
abbrev s__law_many : Stmt := topS 22
abbrev s__law_bounds_due : Stmt := topS 23
abbrev s_law : Stmt := topS 24
abbrev s_Rule___init__ : Stmt := inClass (topS 14) 0
abbrev s_Rule_stays : Stmt := inClass (topS 14) 1
abbrev s_Rule_grades : Stmt := inClass (topS 14) 2
abbrev s_Rule_grade_at : Stmt := inClass (topS 14) 5
abbrev s_Rule_fathering : Stmt := inClass (topS 14) 6
abbrev s_Rule_fathering_from : Stmt := inClass (topS 14) 7
abbrev s_Rule_fathering_to : Stmt := inClass (topS 14) 8
def dD_bounds : He.DefD := ⟨("bounds", none), "bounds", "bounds", defArgs s_bounds, defBody s_bounds, defScope s_bounds, [], []⟩
def dD_within : He.DefD := ⟨("within", none), "within", "within", defArgs s_within, defBody s_within, defScope s_within, [], []⟩
def dD_good_stays : He.DefD := ⟨("good_stays", none), "good_stays", "good_stays", defArgs s_good_stays, defBody s_good_stays, defScope s_good_stays, [], []⟩
def dD__law_draw : He.DefD := ⟨("_law_draw", none), "_law_draw", "_law_draw", defArgs s__law_draw, defBody s__law_draw, defScope s__law_draw, [], []⟩
def dD__law_cell : He.DefD := ⟨("_law_cell", none), "_law_cell", "_law_cell", defArgs s__law_cell, defBody s__law_cell, defScope s__law_cell, [], []⟩
def dD__law_same : He.DefD := ⟨("_law_same", none), "_law_same", "_law_same", defArgs s__law_same, defBody s__law_same, defScope s__law_same, [], []⟩
def dD__law_rule : He.DefD := ⟨("_law_rule", none), "_law_rule", "_law_rule", defArgs s__law_rule, defBody s__law_rule, defScope s__law_rule, [], []⟩
def dD__law_made : He.DefD := ⟨("_law_made", none), "_law_made", "_law_made", defArgs s__law_made, defBody s__law_made, defScope s__law_made, [], []⟩
def dD__law_grade : He.DefD := ⟨("_law_grade", none), "_law_grade", "_law_grade", defArgs s__law_grade, defBody s__law_grade, defScope s__law_grade, [], []⟩
def dD__law_many : He.DefD := ⟨("_law_many", none), "_law_many", "_law_many", defArgs s__law_many, defBody s__law_many, defScope s__law_many, [], []⟩
def dD__law_bounds_due : He.DefD := ⟨("_law_bounds_due", none), "_law_bounds_due", "_law_bounds_due", defArgs s__law_bounds_due, defBody s__law_bounds_due, defScope s__law_bounds_due, [], []⟩
def dD_law : He.DefD := ⟨("law", none), "law", "law", defArgs s_law, defBody s_law, defScope s_law, [], []⟩
def dD_Rule___init__ : He.DefD := ⟨("Rule", some "__init__"), "__init__", "Rule.__init__", defArgs s_Rule___init__, defBody s_Rule___init__, defScope s_Rule___init__, [], []⟩
def dD_Rule_stays : He.DefD := ⟨("Rule", some "stays"), "stays", "Rule.stays", defArgs s_Rule_stays, defBody s_Rule_stays, defScope s_Rule_stays, [], []⟩
def dD_Rule_grades : He.DefD := ⟨("Rule", some "grades"), "grades", "Rule.grades", defArgs s_Rule_grades, defBody s_Rule_grades, defScope s_Rule_grades, [], []⟩
def dD_Rule_grade_at : He.DefD := ⟨("Rule", some "grade_at"), "grade_at", "Rule.grade_at", defArgs s_Rule_grade_at, defBody s_Rule_grade_at, defScope s_Rule_grade_at, [], []⟩
def dD_Rule_fathering : He.DefD := ⟨("Rule", some "fathering"), "fathering", "Rule.fathering", defArgs s_Rule_fathering, defBody s_Rule_fathering, defScope s_Rule_fathering, [], []⟩
def dD_Rule_fathering_from : He.DefD := ⟨("Rule", some "fathering_from"), "fathering_from", "Rule.fathering_from", defArgs s_Rule_fathering_from, defBody s_Rule_fathering_from, defScope s_Rule_fathering_from, [], []⟩
def dD_Rule_fathering_to : He.DefD := ⟨("Rule", some "fathering_to"), "fathering_to", "Rule.fathering_to", defArgs s_Rule_fathering_to, defBody s_Rule_fathering_to, defScope s_Rule_fathering_to, [], []⟩
def fn : List He.DefD := [dD_bounds, dD_within, dD_good_stays, dD__law_draw, dD__law_cell, dD__law_same, dD__law_rule, dD__law_made, dD__law_grade, dD__law_many, dD__law_bounds_due, dD_law, dD_Rule___init__, dD_Rule_stays, dD_Rule_grades, dD_Rule_grade_at, dD_Rule_fathering, dD_Rule_fathering_from, dD_Rule_fathering_to]
def fa : List He.Fa := [.glo "bounds",
  .glo "within",
  .glo "good_stays",
  .glo "_law_draw",
  .glo "_law_cell",
  .glo "_law_same",
  .glo "_law_rule",
  .glo "_law_made",
  .glo "_law_grade",
  .glo "_law_many",
  .glo "_law_bounds_due",
  .glo "law",
  .glo "Rule",
  .glo "AgeError",
  .glo "BadRule",
  .free "len",
  .free "sum",
  .free "max",
  .free "min",
  .free "range",
  .free "isinstance",
  .free "int",
  .free "str",
  .free "bool",
  .free "list",
  .free "tuple",
  .free "all",
  .int "MOST_GRADES" 8,
  .int "MOST_STAY" 6,
  .int "MOST_GAP" 60,
  .int "MOST_YEARS" 40,
  .int "MOST_NAMES" 60,
  .cls "Rule",
  .noat "Rule" "gap",
  .noat "Rule" "opens",
  .noat "Rule" "shuts",
  .noat "Rule" "least",
  .noat "Rule" "most",
  .noat "Rule" "names",
  .noat "Rule" "each",
  .noat "Rule" "starts",
  .mkr "Rule",
  .meth "Rule" "stays",
  .meth "Rule" "grades",
  .meth "Rule" "span",
  .meth "Rule" "begin",
  .meth "Rule" "grade_at",
  .meth "Rule" "fathering",
  .meth "Rule" "fathering_from",
  .meth "Rule" "fathering_to",
  .exc "AgeError",
  .exc "BadRule"]
structure Cn (K : PySem.W.Frag) (mg : Str → Option Value) : Prop where
  c : He.SaysD fa fn K
  g : ∃ h : Heap, K.In h ∧ h.Ns mainGlobals mg
section
variable {K : PySem.W.Frag} {mg : Str → Option Value} (T : Cn K mg)
include T
theorem g_bounds : mg "bounds" = some (.ref (He.ga K "bounds")) := by obtain ⟨h, X, G⟩ := T.g; exact He.glo_ok X G (T.c.fact 0 (f := .glo "bounds") rfl)
theorem g_within : mg "within" = some (.ref (He.ga K "within")) := by obtain ⟨h, X, G⟩ := T.g; exact He.glo_ok X G (T.c.fact 1 (f := .glo "within") rfl)
theorem g_good_stays : mg "good_stays" = some (.ref (He.ga K "good_stays")) := by obtain ⟨h, X, G⟩ := T.g; exact He.glo_ok X G (T.c.fact 2 (f := .glo "good_stays") rfl)
theorem g__law_draw : mg "_law_draw" = some (.ref (He.ga K "_law_draw")) := by obtain ⟨h, X, G⟩ := T.g; exact He.glo_ok X G (T.c.fact 3 (f := .glo "_law_draw") rfl)
theorem g__law_cell : mg "_law_cell" = some (.ref (He.ga K "_law_cell")) := by obtain ⟨h, X, G⟩ := T.g; exact He.glo_ok X G (T.c.fact 4 (f := .glo "_law_cell") rfl)
theorem g__law_same : mg "_law_same" = some (.ref (He.ga K "_law_same")) := by obtain ⟨h, X, G⟩ := T.g; exact He.glo_ok X G (T.c.fact 5 (f := .glo "_law_same") rfl)
theorem g__law_rule : mg "_law_rule" = some (.ref (He.ga K "_law_rule")) := by obtain ⟨h, X, G⟩ := T.g; exact He.glo_ok X G (T.c.fact 6 (f := .glo "_law_rule") rfl)
theorem g__law_made : mg "_law_made" = some (.ref (He.ga K "_law_made")) := by obtain ⟨h, X, G⟩ := T.g; exact He.glo_ok X G (T.c.fact 7 (f := .glo "_law_made") rfl)
theorem g__law_grade : mg "_law_grade" = some (.ref (He.ga K "_law_grade")) := by obtain ⟨h, X, G⟩ := T.g; exact He.glo_ok X G (T.c.fact 8 (f := .glo "_law_grade") rfl)
theorem g__law_many : mg "_law_many" = some (.ref (He.ga K "_law_many")) := by obtain ⟨h, X, G⟩ := T.g; exact He.glo_ok X G (T.c.fact 9 (f := .glo "_law_many") rfl)
theorem g__law_bounds_due : mg "_law_bounds_due" = some (.ref (He.ga K "_law_bounds_due")) := by obtain ⟨h, X, G⟩ := T.g; exact He.glo_ok X G (T.c.fact 10 (f := .glo "_law_bounds_due") rfl)
theorem g_law : mg "law" = some (.ref (He.ga K "law")) := by obtain ⟨h, X, G⟩ := T.g; exact He.glo_ok X G (T.c.fact 11 (f := .glo "law") rfl)
theorem g_Rule : mg "Rule" = some (.ref (He.ga K "Rule")) := by obtain ⟨h, X, G⟩ := T.g; exact He.glo_ok X G (T.c.fact 12 (f := .glo "Rule") rfl)
theorem g_AgeError : mg "AgeError" = some (.ref (He.ga K "AgeError")) := by obtain ⟨h, X, G⟩ := T.g; exact He.glo_ok X G (T.c.fact 13 (f := .glo "AgeError") rfl)
theorem g_BadRule : mg "BadRule" = some (.ref (He.ga K "BadRule")) := by obtain ⟨h, X, G⟩ := T.g; exact He.glo_ok X G (T.c.fact 14 (f := .glo "BadRule") rfl)
theorem z_len : mg "len" = none := by obtain ⟨h, X, G⟩ := T.g; exact He.free_ok X G (T.c.fact 15 (f := .free "len") rfl)
theorem z_sum : mg "sum" = none := by obtain ⟨h, X, G⟩ := T.g; exact He.free_ok X G (T.c.fact 16 (f := .free "sum") rfl)
theorem z_max : mg "max" = none := by obtain ⟨h, X, G⟩ := T.g; exact He.free_ok X G (T.c.fact 17 (f := .free "max") rfl)
theorem z_min : mg "min" = none := by obtain ⟨h, X, G⟩ := T.g; exact He.free_ok X G (T.c.fact 18 (f := .free "min") rfl)
theorem z_range : mg "range" = none := by obtain ⟨h, X, G⟩ := T.g; exact He.free_ok X G (T.c.fact 19 (f := .free "range") rfl)
theorem z_isinstance : mg "isinstance" = none := by obtain ⟨h, X, G⟩ := T.g; exact He.free_ok X G (T.c.fact 20 (f := .free "isinstance") rfl)
theorem z_int : mg "int" = none := by obtain ⟨h, X, G⟩ := T.g; exact He.free_ok X G (T.c.fact 21 (f := .free "int") rfl)
theorem z_str : mg "str" = none := by obtain ⟨h, X, G⟩ := T.g; exact He.free_ok X G (T.c.fact 22 (f := .free "str") rfl)
theorem z_bool : mg "bool" = none := by obtain ⟨h, X, G⟩ := T.g; exact He.free_ok X G (T.c.fact 23 (f := .free "bool") rfl)
theorem z_list : mg "list" = none := by obtain ⟨h, X, G⟩ := T.g; exact He.free_ok X G (T.c.fact 24 (f := .free "list") rfl)
theorem z_tuple : mg "tuple" = none := by obtain ⟨h, X, G⟩ := T.g; exact He.free_ok X G (T.c.fact 25 (f := .free "tuple") rfl)
theorem z_all : mg "all" = none := by obtain ⟨h, X, G⟩ := T.g; exact He.free_ok X G (T.c.fact 26 (f := .free "all") rfl)
theorem i_MOST_GRADES : ∃ t, mg "MOST_GRADES" = some (.int 8 t) := by obtain ⟨h, X, G⟩ := T.g; exact He.int_ok X G (T.c.fact 27 (f := .int "MOST_GRADES" 8) rfl)
theorem i_MOST_STAY : ∃ t, mg "MOST_STAY" = some (.int 6 t) := by obtain ⟨h, X, G⟩ := T.g; exact He.int_ok X G (T.c.fact 28 (f := .int "MOST_STAY" 6) rfl)
theorem i_MOST_GAP : ∃ t, mg "MOST_GAP" = some (.int 60 t) := by obtain ⟨h, X, G⟩ := T.g; exact He.int_ok X G (T.c.fact 29 (f := .int "MOST_GAP" 60) rfl)
theorem i_MOST_YEARS : ∃ t, mg "MOST_YEARS" = some (.int 40 t) := by obtain ⟨h, X, G⟩ := T.g; exact He.int_ok X G (T.c.fact 30 (f := .int "MOST_YEARS" 40) rfl)
theorem i_MOST_NAMES : ∃ t, mg "MOST_NAMES" = some (.int 60 t) := by obtain ⟨h, X, G⟩ := T.g; exact He.int_ok X G (T.c.fact 31 (f := .int "MOST_NAMES" 60) rfl)
theorem cl_Rule : Cls K (He.ga K "Rule") := He.cls_ok (T.c.fact 32 (f := .cls "Rule") rfl)
theorem na_Rule_gap : NoAttr K (He.ga K "Rule") "gap" := He.noat_ok (T.c.fact 33 (f := .noat "Rule" "gap") rfl)
theorem na_Rule_opens : NoAttr K (He.ga K "Rule") "opens" := He.noat_ok (T.c.fact 34 (f := .noat "Rule" "opens") rfl)
theorem na_Rule_shuts : NoAttr K (He.ga K "Rule") "shuts" := He.noat_ok (T.c.fact 35 (f := .noat "Rule" "shuts") rfl)
theorem na_Rule_least : NoAttr K (He.ga K "Rule") "least" := He.noat_ok (T.c.fact 36 (f := .noat "Rule" "least") rfl)
theorem na_Rule_most : NoAttr K (He.ga K "Rule") "most" := He.noat_ok (T.c.fact 37 (f := .noat "Rule" "most") rfl)
theorem na_Rule_names : NoAttr K (He.ga K "Rule") "names" := He.noat_ok (T.c.fact 38 (f := .noat "Rule" "names") rfl)
theorem na_Rule_each : NoAttr K (He.ga K "Rule") "each" := He.noat_ok (T.c.fact 39 (f := .noat "Rule" "each") rfl)
theorem na_Rule_starts : NoAttr K (He.ga K "Rule") "starts" := He.noat_ok (T.c.fact 40 (f := .noat "Rule" "starts") rfl)
theorem mk_Rule : Mk K (He.ga K "Rule") (He.fAd K ("Rule", some "__init__")) := He.mkr_ok (T.c.fact 41 (f := .mkr "Rule") rfl)
theorem me_Rule_stays : Meth K (He.ga K "Rule") "stays" (He.fAd K ("Rule", some "stays")) := He.meth_ok (T.c.fact 42 (f := .meth "Rule" "stays") rfl)
theorem me_Rule_grades : Meth K (He.ga K "Rule") "grades" (He.fAd K ("Rule", some "grades")) := He.meth_ok (T.c.fact 43 (f := .meth "Rule" "grades") rfl)
theorem me_Rule_span : Meth K (He.ga K "Rule") "span" (He.fAd K ("Rule", some "span")) := He.meth_ok (T.c.fact 44 (f := .meth "Rule" "span") rfl)
theorem me_Rule_begin : Meth K (He.ga K "Rule") "begin" (He.fAd K ("Rule", some "begin")) := He.meth_ok (T.c.fact 45 (f := .meth "Rule" "begin") rfl)
theorem me_Rule_grade_at : Meth K (He.ga K "Rule") "grade_at" (He.fAd K ("Rule", some "grade_at")) := He.meth_ok (T.c.fact 46 (f := .meth "Rule" "grade_at") rfl)
theorem me_Rule_fathering : Meth K (He.ga K "Rule") "fathering" (He.fAd K ("Rule", some "fathering")) := He.meth_ok (T.c.fact 47 (f := .meth "Rule" "fathering") rfl)
theorem me_Rule_fathering_from : Meth K (He.ga K "Rule") "fathering_from" (He.fAd K ("Rule", some "fathering_from")) := He.meth_ok (T.c.fact 48 (f := .meth "Rule" "fathering_from") rfl)
theorem me_Rule_fathering_to : Meth K (He.ga K "Rule") "fathering_to" (He.fAd K ("Rule", some "fathering_to")) := He.meth_ok (T.c.fact 49 (f := .meth "Rule" "fathering_to") rfl)
theorem xc_AgeError : PySem.W.excIn K (He.ga K "AgeError") He.veBase "ValueError.__new__" = true ∧ PySem.W.keepIn K (.ref (He.ga K "AgeError")) = true ∧ PySem.W.subIn K (.ref (He.ga K "AgeError")) (.type "BaseException") = some true ∧ PySem.W.typeIn K (.ref (He.ga K "AgeError")) = some (.type "type") := He.exc_ok (T.c.fact 50 (f := .exc "AgeError") rfl)
theorem xc_BadRule : PySem.W.excIn K (He.ga K "BadRule") He.veBase "ValueError.__new__" = true ∧ PySem.W.keepIn K (.ref (He.ga K "BadRule")) = true ∧ PySem.W.subIn K (.ref (He.ga K "BadRule")) (.type "BaseException") = some true ∧ PySem.W.typeIn K (.ref (He.ga K "BadRule")) = some (.type "type") := He.exc_ok (T.c.fact 51 (f := .exc "BadRule") rfl)
theorem fd_bounds : ∃ fd, FunD K "bounds" "bounds" (defArgs s_bounds) (defBody s_bounds) (defScope s_bounds) [] [] (He.fAd K ("bounds", none)) fd := T.c.def_ 0 (d := dD_bounds) rfl
theorem fd_within : ∃ fd, FunD K "within" "within" (defArgs s_within) (defBody s_within) (defScope s_within) [] [] (He.fAd K ("within", none)) fd := T.c.def_ 1 (d := dD_within) rfl
theorem fd_good_stays : ∃ fd, FunD K "good_stays" "good_stays" (defArgs s_good_stays) (defBody s_good_stays) (defScope s_good_stays) [] [] (He.fAd K ("good_stays", none)) fd := T.c.def_ 2 (d := dD_good_stays) rfl
theorem fd__law_draw : ∃ fd, FunD K "_law_draw" "_law_draw" (defArgs s__law_draw) (defBody s__law_draw) (defScope s__law_draw) [] [] (He.fAd K ("_law_draw", none)) fd := T.c.def_ 3 (d := dD__law_draw) rfl
theorem fd__law_cell : ∃ fd, FunD K "_law_cell" "_law_cell" (defArgs s__law_cell) (defBody s__law_cell) (defScope s__law_cell) [] [] (He.fAd K ("_law_cell", none)) fd := T.c.def_ 4 (d := dD__law_cell) rfl
theorem fd__law_same : ∃ fd, FunD K "_law_same" "_law_same" (defArgs s__law_same) (defBody s__law_same) (defScope s__law_same) [] [] (He.fAd K ("_law_same", none)) fd := T.c.def_ 5 (d := dD__law_same) rfl
theorem fd__law_rule : ∃ fd, FunD K "_law_rule" "_law_rule" (defArgs s__law_rule) (defBody s__law_rule) (defScope s__law_rule) [] [] (He.fAd K ("_law_rule", none)) fd := T.c.def_ 6 (d := dD__law_rule) rfl
theorem fd__law_made : ∃ fd, FunD K "_law_made" "_law_made" (defArgs s__law_made) (defBody s__law_made) (defScope s__law_made) [] [] (He.fAd K ("_law_made", none)) fd := T.c.def_ 7 (d := dD__law_made) rfl
theorem fd__law_grade : ∃ fd, FunD K "_law_grade" "_law_grade" (defArgs s__law_grade) (defBody s__law_grade) (defScope s__law_grade) [] [] (He.fAd K ("_law_grade", none)) fd := T.c.def_ 8 (d := dD__law_grade) rfl
theorem fd__law_many : ∃ fd, FunD K "_law_many" "_law_many" (defArgs s__law_many) (defBody s__law_many) (defScope s__law_many) [] [] (He.fAd K ("_law_many", none)) fd := T.c.def_ 9 (d := dD__law_many) rfl
theorem fd__law_bounds_due : ∃ fd, FunD K "_law_bounds_due" "_law_bounds_due" (defArgs s__law_bounds_due) (defBody s__law_bounds_due) (defScope s__law_bounds_due) [] [] (He.fAd K ("_law_bounds_due", none)) fd := T.c.def_ 10 (d := dD__law_bounds_due) rfl
theorem fd_law : ∃ fd, FunD K "law" "law" (defArgs s_law) (defBody s_law) (defScope s_law) [] [] (He.fAd K ("law", none)) fd := T.c.def_ 11 (d := dD_law) rfl
theorem fd_Rule___init__ : ∃ fd, FunD K "__init__" "Rule.__init__" (defArgs s_Rule___init__) (defBody s_Rule___init__) (defScope s_Rule___init__) [] [] (He.fAd K ("Rule", some "__init__")) fd := T.c.def_ 12 (d := dD_Rule___init__) rfl
theorem fd_Rule_stays : ∃ fd, FunD K "stays" "Rule.stays" (defArgs s_Rule_stays) (defBody s_Rule_stays) (defScope s_Rule_stays) [] [] (He.fAd K ("Rule", some "stays")) fd := T.c.def_ 13 (d := dD_Rule_stays) rfl
theorem fd_Rule_grades : ∃ fd, FunD K "grades" "Rule.grades" (defArgs s_Rule_grades) (defBody s_Rule_grades) (defScope s_Rule_grades) [] [] (He.fAd K ("Rule", some "grades")) fd := T.c.def_ 14 (d := dD_Rule_grades) rfl
theorem fd_Rule_grade_at : ∃ fd, FunD K "grade_at" "Rule.grade_at" (defArgs s_Rule_grade_at) (defBody s_Rule_grade_at) (defScope s_Rule_grade_at) [] [] (He.fAd K ("Rule", some "grade_at")) fd := T.c.def_ 15 (d := dD_Rule_grade_at) rfl
theorem fd_Rule_fathering : ∃ fd, FunD K "fathering" "Rule.fathering" (defArgs s_Rule_fathering) (defBody s_Rule_fathering) (defScope s_Rule_fathering) [] [] (He.fAd K ("Rule", some "fathering")) fd := T.c.def_ 16 (d := dD_Rule_fathering) rfl
theorem fd_Rule_fathering_from : ∃ fd, FunD K "fathering_from" "Rule.fathering_from" (defArgs s_Rule_fathering_from) (defBody s_Rule_fathering_from) (defScope s_Rule_fathering_from) [] [] (He.fAd K ("Rule", some "fathering_from")) fd := T.c.def_ 17 (d := dD_Rule_fathering_from) rfl
theorem fd_Rule_fathering_to : ∃ fd, FunD K "fathering_to" "Rule.fathering_to" (defArgs s_Rule_fathering_to) (defBody s_Rule_fathering_to) (defScope s_Rule_fathering_to) [] [] (He.fAd K ("Rule", some "fathering_to")) fd := T.c.def_ 18 (d := dD_Rule_fathering_to) rfl
end
local macro_rules | `(tactic| walk_at "ag1") => `(tactic| first
  | (with_reducible refine ws_seq ?_)
  | (with_reducible refine ws_asgN (en_lst (ea_nil ⟨Nat.zero_le _, ?_⟩)))
  | (with_reducible refine ws_asg ?_)
  | ((with_reducible refine' ws_retOw ?agh ?_); (case agh => rfl))
  | (with_reducible refine ws_ret ?_)
  | (with_reducible refine ws_next ?_)
  | (with_reducible refine ws_drop (ev_call XOk.no ?_))
  | ((with_reducible refine' ev_var ?agh ?_); (case agh => rfl))
  | (with_reducible refine ev_int ?_)
  | (with_reducible refine ev_str ?_)
  | (with_reducible refine ev_bl ?_)
  | (with_reducible refine ev_non ?_)
  | (with_reducible refine ev_ty ?_)
  | ((with_reducible refine' ev_ixOw ?agh ?_); (case agh => rfl))
  | (with_reducible refine ev_op ?_)
  | (with_reducible refine od_add ?_)
  | (with_reducible refine od_sub ?_)
  | (with_reducible refine od_lt ?_)
  | (with_reducible refine od_le ?_)
  | (with_reducible refine od_gt ?_)
  | (with_reducible refine od_ge ?_)
  | ((with_reducible refine' od_eq ?agh ?_); (case agh => rfl))
  | ((with_reducible refine' od_ne ?agh ?_); (case agh => rfl))
  | (with_reducible refine od_isN ?_)
  | (with_reducible refine od_notN ?_)
  | ((with_reducible refine' od_modN ?agh ?_); (case agh => first | decide | omega))
  | ((with_reducible refine' od_fdivN ?agh ?_); (case agh => first | (constructor <;> decide) | (constructor <;> omega)))
  | ((with_reducible refine' od_ix ?agh ?_); (case agh => first | rfl | exact atI_nn rfl rfl))
  | ((with_reducible refine' od_ixt ?agh ?_); (case agh => first | rfl | exact atI_nn rfl rfl))
  | (with_reducible refine ev_chain ?_)
  | (with_reducible refine et_test ?_)
  | (with_reducible refine et_B ?_)
  | (with_reducible refine et_and ?_)
  | (with_reducible refine et_or ?_)
  | (with_reducible refine et_not ?_)
  | (with_reducible refine et_yes ?_)
  | (with_reducible refine ev_notV ?_)
  | (with_reducible refine ev_andV ?_)
  | (with_reducible refine ev_orV ?_)
  | (with_reducible refine ev_if ?_)
  | (with_reducible refine ev_tup ?_)
  | (with_reducible refine ev_lst ?_)
  | (with_reducible refine ea_cons ?_)
  | (with_reducible refine ea_nil ?_)
  | (with_reducible refine eo_none ?_)
  | (with_reducible refine eo_some ?_)
  | (with_reducible refine ev_sl ?_)
  | (with_reducible refine ev_isiT ?_)
  | (with_reducible refine ev_cb ?_)
  | ((with_reducible refine' ca_isi ?aga ?agb ?_); (case aga => rfl); (case agb => rfl))
  | (with_reducible refine ⟨_, _, _, rfl, rfl, rfl, ?_⟩)
  | (with_reducible refine ca_lenL ?_)
  | (with_reducible refine ca_lenT ?_)
  | (with_reducible refine ca_sum ?_)
  | (with_reducible refine ca_max2 ?_)
  | (with_reducible refine ca_min2 ?_)
  | (with_reducible refine ca_list ?_)
  | (with_reducible refine ca_all ?_)
  | (with_reducible refine ws_retN ?_)
  | (with_reducible refine ws_if ?_)
  | (with_reducible refine ws_brk ?_)
  | (with_reducible refine ws_cont ?_)
  | ((with_reducible refine ev_un ?_ ?agh); (case agh => rfl))
  | ((with_reducible refine' ev_fldv ?aga ?agb ?agc ?agd ?_); (case aga => rfl); (case agb => assumption); (case agc => assumption); (case agd => rfl))
  | (with_reducible refine ev_call XOk.no ?_)
  | ((with_reducible refine' ev_methv ?aga ?agb ?_); (case aga => rfl); (case agb => rfl))
  | ((with_reducible refine' EvN.r (en_methv ?aga ?agb ?_)); (case aga => rfl); (case agb => rfl))
  | (with_reducible refine ev_fld ?_)
  | (with_reducible refine ⟨_, rfl, ?_⟩)
  | (with_reducible refine ⟨_, _, rfl, ?_⟩)
  | ((with_reducible refine' both_f ?agh ?_); (case agh => rfl))
  | ((with_reducible refine' both_t ?agh ?_); (case agh => rfl))
  | ((with_reducible refine' both_f2 ?agh ?_); (case agh => rfl))
  | ((with_reducible refine' both_t2 ?agh ?_); (case agh => rfl))
  | (dsimp only))
local macro_rules | `(tactic| walk_at "ag") => `(tactic| repeat walk_at "ag1")

/-! ### rules: the program's own -/
structure Ru where
  stays : List Int
  gap : Int
  opens : Int
  shuts : Int
  least : Int
  most : Int
  names : Int
def starts (ns : List Int) : List Int := (List.range (ns.length + 1)).map fun i => (ns.take i).sum
def Ru.fs (r : Ru) : List (Str × D) := [("gap", .int r.gap), ("opens", .int r.opens), ("shuts", .int r.shuts), ("least", .int r.least), ("most", .int r.most), ("names", .int r.names), ("each", dI r.stays), ("starts", dI (starts r.stays))]
def Ru.d (r : Ru) : D := .ins "Rule" r.fs
theorem starts_len (ns : List Int) : (starts ns).length = ns.length + 1 := by unfold starts; rw [List.length_map, List.length_range]
theorem starts_get {ns : List Int} {i : Nat} (h : i ≤ ns.length) : (starts ns)[i]? = some (ns.take i).sum := by
  unfold starts
  rw [List.getElem?_map, List.getElem?_range (by omega)]
  rfl
theorem starts_snoc {ns : List Int} {i : Nat} {z : Int} (h : ns[i]? = some z) : starts (ns.take (i + 1)) = starts (ns.take i) ++ [(ns.take i).sum + z] := by
  have hl := (List.getElem?_eq_some_iff.mp h).1
  apply List.ext_getElem?
  intro j
  have l1 : (ns.take i).length = i := by rw [List.length_take]; omega
  have l2 : (ns.take (i + 1)).length = i + 1 := by rw [List.length_take]; omega
  by_cases hj : j ≤ i
  · rw [List.getElem?_append_left (by rw [starts_len, l1]; omega), starts_get (by rw [l2]; omega), starts_get (by rw [l1]; omega), List.take_take, List.take_take]
    rw [show min j (i + 1) = j by omega, show min j i = j by omega]
  · by_cases he : j = i + 1
    · subst he
      rw [List.getElem?_append_right (by rw [starts_len, l1]; omega), starts_len, l1, Nat.sub_self, starts_get (by rw [l2]; omega), List.take_take]
      rw [show min (i + 1) (i + 1) = i + 1 by omega, sum_take h]
      rfl
    · rw [List.getElem?_eq_none (by rw [starts_len, l2]; omega), List.getElem?_eq_none (by rw [List.length_append, starts_len, l1]; simp; omega)]
theorem starts_last (ns : List Int) : atI ((starts ns).map D.int) (-1) = some (.int ns.sum) := by
  have e : (starts ns)[ns.length]? = some ns.sum := by rw [starts_get (Nat.le_refl _), List.take_length]
  unfold atI ixN
  rw [if_neg (by omega), List.length_map, starts_len, if_pos (by omega)]
  show ((starts ns).map D.int)[((-1 : Int) + ((ns.length + 1 : Nat) : Int)).toNat]? = _
  rw [show ((-1 : Int) + ((ns.length + 1 : Nat) : Int)).toNat = ns.length by omega, List.getElem?_map, e]
  rfl
def okStays (ns : List Int) : Bool := (decide (1 ≤ (ns.length : Int)) && decide ((ns.length : Int) ≤ 8)) && (ns.map fun n => decide (1 ≤ n) && decide (n ≤ 6)).all id
def Ru.ok (r : Ru) : Bool := okStays r.stays && ((decide (1 ≤ r.gap) && decide (r.gap ≤ 60)) && (decide (1 ≤ r.names) && decide (r.names ≤ 60))) && ((decide (0 ≤ r.opens) && decide (r.opens ≤ r.shuts)) && (decide (0 ≤ r.shuts) && decide (r.shuts ≤ (r.stays.length : Int) - 1))) &&
  ((decide (1 ≤ r.least) && decide (r.least ≤ r.most)) && (decide (1 ≤ r.most) && decide (r.most ≤ 40)))
section
variable {P : Program} {w : World} {K : PySem.W.Frag} {mg : Str → Option Value} {base : Heap}
def pre_within : PreT := fun ds R _ => ∃ a b c, ds = [.int a, .int b, .int c] ∧ R (.bl (decide (b ≤ a) && decide (a ≤ c)))
abbrev N_within : List Str := ["number", "low", "high"]
theorem sc_within : FnScope N_within ["number", "low", "high"] (defScope s_within) := ⟨rfl, rfl, rfl, by decide +kernel, rfl, by decide +kernel, by decide +kernel⟩
theorem d_within (T : Cn K mg) : Df P w K mg base 1 "within" ["number", "low", "high"] (SpP K pre_within) := by
  obtain ⟨fd, F⟩ := fd_within T
  refine ⟨_, fd, ?_, g_within T, F.kp, binds_of F (fun _ _ _ _ _ _ us hl => match us, hl with | [_, _, _], _ => rfl)⟩
  have nd := sc_within.nd
  refine fn_p (k := 0) F sc_within (fun ds R X h => by first | (obtain ⟨_, rfl, _⟩ := h; rfl) | (obtain ⟨_, _, rfl, _⟩ := h; rfl) | (obtain ⟨_, _, _, rfl, _⟩ := h; rfl) | (obtain ⟨_, _, _, _, rfl, _⟩ := h; rfl) | (obtain ⟨_, _, _, _, _, rfl, _⟩ := h; rfl) | (obtain ⟨_, _, _, _, _, _, rfl, _⟩ := h; rfl) | (obtain ⟨_, _, _, _, _, _, _, rfl, _⟩ := h; rfl) | (obtain ⟨_, _, _, _, _, _, _, _, rfl, _⟩ := h; rfl) | (obtain ⟨rfl, _⟩ := h; rfl)) (fun cdv A outer s H S0 E X R ds hr h hE => ?_)
  refine ⟨_, (pss_one (ps_ret (pe_chain op_le op_le (pv 1) (pv 0) (pv 2)))), ?_⟩
  dsimp only [cxOf, N_within, List.map_cons, List.map_nil]
  obtain ⟨a, b, c, rfl, q⟩ := h
  walk_at "ag"
  exact ⟨fun h => by walk_at "ag"; rw [h] at q; exact q, fun h => by rw [h] at q; exact q⟩
def pre_good_stays : PreT := fun ds R _ => ∃ ns : List Int, ds = [dI ns] ∧ ns.length ≤ 100000 ∧ R (.bl (okStays ns))
abbrev N_good_stays : List Str := ["stays", "stay"]
theorem sc_good_stays : FnScope N_good_stays ["stays"] (defScope s_good_stays) := ⟨rfl, rfl, rfl, by decide +kernel, rfl, by decide +kernel, by decide +kernel⟩
theorem d_good_stays (T : Cn K mg) : Df P w K mg base 2 "good_stays" ["stays"] (SpP K pre_good_stays) := by
  obtain ⟨fd, F⟩ := fd_good_stays T
  refine ⟨_, fd, ?_, g_good_stays T, F.kp, binds_of F (fun _ _ _ _ _ _ us hl => match us, hl with | [_], _ => rfl)⟩
  have nd := sc_good_stays.nd
  refine fn_p (k := 1) F sc_good_stays (fun ds R X h => by first | (obtain ⟨_, rfl, _⟩ := h; rfl) | (obtain ⟨_, _, rfl, _⟩ := h; rfl) | (obtain ⟨_, _, _, rfl, _⟩ := h; rfl) | (obtain ⟨_, _, _, _, rfl, _⟩ := h; rfl) | (obtain ⟨_, _, _, _, _, rfl, _⟩ := h; rfl) | (obtain ⟨_, _, _, _, _, _, rfl, _⟩ := h; rfl) | (obtain ⟨_, _, _, _, _, _, _, rfl, _⟩ := h; rfl) | (obtain ⟨_, _, _, _, _, _, _, _, rfl, _⟩ := h; rfl) | (obtain ⟨rfl, _⟩ := h; rfl)) (fun cdv A outer s H S0 E X R ds hr h hE => ?_)
  refine ⟨_, (pss_cons (ps_if (pt_not (pt_val (pe_df (d_within T) hr (by decide) passL (pa_cons (pe_callB acall_len (by rfl) (z_len T) PySem.boot_len (pa_cons (pv 0) pa_nil)) (pa_cons pe_int (pa_cons (pe_glob (v := .int 8) rfl (i_MOST_GRADES T).choose_spec ⟨_, rfl⟩) pa_nil)))))) (pss_one (ps_ret pe_bl)) pss_nil) (pss_one (ps_ret (pe_callB (id := "all") (acr_all rfl) (by rfl) (z_all T) (by decide +kernel) (pa_cons (pe_lc (own := [("stay", 1)]) (g := gName 1) rfl nd (api_list (pv 0)) (blkOk_by (N := N_good_stays) (sc := defScope s_good_stays) (by decide +kernel)) (fun _ _ _ _ _ => (pg_name (i := 1) nd rfl (Or.inl rfl))) (fun _ _ _ _ _ => pts_nil) (fun _ _ _ _ _ => (pe_df (d_within T) hr (by decide) passL (pa_cons (pv 1) (pa_cons pe_int (pa_cons (pe_glob (v := .int 6) rfl (i_MOST_STAY T).choose_spec ⟨_, rfl⟩) pa_nil)))))) pa_nil))))), ?_⟩
  dsimp only [cxOf, N_good_stays, List.map_cons, List.map_nil]
  obtain ⟨ns, rfl, hl, q⟩ := h
  walk_at "ag"
  refine ⟨_, _, _, rfl, ?_⟩
  walk_at "ag"
  unfold okStays at q
  rw [List.length_map]
  refine ⟨fun h => ?_, fun h => ?_⟩
  · walk_at "ag"
    have e : (decide (1 ≤ (ns.length : Int)) && decide ((ns.length : Int) ≤ 8)) = false := by cases z : (decide (1 ≤ (ns.length : Int)) && decide ((ns.length : Int) ≤ 8)) with | false => rfl | true => rw [z] at h; cases h
    rw [e] at q
    exact q
  · walk_at "ag"
    have e : (decide (1 ≤ (ns.length : Int)) && decide ((ns.length : Int) ≤ 8)) = true := by cases z : (decide (1 ≤ (ns.length : Int)) && decide ((ns.length : Int) ≤ 8)) with | true => rfl | false => rw [z] at h; cases h
    rw [e, Bool.true_and] at q
    refine EvN.r (en_mapI ns (fun n => .bl (decide (1 ≤ n) && decide (n ≤ 6))) (ev_var rfl rfl) hl (fun n _ => ?_) ?_)
    · refine ev_call XOk.no ?_
      walk_at "ag"
      exact ⟨_, _, _, rfl, rfl⟩
    · walk_at "ag"
      have e2 : ns.map (fun n => D.bl (decide (1 ≤ n) && decide (n ≤ 6))) = (ns.map fun n => decide (1 ≤ n) && decide (n ≤ 6)).map D.bl := by rw [List.map_map]; rfl
      rw [e2]
      exact ca_all q
def pre_Rule___init__ : PreT := fun ds R X => ∃ r : Ru, ds = [dI r.stays, .int r.gap, .int r.opens, .int r.shuts, .int r.least, .int r.most, .int r.names] ∧ r.stays.length ≤ 100000 ∧ (r.ok = true → R r.d) ∧ (r.ok = false → X "BadRule")
/-- a test by within -/
theorem et_within {S0 H0 : Hp} {δ : List Sl} {ta : TA} {a b c : Int} {R : Bool → Prop} (h : EvA K S0 H0 ta δ fun ds => ds = [.int a, .int b, .int c]) (q : R (decide (b ≤ a) && decide (a ≤ c))) : EvT K S0 H0 (tB (tCall (SpP K pre_within) [] E0 ta)) δ R :=
  et_B (ev_call XOk.no fun S H σ cf Q k => h S H σ cf Q fun ds vs S' H' e => k ds vs S' H' ⟨a, b, c, e, _, rfl, q⟩)
theorem putF_new {f : Str} {v : V} : ∀ {fs : List (Str × V)}, fs.lookup f = none → putF f v fs = fs ++ [(f, v)]
  | [], _ => rfl
  | (g, x) :: r, h => by
    rw [List.lookup_cons] at h
    cases e : f == g with
    | true => rw [e] at h; cases h
    | false =>
      rw [e] at h
      have ne : ¬ g = f := fun z => by rw [z, beq_self_eq_true] at e; cases e
      show (if g = f then (g, v) :: r else (g, x) :: putF f v r) = _
      rw [if_neg ne, putF_new h]
      rfl
theorem ws_guard2 {S0 H0 : Hp} {δ : List Sl} {e : DE} {E : XK} {X : Str → Prop} {cn : Str} {t1 t2 : TT} {b1 b2 : Bool} (hE : XOk K S0 H0 E X) (h1 : EvT K S0 H0 t1 δ fun b => b = b1) (h2 : EvT K S0 H0 t2 δ fun b => b = b2)
    (bad : (b1 && b2) = false → X cn) (ok : (b1 && b2) = true → e.nx δ) : WpS K S0 H0 (tIfS (tOr (tNot t1) (tNot t2)) (tRaiseX K E cn) tNext) δ e := by
  refine ws_if (et_or (et_not (h1.imp fun b eb => ?_)))
  cases b1 with
  | false =>
    rw [eb]
    exact ⟨fun z => absurd z (by decide), fun _ => ⟨fun _ => ws_rx hE (bad rfl), fun z => by cases z⟩⟩
  | true =>
    rw [eb]
    refine ⟨fun _ => et_not (h2.imp fun c ec => ?_), fun z => absurd z (by decide)⟩
    cases b2 with
    | false =>
      rw [ec]
      exact ⟨fun _ => ws_rx hE (bad rfl), fun z => absurd z (by decide)⟩
    | true =>
      rw [ec]
      exact ⟨fun z => absurd z (by decide), fun _ => ws_next (ok rfl)⟩
abbrev N_Rule___init__ : List Str := ["self", "stays", "gap", "opens", "shuts", "least", "most", "names", "stay"]
theorem sc_Rule___init__ : FnScope N_Rule___init__ ["self", "stays", "gap", "opens", "shuts", "least", "most", "names"] (defScope s_Rule___init__) := ⟨rfl, rfl, rfl, by decide +kernel, rfl, by decide +kernel, by decide +kernel⟩
theorem k_Rule (T : Cn K mg) : Dk P w K mg base 3 "Rule" ["self", "stays", "gap", "opens", "shuts", "least", "most", "names"] (SpI K "Rule" pre_Rule___init__) := by
  obtain ⟨fd, F⟩ := fd_Rule___init__ T
  refine ⟨_, fd, ?_, mk_Rule T, g_Rule T, binds_of F (fun _ _ _ _ _ _ us hl => match us, hl with | [_, _, _, _, _, _, _, _], _ => rfl)⟩
  have nd := sc_Rule___init__.nd
  have hcl_Rule := cl_Rule T
  have hna_Rule_gap := na_Rule_gap T
  have hna_Rule_opens := na_Rule_opens T
  have hna_Rule_shuts := na_Rule_shuts T
  have hna_Rule_least := na_Rule_least T
  have hna_Rule_most := na_Rule_most T
  have hna_Rule_names := na_Rule_names T
  have hna_Rule_each := na_Rule_each T
  have hna_Rule_starts := na_Rule_starts T
  refine F.ok (k := 2) sc_Rule___init__ (fun vs H Q E h => by obtain ⟨x, dx, ws, H1, SA, S, ds, R, X, rfl, rfl, _, _, _, _, _, rs, h, _⟩ := h; show ws.length + 1 = _; rw [rs.length]; obtain ⟨_, rfl, _⟩ := h; rfl) (fun cdv A outer s H vs Q E hr h => ?_)
  refine ⟨_, (pss_cons (ps_if (pt_not (pt_val (pe_df (d_good_stays T) hr (by decide) passL (pa_cons (pv 1) pa_nil)))) (pss_one (ps_rx rfl (takes_of rfl rfl rfl rfl) (g_BadRule T) (xc_BadRule T))) pss_nil) (pss_cons (ps_if (PW.pt (pw_or (pt_not (pt_val (pe_df (d_within T) hr (by decide) passL (pa_cons (pv 2) (pa_cons pe_int (pa_cons (pe_glob (v := .int 60) rfl (i_MOST_GAP T).choose_spec ⟨_, rfl⟩) pa_nil)))))) (pw_or1 (pt_not (pt_val (pe_df (d_within T) hr (by decide) passL (pa_cons (pv 7) (pa_cons pe_int (pa_cons (pe_glob (v := .int 60) rfl (i_MOST_NAMES T).choose_spec ⟨_, rfl⟩) pa_nil))))))))) (pss_one (ps_rx rfl (takes_of rfl rfl rfl rfl) (g_BadRule T) (xc_BadRule T))) pss_nil) (pss_cons (ps_if (PW.pt (pw_or (pt_not (pt_val (pe_df (d_within T) hr (by decide) passL (pa_cons (pv 3) (pa_cons pe_int (pa_cons (pv 4) pa_nil)))))) (pw_or1 (pt_not (pt_val (pe_df (d_within T) hr (by decide) passL (pa_cons (pv 4) (pa_cons pe_int (pa_cons (pe_op op_sub (pe_callB acall_len (by rfl) (z_len T) PySem.boot_len (pa_cons (pv 1) pa_nil)) pe_int) pa_nil))))))))) (pss_one (ps_rx rfl (takes_of rfl rfl rfl rfl) (g_BadRule T) (xc_BadRule T))) pss_nil) (pss_cons (ps_if (PW.pt (pw_or (pt_not (pt_val (pe_df (d_within T) hr (by decide) passL (pa_cons (pv 5) (pa_cons pe_int (pa_cons (pv 6) pa_nil)))))) (pw_or1 (pt_not (pt_val (pe_df (d_within T) hr (by decide) passL (pa_cons (pv 6) (pa_cons pe_int (pa_cons (pe_glob (v := .int 40) rfl (i_MOST_YEARS T).choose_spec ⟨_, rfl⟩) pa_nil))))))))) (pss_one (ps_rx rfl (takes_of rfl rfl rfl rfl) (g_BadRule T) (xc_BadRule T))) pss_nil) (pss_cons (ps_fld (pv 0) (pv 2) rfl) (pss_cons (ps_fld (pv 0) (pv 3) rfl) (pss_cons (ps_fld (pv 0) (pv 4) rfl) (pss_cons (ps_fld (pv 0) (pv 5) rfl) (pss_cons (ps_fld (pv 0) (pv 6) rfl) (pss_cons (ps_fld (pv 0) (pv 7) rfl) (pss_cons (ps_fld (pv 0) (pe_callTy acall_list_of (by rfl) (z_list T) (by decide +kernel) (pa_cons (pv 1) pa_nil)) rfl) (pss_cons (ps_fld (pv 0) (pe_lst (pa_cons pe_int pa_nil)) rfl) (pss_one (ps_for (passes_of rfl) rfl (api_list (pv 1)) (pg_name (i := 8) nd rfl (by first | exact Or.inl rfl | exact Or.inr rfl)) (pss_one (ps_expr (pe_bm PySem.F.plainAttrs_list PySem.F.slot_list_append PySem.F.type_list_append mt_append (ape_fld (pv 0) rfl) (pa_cons (pe_op op_add (pe_ix aix_seq (ape_fld (pv 0) rfl) (pe_un un_neg pe_int) (fun _ _ => rfl)) (pv 8)) pa_nil)))))))))))))))))), ?_⟩
  dsimp only [cxOf]
  obtain ⟨x, dx, ws, H1, S, SR, ds, R, X, rfl, rfl, nx, ndx, ne, ex, exR, rs, ⟨r, rfl, hl, ok, bad⟩, q, hE'⟩ := h
  have hE : XOk K S H1 E X := fun c S' H' hx g => hE' c SR H' hx g.h (Gx.grown exR g.h)
  have g1 : Gx S H1 S (upd H1 dx (.own x)) := Gx.mine ex ndx
  have g2 : Gx S (upd H1 dx (.own x)) S (upd (upd H1 dx (.own x)) x (.ins (He.ga K "Rule") dx [])) := Gx.mine g1.sub (by rw [upd_ne ne.symm]; exact nx)
  have gI := g1.trans g2
  have hE2 := hE.grow gI
  cases rs with | cons p1 rs => cases rs with | cons p2 rs => cases rs with | cons p3 rs => cases rs with | cons p4 rs => cases rs with | cons p5 rs => cases rs with | cons p6 rs => cases rs with | cons p7 rs =>
  cases rs; cases p2; cases p3; cases p4; cases p5; cases p6; cases p7
  cases p1 with | @lst a vs0 _ hs rs0 =>
  cases rs0.of_ints
  generalize hδ : ([.sh (.ad x), .sh (dI r.stays), .sh (.int r.gap), .sh (.int r.opens), .sh (.int r.shuts), .sh (.int r.least), .sh (.int r.most), .sh (.int r.names), .un] : List Sl) = δ
  have c0 : Cf K S (upd (upd H1 dx (.own x)) x (.ins (He.ga K "Rule") dx [])) δ S (upd (upd H1 dx (.own x)) x (.ins (He.ga K "Rule") dx [])) (start N_Rule___init__ [.ref x, .ref a, .int r.gap, .int r.opens, .int r.shuts, .int r.least, .int r.most, .int r.names]) := by
    subst hδ
    exact Cf.of (Gx.refl gI.sub) (.sh (.ad x) (.sh (.lst hs rs0) (.sh (.int _) (.sh (.int _) (.sh (.int _) (.sh (.int _) (.sh (.int _) (.sh (.int _) (.un .nil)))))))))
  have hok : r.ok = (okStays r.stays && ((decide (1 ≤ r.gap) && decide (r.gap ≤ 60)) && (decide (1 ≤ r.names) && decide (r.names ≤ 60))) && ((decide (0 ≤ r.opens) && decide (r.opens ≤ r.shuts)) && (decide (0 ≤ r.shuts) && decide (r.shuts ≤ (r.stays.length : Int) - 1))) && ((decide (1 ≤ r.least) && decide (r.least ≤ r.most)) && (decide (1 ≤ r.most) && decide (r.most ≤ 40)))) := rfl
  refine WpS.go (M := fun δ' => δ' = δ ∧ okStays r.stays = true) ?_ c0 ?_
  · subst hδ
    refine ws_if (et_not (et_B (ev_call XOk.no ?_)))
    walk_at "ag"
    refine ⟨_, rfl, hl, _, rfl, fun h => ?_, fun h => ?_⟩
    · refine ws_rx hE2 (bad ?_)
      have e : okStays r.stays = false := by cases z : okStays r.stays with | false => rfl | true => rw [z] at h; cases h
      rw [hok, e]
      rfl
    · refine ws_next ⟨rfl, ?_⟩
      cases z : okStays r.stays with | true => rfl | false => rw [z] at h; cases h
  rintro δ1 S1 H2 σ1 ⟨rfl, b1⟩ ex1 c1
  rw [b1, Bool.true_and] at hok
  refine WpS.go (M := fun δ' => δ' = δ1 ∧ ((decide (1 ≤ r.gap) && decide (r.gap ≤ 60)) && (decide (1 ≤ r.names) && decide (r.names ≤ 60))) = true) ?_ c1 ?_
  · subst hδ
    refine ws_guard2 hE2 (et_within (a := r.gap) (b := 1) (c := 60) (by walk_at "ag") rfl) (et_within (a := r.names) (b := 1) (c := 60) (by walk_at "ag") rfl) (fun z => bad ?_) (fun z => ⟨rfl, z⟩)
    rw [hok, z]
    rfl
  rintro δ2 S2 H3 σ2 ⟨rfl, b2⟩ ex2 c2
  rw [b2, Bool.true_and] at hok
  refine WpS.go (M := fun δ' => δ' = δ2 ∧ ((decide (0 ≤ r.opens) && decide (r.opens ≤ r.shuts)) && (decide (0 ≤ r.shuts) && decide (r.shuts ≤ (r.stays.length : Int) - 1))) = true) ?_ c2 ?_
  · subst hδ
    refine ws_guard2 hE2 (et_within (a := r.opens) (b := 0) (c := r.shuts) (by walk_at "ag") rfl) (et_within (a := r.shuts) (b := 0) (c := (r.stays.length : Int) - 1) (by walk_at "ag"; rw [List.length_map]) rfl) (fun z => bad ?_) (fun z => ⟨rfl, z⟩)
    rw [hok, z]
    rfl
  rintro δ3 S3 H4 σ3 ⟨rfl, b3⟩ ex3 c3
  rw [b3, Bool.true_and] at hok
  refine WpS.go (M := fun δ' => δ' = δ3 ∧ ((decide (1 ≤ r.least) && decide (r.least ≤ r.most)) && (decide (1 ≤ r.most) && decide (r.most ≤ 40))) = true) ?_ c3 ?_
  · subst hδ
    refine ws_guard2 hE2 (et_within (a := r.least) (b := 1) (c := r.most) (by walk_at "ag") rfl) (et_within (a := r.most) (b := 1) (c := 40) (by walk_at "ag") rfl) (fun z => bad ?_) (fun z => ⟨rfl, z⟩)
    rw [hok, z]
  rintro δ4 S4 H5 σ4 ⟨rfl, b4⟩ ex4 c4
  have hR := ok (hok.trans b4)
  subst hδ
  obtain ⟨_, s0, p0⟩ := c4.sh 0 _ rfl
  obtain ⟨_, s1, p1⟩ := c4.sh 1 _ rfl
  obtain ⟨_, s2, p2⟩ := c4.sh 2 _ rfl
  obtain ⟨_, s3, p3⟩ := c4.sh 3 _ rfl
  obtain ⟨_, s4, p4⟩ := c4.sh 4 _ rfl
  obtain ⟨_, s5, p5⟩ := c4.sh 5 _ rfl
  obtain ⟨_, s6, p6⟩ := c4.sh 6 _ rfl
  obtain ⟨_, s7, p7⟩ := c4.sh 7 _ rfl
  cases p0; cases p2; cases p3; cases p4; cases p5; cases p6; cases p7
  cases p1 with | @lst a' vs1 _ hs1 rs1 =>
  cases rs1.of_ints
  have hx : H5 x = some (.ins (He.ga K "Rule") dx []) := c4.g.h x _ upd_same
  have sx : S4 x = none := (c4.g.fr x (by rw [upd_same]; exact fun z => by cases z)).trans (ex.free nx)
  refine ⟨_, s2, _, s0, x, _, dx, [], rfl, hx, cl_Rule T, na_Rule_gap T, by decide, ?_⟩
  refine ⟨_, s3, _, s0, x, _, dx, _, rfl, upd_same, cl_Rule T, na_Rule_opens T, (by show 1 < 1000; decide), ?_⟩
  refine ⟨_, s4, _, s0, x, _, dx, _, rfl, upd_same, cl_Rule T, na_Rule_shuts T, (by show 2 < 1000; decide), ?_⟩
  refine ⟨_, s5, _, s0, x, _, dx, _, rfl, upd_same, cl_Rule T, na_Rule_least T, (by show 3 < 1000; decide), ?_⟩
  refine ⟨_, s6, _, s0, x, _, dx, _, rfl, upd_same, cl_Rule T, na_Rule_most T, (by show 4 < 1000; decide), ?_⟩
  refine ⟨_, s7, _, s0, x, _, dx, _, rfl, upd_same, cl_Rule T, na_Rule_names T, (by show 5 < 1000; decide), ?_⟩
  simp only [upd_upd]
  have e6 : (putF "names" (V.int r.names) (putF "most" (V.int r.most) (putF "least" (V.int r.least) (putF "shuts" (V.int r.shuts) (putF "opens" (V.int r.opens) (putF "gap" (V.int r.gap) [])))))) = ([("gap", V.int r.gap), ("opens", .int r.opens), ("shuts", .int r.shuts), ("least", .int r.least), ("most", .int r.most), ("names", .int r.names)] : List (Str × V)) := rfl
  rw [e6]
  have exS : ∀ o, Ex S4 (upd H5 x o) := fun o => c4.g.sub.mut sx
  have exH : ∀ o, Ex H1 (upd H5 x o) := fun o => (gI.h.trans c4.g.h).mut nx
  refine ⟨_, s1, a', _, rfl, .inl ((exS _).l hs1), fun l hl0 => ?_⟩
  have nlx : l ≠ x := fun z => by rw [z, upd_same] at hl0; cases hl0
  have l1 : H1 l = none := (exH _).free hl0
  have lS : S4 l = none := (exS _).free hl0
  refine ⟨_, s0, x, _, dx, _, rfl, (by rw [upd_ne nlx.symm, upd_same]), cl_Rule T, na_Rule_each T, (by show 6 < 1000; decide), ?_⟩
  refine ⟨by decide, fun m hm => ?_⟩
  have nmx : m ≠ x := fun z => by rw [z, upd_same] at hm; cases hm
  have nml : m ≠ l := fun z => by rw [z, upd_ne nlx, upd_same] at hm; cases hm
  have m5 : H5 m = none := by rw [upd_ne nmx, upd_ne nml, upd_ne nmx] at hm; exact hm
  have m1 : H1 m = none := (gI.h.trans c4.g.h).free m5
  have mS : S4 m = none := c4.g.sub.free m5
  refine ⟨_, s0, x, _, dx, _, rfl, (by rw [upd_ne nmx.symm, upd_same]), cl_Rule T, na_Rule_starts T, (by show 7 < 1000; decide), ?_⟩
  generalize hB : upd (upd (upd (upd (upd H5 x _) l _) x _) m _) x _ = HB
  have bx : HB x = some (.ins (He.ga K "Rule") dx [("gap", V.int r.gap), ("opens", .int r.opens), ("shuts", .int r.shuts), ("least", .int r.least), ("most", .int r.most), ("names", .int r.names), ("each", .ref l), ("starts", .ref m)]) := by
    rw [← hB, upd_same]
    rfl
  have bl : HB l = some (.lst (r.stays.map V.int)) := by rw [← hB, upd_ne nlx, upd_ne nml.symm, upd_ne nlx, upd_same]
  have bm : HB m = some (.lst [.int 0]) := by rw [← hB, upd_ne nmx, upd_same]
  have bS : Ex S4 HB := by rw [← hB]; exact (((((c4.g.sub.mut sx).mut lS).mut sx).mut mS).mut sx)
  have b1' : Ex H1 HB := by rw [← hB]; exact (((((gI.h.trans c4.g.h).mut nx).mut l1).mut nx).mut m1).mut nx
  clear hB hm hl0
  refine ⟨_, s1, a', rfl, ⟨_, bS.l hs1⟩, for_list (K := K) (a := a') (xs := r.stays.map V.int) (fun i σ H' => (σ.length = 9 ∧ ∀ j : Nat, j ≠ 8 → σ[j]? = σ4[j]?) ∧ Ex S4 H' ∧ Ex H1 H' ∧ H' x = some (.ins (He.ga K "Rule") dx [("gap", V.int r.gap), ("opens", .int r.opens), ("shuts", .int r.shuts), ("least", .int r.least), ("most", .int r.most), ("names", .int r.names), ("each", .ref l), ("starts", .ref m)]) ∧ H' l = some (.lst (r.stays.map V.int)) ∧ H' m = some (.lst ((starts (r.stays.take i)).map V.int)))
    ⟨⟨c4.len, fun _ _ => rfl⟩, bS, b1', bx, bl, bm⟩ (fun i σ H' _ h => h.2.1.l hs1) ?_ ?_⟩
  · rintro i v σ H' hv ⟨⟨hlen, hσ⟩, i1, i2, i3, i4, i5⟩
    obtain ⟨z, hz, rfl⟩ : ∃ z, r.stays[i]? = some z ∧ v = V.int z := by
      rw [List.getElem?_map] at hv
      cases e : r.stays[i]? with
      | none => rw [e] at hv; cases hv
      | some z => rw [e] at hv; exact ⟨z, rfl, (Option.some.inj hv).symm⟩
    have hil := (List.getElem?_eq_some_iff.mp hz).1
    have t0 : (σ.set 8 (some (V.int z)))[0]? = some (some (.ref x)) := by rw [List.getElem?_set_ne (by decide), hσ 0 (by decide)]; exact s0
    have t8 : (σ.set 8 (some (V.int z)))[8]? = some (some (.int z)) := List.getElem?_set_self (by omega)
    have hat : atI ((starts (r.stays.take i)).map V.int) (-1) = some (.int (r.stays.take i).sum) := by
      have h1 : (starts (r.stays.take i))[(r.stays.take i).length]? = some (r.stays.take i).sum := by rw [starts_get (Nat.le_refl _), List.take_length]
      unfold atI ixN
      rw [if_neg (by omega), List.length_map, starts_len, if_pos (by omega)]
      show ((starts (r.stays.take i)).map V.int)[((-1 : Int) + (((r.stays.take i).length + 1 : Nat) : Int)).toNat]? = _
      rw [show ((-1 : Int) + (((r.stays.take i).length + 1 : Nat) : Int)).toNat = (r.stays.take i).length by omega, List.getElem?_map, h1]
      rfl
    refine ⟨_, t0, x, _, dx, _, _, rfl, i3, cl_Rule T, na_Rule_starts T, rfl, .inl ⟨rfl, _, SqL.of i5⟩, ?_⟩
    refine ⟨_, t0, x, _, dx, _, _, rfl, i3, cl_Rule T, na_Rule_starts T, rfl, 1, rfl, .inl ⟨m, _, -1, _, rfl, rfl, SqL.of i5, hat, ?_⟩⟩
    refine ⟨_, t8, _, z, rfl, rfl, m, _, _, rfl, rfl, i5, ?_, ?_⟩
    · rw [List.length_map, starts_len, List.length_take]
      exact Nat.lt_of_le_of_lt (show _ ≤ 100001 by omega) (by decide)
    · refine ⟨⟨by rw [List.length_set]; exact hlen, fun j hj => ?_⟩, i1.mut mS, i2.mut m1, ?_, ?_, ?_⟩
      · rw [List.getElem?_set_ne (Ne.symm hj)]
        exact hσ j hj
      · rw [upd_ne nmx.symm]; exact i3
      · rw [upd_ne nml.symm]; exact i4
      · rw [upd_same, starts_snoc hz, List.map_append]
        rfl
  · rintro σ H' ⟨hσ, i1, i2, i3, i4, i5⟩
    rw [List.length_map, List.take_length] at i5
    have sR : SR x = none := exR.free nx
    have lR : SR l = none := exR.free l1
    have mR : SR m = none := exR.free m1
    have x1 : (upd (upd SR l (.lst (r.stays.map V.int))) m (.lst ((starts r.stays).map V.int))) x = none := by rw [upd_ne nmx.symm, upd_ne nlx.symm]; exact sR
    have x2 : (upd SR l (.lst (r.stays.map V.int))) m = none := by rw [upd_ne nml]; exact mR
    refine q r.d (upd (upd (upd SR l (.lst (r.stays.map V.int))) m (.lst ((starts r.stays).map V.int))) x (.ins (He.ga K "Rule") dx [("gap", V.int r.gap), ("opens", .int r.opens), ("shuts", .int r.shuts), ("least", .int r.least), ("most", .int r.most), ("names", .int r.names), ("each", .ref l), ("starts", .ref m)])) H' hR
      ⟨((Ex.new lR).trans (Ex.new x2)).trans (Ex.new x1), ?_, i2, fun b hb => ?_⟩ ?_
    · intro b o hb
      by_cases h1 : b = x
      · subst h1; rw [upd_same] at hb; rw [← hb]; exact i3
      · rw [upd_ne h1] at hb
        by_cases h2 : b = m
        · subst h2; rw [upd_same] at hb; rw [← hb]; exact i5
        · rw [upd_ne h2] at hb
          by_cases h3 : b = l
          · subst h3; rw [upd_same] at hb; rw [← hb]; exact i4
          · rw [upd_ne h3] at hb; exact i2 b o (exR b o hb)
    · have h1 : b ≠ x := fun z => by subst z; exact hb nx
      have h2 : b ≠ m := fun z => by subst z; exact hb m1
      have h3 : b ≠ l := fun z => by subst z; exact hb l1
      rw [upd_ne h1, upd_ne h2, upd_ne h3]
    · refine .ins upd_same (.cons (.int _) (.cons (.int _) (.cons (.int _) (.cons (.int _) (.cons (.int _) (.cons (.int _) (.cons (.lst (SqL.of ?_) (Rps.ints _)) (.cons (.lst (SqL.of ?_) (Rps.ints _)) .nil))))))))
      · rw [upd_ne nlx, upd_ne nml.symm, upd_same]
      · rw [upd_ne nmx, upd_same]

def pre_Rule_stays : PreN := fun ds R _ => ∃ r : Ru, ds = [r.d] ∧ R (r.stays.map D.int)
abbrev N_Rule_stays : List Str := ["self"]
theorem sc_Rule_stays : FnScope N_Rule_stays ["self"] (defScope s_Rule_stays) := ⟨rfl, rfl, rfl, by decide +kernel, rfl, by decide +kernel, by decide +kernel⟩
theorem m_Rule_stays (T : Cn K mg) : Dm P w K mg base 1 "Rule" "stays" ["self"] (SpN K pre_Rule_stays) := by
  obtain ⟨fd, F⟩ := fd_Rule_stays T
  refine ⟨_, fd, ?_, me_Rule_stays T, cl_Rule T, binds_of F (fun _ _ _ _ _ _ us hl => match us, hl with | [_], _ => rfl)⟩
  have nd := sc_Rule_stays.nd
  have hcl_Rule := cl_Rule T
  have hna_Rule_each := na_Rule_each T
  refine fn_pN (k := 0) F sc_Rule_stays (fun ds R X h => by first | (obtain ⟨_, rfl, _⟩ := h; rfl) | (obtain ⟨_, _, rfl, _⟩ := h; rfl) | (obtain ⟨_, _, _, rfl, _⟩ := h; rfl) | (obtain ⟨_, _, _, _, rfl, _⟩ := h; rfl) | (obtain ⟨_, _, _, _, _, rfl, _⟩ := h; rfl) | (obtain ⟨_, _, _, _, _, _, rfl, _⟩ := h; rfl) | (obtain ⟨_, _, _, _, _, _, _, rfl, _⟩ := h; rfl) | (obtain ⟨_, _, _, _, _, _, _, _, rfl, _⟩ := h; rfl) | (obtain ⟨rfl, _⟩ := h; rfl)) (fun cdv A outer s H S0 E X R ds hr h hE => ?_)
  refine ⟨_, (pss_one (ps_ret (pe_callTy acall_list_of (by rfl) (z_list T) (by decide +kernel) (pa_cons (ape_fld (pv 0) rfl) pa_nil)))), ?_⟩
  dsimp only [cxOf, N_Rule_stays, List.map_cons, List.map_nil]
  obtain ⟨r, rfl, q⟩ := h
  refine ws_retNw (en_listL ?_)
  walk_at "ag"
  exact q
def pre_Rule_grades : PreT := fun ds R _ => ∃ r : Ru, ds = [r.d] ∧ R (.int r.stays.length)
abbrev N_Rule_grades : List Str := ["self"]
theorem sc_Rule_grades : FnScope N_Rule_grades ["self"] (defScope s_Rule_grades) := ⟨rfl, rfl, rfl, by decide +kernel, rfl, by decide +kernel, by decide +kernel⟩
theorem m_Rule_grades (T : Cn K mg) : Dm P w K mg base 1 "Rule" "grades" ["self"] (SpP K pre_Rule_grades) := by
  obtain ⟨fd, F⟩ := fd_Rule_grades T
  refine ⟨_, fd, ?_, me_Rule_grades T, cl_Rule T, binds_of F (fun _ _ _ _ _ _ us hl => match us, hl with | [_], _ => rfl)⟩
  have nd := sc_Rule_grades.nd
  have hcl_Rule := cl_Rule T
  have hna_Rule_each := na_Rule_each T
  refine fn_p (k := 0) F sc_Rule_grades (fun ds R X h => by first | (obtain ⟨_, rfl, _⟩ := h; rfl) | (obtain ⟨_, _, rfl, _⟩ := h; rfl) | (obtain ⟨_, _, _, rfl, _⟩ := h; rfl) | (obtain ⟨_, _, _, _, rfl, _⟩ := h; rfl) | (obtain ⟨_, _, _, _, _, rfl, _⟩ := h; rfl) | (obtain ⟨_, _, _, _, _, _, rfl, _⟩ := h; rfl) | (obtain ⟨_, _, _, _, _, _, _, rfl, _⟩ := h; rfl) | (obtain ⟨_, _, _, _, _, _, _, _, rfl, _⟩ := h; rfl) | (obtain ⟨rfl, _⟩ := h; rfl)) (fun cdv A outer s H S0 E X R ds hr h hE => ?_)
  refine ⟨_, (pss_one (ps_ret (pe_callB acall_len (by rfl) (z_len T) PySem.boot_len (pa_cons (ape_fld (pv 0) rfl) pa_nil)))), ?_⟩
  dsimp only [cxOf, N_Rule_grades, List.map_cons, List.map_nil]
  obtain ⟨r, rfl, q⟩ := h
  walk_at "ag"
  rw [List.length_map]
  exact q
def pre_Rule_span : PreT := fun ds R _ => ∃ r : Ru, ds = [r.d] ∧ R (.int r.stays.sum)
def pre_Rule_begin : PreT := fun ds R X => ∃ (r : Ru) (g : Int), ds = [r.d, .int g] ∧ (0 ≤ g ∧ g ≤ (r.stays.length : Int) - 1 → R (.int (r.stays.take g.toNat).sum)) ∧ (¬ (0 ≤ g ∧ g ≤ (r.stays.length : Int) - 1) → X "NoGrade")
def grOk (ns : List Int) (s : Int) (i : Nat) : Bool := decide ((ns.take i).sum ≤ s) && decide (s < (ns.take (i + 1)).sum)
def grAt (ns : List Int) (s : Int) : Option Nat := (List.range ns.length).find? (grOk ns s)
def optN : Option Nat → D
  | none => .non
  | some i => .int (i : Int)
theorem atI_starts {ns : List Int} {i : Nat} (h : i ≤ ns.length) {z : Int} (hz : z = (i : Int)) : atI ((starts ns).map D.int) z = some (.int (ns.take i).sum) := by
  subst hz
  unfold atI
  rw [ixN_nat (by rw [List.length_map, starts_len]; omega)]
  show ((starts ns).map D.int)[i]? = _
  rw [List.getElem?_map, starts_get h]
  rfl
def pre_Rule_grade_at : PreT := fun ds R _ => ∃ (r : Ru) (s : Int), ds = [r.d, .int s] ∧ r.stays.length ≤ 100000 ∧ R (optN (grAt r.stays s))
abbrev N_Rule_grade_at : List Str := ["self", "stood", "grade"]
theorem sc_Rule_grade_at : FnScope N_Rule_grade_at ["self", "stood"] (defScope s_Rule_grade_at) := ⟨rfl, rfl, rfl, by decide +kernel, rfl, by decide +kernel, by decide +kernel⟩
theorem m_Rule_grade_at (T : Cn K mg) : Dm P w K mg base 1 "Rule" "grade_at" ["self", "stood"] (SpP K pre_Rule_grade_at) := by
  obtain ⟨fd, F⟩ := fd_Rule_grade_at T
  refine ⟨_, fd, ?_, me_Rule_grade_at T, cl_Rule T, binds_of F (fun _ _ _ _ _ _ us hl => match us, hl with | [_, _], _ => rfl)⟩
  have nd := sc_Rule_grade_at.nd
  have hcl_Rule := cl_Rule T
  have hna_Rule_each := na_Rule_each T
  have hna_Rule_starts := na_Rule_starts T
  refine fn_p (k := 0) F sc_Rule_grade_at (fun ds R X h => by first | (obtain ⟨_, rfl, _⟩ := h; rfl) | (obtain ⟨_, _, rfl, _⟩ := h; rfl) | (obtain ⟨_, _, _, rfl, _⟩ := h; rfl) | (obtain ⟨_, _, _, _, rfl, _⟩ := h; rfl) | (obtain ⟨_, _, _, _, _, rfl, _⟩ := h; rfl) | (obtain ⟨_, _, _, _, _, _, rfl, _⟩ := h; rfl) | (obtain ⟨_, _, _, _, _, _, _, rfl, _⟩ := h; rfl) | (obtain ⟨_, _, _, _, _, _, _, _, rfl, _⟩ := h; rfl) | (obtain ⟨rfl, _⟩ := h; rfl)) (fun cdv A outer s H S0 E X R ds hr h hE => ?_)
  refine ⟨_, (pss_cons (ps_for (passes_of rfl) rfl (pi_range1 rfl (z_range T) (pa_cons (pe_callB acall_len (by rfl) (z_len T) PySem.boot_len (pa_cons (ape_fld (pv 0) rfl) pa_nil)) pa_nil)) (pg_name (i := 2) nd rfl (by first | exact Or.inl rfl | exact Or.inr rfl)) (pss_one (ps_if (pt_chain op_le op_lt (pe_ix aix_seq (ape_fld (pv 0) rfl) (pv 2) (fun _ _ => rfl)) (pv 1) (pe_ix aix_seq (ape_fld (pv 0) rfl) (pe_op op_add (pv 2) pe_int) (fun _ _ => rfl))) (pss_one (ps_ret (pv 2))) pss_nil))) (pss_one (ps_ret pe_non))), ?_⟩
  dsimp only [cxOf, N_Rule_grade_at, List.map_cons, List.map_nil]
  obtain ⟨r, z, rfl, hl, q⟩ := h
  refine ws_seq (ws_forR1 (n := r.stays.length) tg_name (fun i δ => (δ = [.sh r.d, .sh (.int z), .un] ∨ ∃ x, δ = [.sh r.d, .sh (.int z), .sh x]) ∧ ∀ j, j < i → grOk r.stays z j = false) ?_ ?_ ?_)
  · walk_at "ag"
    rw [List.length_map]
    exact ⟨rfl, by omega, by omega, .inl rfl, fun j hj => absurd hj (by omega)⟩
  · rintro i δ' hi ⟨hδ, hno⟩
    refine ⟨trivial, ?_⟩
    have hd : δ'.set 2 (.sh (.int i)) = [.sh r.d, .sh (.int z), .sh (.int i)] := by
      rcases hδ with rfl | ⟨x, rfl⟩ <;> rfl
    show WpS K S0 H _ (δ'.set 2 (.sh (.int i))) _
    rw [hd]
    walk_at "ag"
    refine od_ix (atI_starts (i := i) (by omega) rfl) ?_
    walk_at "ag"
    refine ⟨fun h => ?_, fun h => ?_⟩
    · walk_at "ag"
      refine od_ix (atI_starts (i := i + 1) (by omega) (by omega)) ?_
      walk_at "ag"
      refine ⟨fun h2 => ?_, fun h2 => ?_⟩
      · walk_at "ag"
        have e : grAt r.stays z = some i := by
          unfold grAt
          rw [List.find?_range_eq_some]
          refine ⟨?_, ?_, fun j hj => ?_⟩
          · unfold grOk; rw [h, h2]; rfl
          · exact List.mem_range.mpr (by omega)
          · rw [hno j hj]; rfl
        rw [e] at q
        exact q
      · walk_at "ag"
        refine ⟨.inr ⟨_, rfl⟩, fun j hj => ?_⟩
        by_cases e : j = i
        · subst e; unfold grOk; rw [h2, Bool.and_false]
        · exact hno j (by omega)
    · refine ⟨_, rfl, fun z => (by cases z), fun _ => ?_⟩
      walk_at "ag"
      refine ⟨.inr ⟨_, rfl⟩, fun j hj => ?_⟩
      by_cases e : j = i
      · subst e; unfold grOk; rw [h, Bool.false_and]
      · exact hno j (by omega)
  · rintro δ' ⟨hδ, hno⟩
    walk_at "ag"
    have e : grAt r.stays z = none := by
      unfold grAt
      rw [List.find?_range_eq_none]
      intro j hj
      rw [hno j (by omega)]
      rfl
    rw [e] at q
    exact q
def isFath (r : Ru) (s : Int) : Bool := match grAt r.stays s with
  | none => false
  | some g => decide (r.opens ≤ (g : Int)) && decide ((g : Int) ≤ r.shuts)
def pre_Rule_fathering : PreT := fun ds R _ => ∃ (r : Ru) (s : Int), ds = [r.d, .int s] ∧ r.stays.length ≤ 100000 ∧ R (.bl (isFath r s))
abbrev N_Rule_fathering : List Str := ["self", "stood", "grade"]
theorem sc_Rule_fathering : FnScope N_Rule_fathering ["self", "stood"] (defScope s_Rule_fathering) := ⟨rfl, rfl, rfl, by decide +kernel, rfl, by decide +kernel, by decide +kernel⟩
theorem m_Rule_fathering (T : Cn K mg) : Dm P w K mg base 2 "Rule" "fathering" ["self", "stood"] (SpP K pre_Rule_fathering) := by
  obtain ⟨fd, F⟩ := fd_Rule_fathering T
  refine ⟨_, fd, ?_, me_Rule_fathering T, cl_Rule T, binds_of F (fun _ _ _ _ _ _ us hl => match us, hl with | [_, _], _ => rfl)⟩
  have nd := sc_Rule_fathering.nd
  have hcl_Rule := cl_Rule T
  have hna_Rule_opens := na_Rule_opens T
  have hna_Rule_shuts := na_Rule_shuts T
  refine fn_p (k := 1) F sc_Rule_fathering (fun ds R X h => by first | (obtain ⟨_, rfl, _⟩ := h; rfl) | (obtain ⟨_, _, rfl, _⟩ := h; rfl) | (obtain ⟨_, _, _, rfl, _⟩ := h; rfl) | (obtain ⟨_, _, _, _, rfl, _⟩ := h; rfl) | (obtain ⟨_, _, _, _, _, rfl, _⟩ := h; rfl) | (obtain ⟨_, _, _, _, _, _, rfl, _⟩ := h; rfl) | (obtain ⟨_, _, _, _, _, _, _, rfl, _⟩ := h; rfl) | (obtain ⟨_, _, _, _, _, _, _, _, rfl, _⟩ := h; rfl) | (obtain ⟨rfl, _⟩ := h; rfl)) (fun cdv A outer s H S0 E X R ds hr h hE => ?_)
  refine ⟨_, (pss_cons (ps_set (i := 2) nd rfl (by first | exact Or.inl rfl | exact Or.inr rfl) (pe_dm (pv 0) (m_Rule_grade_at T) hr (by decide) passL (pa_cons (pv 1) pa_nil))) (pss_one (ps_ret (pe_and (pe_cmpR op_notN (pv 2) pe_non (nomark _)) (pe_one (pe_chain op_le op_le (ape_fld (pv 0) rfl) (pv 2) (ape_fld (pv 0) rfl))))))), ?_⟩
  dsimp only [cxOf, N_Rule_fathering, List.map_cons, List.map_nil]
  obtain ⟨r, z, rfl, hl, q⟩ := h
  walk_at "ag"
  refine ⟨_, _, rfl, hl, ?_⟩
  walk_at "ag"
  unfold isFath at q
  cases e : grAt r.stays z with
  | none =>
    rw [e] at q
    exact ⟨fun h => (by cases h), fun _ => q⟩
  | some g =>
    rw [e] at q
    refine ⟨fun _ => ?_, fun h => (by cases h)⟩
    dsimp only [optN]
    walk_at "ag"
    refine ⟨fun h => ?_, fun h => ?_⟩
    · walk_at "ag"
      have q2 : R (.bl (decide (r.opens ≤ (g : Int)) && decide ((g : Int) ≤ r.shuts))) := q
      rw [h] at q2
      exact q2
    · have q2 : R (.bl (decide (r.opens ≤ (g : Int)) && decide ((g : Int) ≤ r.shuts))) := q
      rw [h] at q2
      exact q2
def Ru.from (r : Ru) : Int := (r.stays.take r.opens.toNat).sum
def Ru.upto (r : Ru) : Int := (r.stays.take (r.shuts.toNat + 1)).sum - 1
def pre_Rule_fathering_from : PreT := fun ds R _ => ∃ r : Ru, ds = [r.d] ∧ 0 ≤ r.opens ∧ r.opens ≤ (r.stays.length : Int) ∧ R (.int r.from)
abbrev N_Rule_fathering_from : List Str := ["self"]
theorem sc_Rule_fathering_from : FnScope N_Rule_fathering_from ["self"] (defScope s_Rule_fathering_from) := ⟨rfl, rfl, rfl, by decide +kernel, rfl, by decide +kernel, by decide +kernel⟩
theorem m_Rule_fathering_from (T : Cn K mg) : Dm P w K mg base 1 "Rule" "fathering_from" ["self"] (SpP K pre_Rule_fathering_from) := by
  obtain ⟨fd, F⟩ := fd_Rule_fathering_from T
  refine ⟨_, fd, ?_, me_Rule_fathering_from T, cl_Rule T, binds_of F (fun _ _ _ _ _ _ us hl => match us, hl with | [_], _ => rfl)⟩
  have nd := sc_Rule_fathering_from.nd
  have hcl_Rule := cl_Rule T
  have hna_Rule_starts := na_Rule_starts T
  have hna_Rule_opens := na_Rule_opens T
  refine fn_p (k := 0) F sc_Rule_fathering_from (fun ds R X h => by first | (obtain ⟨_, rfl, _⟩ := h; rfl) | (obtain ⟨_, _, rfl, _⟩ := h; rfl) | (obtain ⟨_, _, _, rfl, _⟩ := h; rfl) | (obtain ⟨_, _, _, _, rfl, _⟩ := h; rfl) | (obtain ⟨_, _, _, _, _, rfl, _⟩ := h; rfl) | (obtain ⟨_, _, _, _, _, _, rfl, _⟩ := h; rfl) | (obtain ⟨_, _, _, _, _, _, _, rfl, _⟩ := h; rfl) | (obtain ⟨_, _, _, _, _, _, _, _, rfl, _⟩ := h; rfl) | (obtain ⟨rfl, _⟩ := h; rfl)) (fun cdv A outer s H S0 E X R ds hr h hE => ?_)
  refine ⟨_, (pss_one (ps_ret (pe_ix aix_seq (ape_fld (pv 0) rfl) (ape_fld (pv 0) rfl) (fun _ _ => rfl)))), ?_⟩
  dsimp only [cxOf, N_Rule_fathering_from, List.map_cons, List.map_nil]
  obtain ⟨r, rfl, h0, h1, q⟩ := h
  walk_at "ag"
  exact od_ix (atI_starts (i := r.opens.toNat) (by omega) (by omega)) q
def pre_Rule_fathering_to : PreT := fun ds R _ => ∃ r : Ru, ds = [r.d] ∧ 0 ≤ r.shuts ∧ r.shuts < (r.stays.length : Int) ∧ R (.int r.upto)
abbrev N_Rule_fathering_to : List Str := ["self"]
theorem sc_Rule_fathering_to : FnScope N_Rule_fathering_to ["self"] (defScope s_Rule_fathering_to) := ⟨rfl, rfl, rfl, by decide +kernel, rfl, by decide +kernel, by decide +kernel⟩
theorem m_Rule_fathering_to (T : Cn K mg) : Dm P w K mg base 1 "Rule" "fathering_to" ["self"] (SpP K pre_Rule_fathering_to) := by
  obtain ⟨fd, F⟩ := fd_Rule_fathering_to T
  refine ⟨_, fd, ?_, me_Rule_fathering_to T, cl_Rule T, binds_of F (fun _ _ _ _ _ _ us hl => match us, hl with | [_], _ => rfl)⟩
  have nd := sc_Rule_fathering_to.nd
  have hcl_Rule := cl_Rule T
  have hna_Rule_starts := na_Rule_starts T
  have hna_Rule_shuts := na_Rule_shuts T
  refine fn_p (k := 0) F sc_Rule_fathering_to (fun ds R X h => by first | (obtain ⟨_, rfl, _⟩ := h; rfl) | (obtain ⟨_, _, rfl, _⟩ := h; rfl) | (obtain ⟨_, _, _, rfl, _⟩ := h; rfl) | (obtain ⟨_, _, _, _, rfl, _⟩ := h; rfl) | (obtain ⟨_, _, _, _, _, rfl, _⟩ := h; rfl) | (obtain ⟨_, _, _, _, _, _, rfl, _⟩ := h; rfl) | (obtain ⟨_, _, _, _, _, _, _, rfl, _⟩ := h; rfl) | (obtain ⟨_, _, _, _, _, _, _, _, rfl, _⟩ := h; rfl) | (obtain ⟨rfl, _⟩ := h; rfl)) (fun cdv A outer s H S0 E X R ds hr h hE => ?_)
  refine ⟨_, (pss_one (ps_ret (pe_op op_sub (pe_ix aix_seq (ape_fld (pv 0) rfl) (pe_op op_add (ape_fld (pv 0) rfl) pe_int) (fun _ _ => rfl)) pe_int))), ?_⟩
  dsimp only [cxOf, N_Rule_fathering_to, List.map_cons, List.map_nil]
  obtain ⟨r, rfl, h0, h1, q⟩ := h
  walk_at "ag"
  refine od_ix (atI_starts (i := r.shuts.toNat + 1) (by omega) (by omega)) ?_
  walk_at "ag"
  exact q

/-! ### what all laws hold -/
def pre__law_draw : PreT := fun ds R _ => ∃ (z : Int) (ms : List Int), ds = [.int z, dI ms] ∧ ms.length ≤ 1000 ∧ (∀ m ∈ ms, 0 < m ∧ m < 1000000000) ∧ ∀ rs, Drawn ms rs → R (dI rs)
abbrev N__law_draw : List Str := ["_law_cell_here", "_law_limits", "_law_rest", "_law_seed", "_law_row", "_law_many_here"]
theorem sc__law_draw : FnScope N__law_draw ["_law_cell_here", "_law_limits"] (defScope s__law_draw) := ⟨rfl, rfl, rfl, by decide +kernel, rfl, by decide +kernel, by decide +kernel⟩
theorem d__law_draw (T : Cn K mg) : Df P w K mg base 1 "_law_draw" ["_law_cell_here", "_law_limits"] (SpP K pre__law_draw) := by
  obtain ⟨fd, F⟩ := fd__law_draw T
  refine ⟨_, fd, ?_, g__law_draw T, F.kp, binds_of F (fun _ _ _ _ _ _ us hl => match us, hl with | [_, _], _ => rfl)⟩
  have nd := sc__law_draw.nd
  refine fn_p (k := 0) F sc__law_draw (fun ds R X h => by first | (obtain ⟨_, rfl, _⟩ := h; rfl) | (obtain ⟨_, _, rfl, _⟩ := h; rfl) | (obtain ⟨_, _, _, rfl, _⟩ := h; rfl) | (obtain ⟨_, _, _, _, rfl, _⟩ := h; rfl) | (obtain ⟨_, _, _, _, _, rfl, _⟩ := h; rfl) | (obtain ⟨_, _, _, _, _, _, rfl, _⟩ := h; rfl) | (obtain ⟨_, _, _, _, _, _, _, rfl, _⟩ := h; rfl) | (obtain ⟨_, _, _, _, _, _, _, _, rfl, _⟩ := h; rfl) | (obtain ⟨rfl, _⟩ := h; rfl)) (fun cdv A outer s H S0 E X R ds hr h hE => ?_)
  refine ⟨_, (pss_cons (ps_set (i := 2) nd rfl (by first | exact Or.inl rfl | exact Or.inr rfl) (pe_ifExp (pt_cmpR op_ge (pv 0) (pe_op op_pow pe_int pe_int) (nomark _)) (pv 0) pe_int)) (pss_cons (ps_set (i := 3) nd rfl (by first | exact Or.inl rfl | exact Or.inr rfl) (pe_op op_modN (pe_op op_add (pe_op op_mulW (pe_op op_modN (pv 0) pe_int) pe_int) pe_int) pe_int)) (pss_cons (ps_set (i := 4) nd rfl (by first | exact Or.inl rfl | exact Or.inr rfl) (pe_lst pa_nil)) (pss_cons (ps_for (passes_of rfl) rfl (api_list (pv 1)) (pg_name (i := 5) nd rfl (by first | exact Or.inl rfl | exact Or.inr rfl)) (pss_cons (ps_set (i := 3) nd rfl (by first | exact Or.inl rfl | exact Or.inr rfl) (pe_op op_modN (pe_op op_add (pe_op op_mulW (pv 3) pe_int) pe_int) pe_int)) (pss_cons (ps_expr (pe_bm PySem.F.plainAttrs_list PySem.F.slot_list_append PySem.F.type_list_append mt_append (pv 4) (pa_cons (pe_ifExp (pt_cmpR op_gt (pv 2) pe_int (nomark _)) (pe_op op_modN (pv 2) (pv 5)) (pe_op op_modN (pe_op op_add (pe_op op_fdivN (pv 3) pe_int) (pe_op op_mulW (pe_op op_modN (pv 3) pe_int) pe_int)) (pv 5))) pa_nil))) (pss_one (ps_set (i := 2) nd rfl (by first | exact Or.inl rfl | exact Or.inr rfl) (pe_op op_fdivN (pv 2) (pv 5))))))) (pss_one (ps_ret (pv 4))))))), ?_⟩
  dsimp only [cxOf, N__law_draw, List.map_cons, List.map_nil]
  obtain ⟨z, ms, rfl, hl, hm, q⟩ := h
  refine ws_cut (M := fun δ => ∃ rest : Int, δ = [.sh (.int z), .sh (dI ms), .sh (.int rest), .un, .un, .un]) ?_ ?_
  · walk_at "ag"
    refine od_pow (by constructor <;> decide) ?_
    walk_at "ag"
    refine ⟨fun _ => ?_, fun _ => ?_⟩
    · walk_at "ag"
      exact ⟨_, rfl⟩
    · walk_at "ag"
      exact ⟨_, rfl⟩
  rintro _ ⟨rest, rfl⟩
  refine ws_cut (M := fun δ => ∃ seed : Int, 0 ≤ seed ∧ seed < 2147483647 ∧ δ = [.sh (.int z), .sh (dI ms), .sh (.int rest), .sh (.int seed), .un, .un]) ?_ ?_
  · walk_at "ag"
    have b := fmod_in (a := z) (b := 2147483629) (by decide)
    refine od_mulW (mulW (by omega) (by decide)) ?_
    walk_at "ag"
    have b2 := fmod_in (a := z.fmod 2147483629 * 48271 + 7919) (b := 2147483647) (by decide)
    exact ⟨_, b2.1, b2.2, rfl⟩
  rintro _ ⟨seed, s1, s2, rfl⟩
  walk_at "ag"
  refine ws_forL (ds := ms.map D.int) tg_name (fun i δ => ∃ (rs : List Int) (rest seed : Int) (x : Sl), Drawn (ms.take i) rs ∧ 0 ≤ seed ∧ seed < 2147483647 ∧ δ = [.sh (.int z), .sh (dI ms), .sh (.int rest), .sh (.int seed), .ow (rs.map D.int), x]) ?_ ?_ ?_
  · walk_at "ag"
    exact ⟨rfl, [], rest, seed, _, rfl, s1, s2, rfl⟩
  · rintro i d δ' hd ⟨rs, rest, seed, x, hD, s1, s2, rfl⟩
    obtain ⟨m, hmi, rfl⟩ := get_ints hd
    have hmp := hm m (List.mem_of_getElem? hmi)
    have hrl := hD.len
    rw [List.length_take] at hrl
    refine ⟨trivial, ?_⟩
    show WpS K S0 H _ [.sh (.int z), .sh (dI ms), .sh (.int rest), .sh (.int seed), .ow (rs.map D.int), .sh (.int m)] _
    refine ws_cut (M := fun δ => ∃ seed : Int, 0 ≤ seed ∧ seed < 2147483647 ∧ δ = [.sh (.int z), .sh (dI ms), .sh (.int rest), .sh (.int seed), .ow (rs.map D.int), .sh (.int m)]) ?_ ?_
    · walk_at "ag"
      refine od_mulW (mulW (by omega) (by decide)) ?_
      walk_at "ag"
      have b2 := fmod_in (a := seed * 69621 + 12553) (b := 2147483647) (by decide)
      exact ⟨_, b2.1, b2.2, rfl⟩
    rintro _ ⟨seed, s1, s2, rfl⟩
    refine ws_cut (M := fun δ => ∃ r : Int, 0 ≤ r ∧ r < m ∧ δ = [.sh (.int z), .sh (dI ms), .sh (.int rest), .sh (.int seed), .ow ((rs ++ [r]).map D.int), .sh (.int m)]) ?_ ?_
    · refine ws_app rfl (by rw [List.length_map]; omega) ?_
      refine EvR.imp (R := fun d => ∃ r : Int, d = .int r ∧ 0 ≤ r ∧ r < m) ?_ ?_
      · walk_at "ag"
        refine ⟨fun _ => ?_, fun _ => ?_⟩
        · walk_at "ag"
          have b2 := fmod_in (a := rest) hmp.1
          exact b2
        · walk_at "ag"
          have b2 := fmod_in (a := seed) (b := 8191) (by decide)
          refine od_mulW (mulW (by omega) (by decide)) ?_
          walk_at "ag"
          have b2 := fmod_in (a := seed.fdiv 59 + seed.fmod 8191 * 31) hmp.1
          exact b2
      · rintro d ⟨r, rfl, r1, r2⟩
        refine ⟨r, r1, r2, ?_⟩
        rw [List.map_append]
        rfl
    rintro _ ⟨r, r1, r2, rfl⟩
    walk_at "ag"
    refine ⟨rs ++ [r], _, seed, _, ?_, s1, s2, rfl⟩
    rw [take_snoc hmi]
    exact hD.snoc r1 r2
  · rintro δ' ⟨rs, rest, seed, x, hD, s1, s2, rfl⟩
    rw [List.length_map, List.take_length] at hD
    walk_at "ag"
    exact q rs hD
def pre__law_cell : PreT := fun ds R _ => ∃ (ns : List Int) (k : Int), ds = [dI ns, .int k] ∧ ns.length ≤ 100000 ∧ 0 ≤ k ∧ k < 1000000000000 ∧ ∀ z, R (.int z)
abbrev N__law_cell : List Str := ["_law_script", "_law_k"]
theorem sc__law_cell : FnScope N__law_cell ["_law_script", "_law_k"] (defScope s__law_cell) := ⟨rfl, rfl, rfl, by decide +kernel, rfl, by decide +kernel, by decide +kernel⟩
theorem d__law_cell (T : Cn K mg) : Df P w K mg base 1 "_law_cell" ["_law_script", "_law_k"] (SpP K pre__law_cell) := by
  obtain ⟨fd, F⟩ := fd__law_cell T
  refine ⟨_, fd, ?_, g__law_cell T, F.kp, binds_of F (fun _ _ _ _ _ _ us hl => match us, hl with | [_, _], _ => rfl)⟩
  have nd := sc__law_cell.nd
  refine fn_p (k := 0) F sc__law_cell (fun ds R X h => by first | (obtain ⟨_, rfl, _⟩ := h; rfl) | (obtain ⟨_, _, rfl, _⟩ := h; rfl) | (obtain ⟨_, _, _, rfl, _⟩ := h; rfl) | (obtain ⟨_, _, _, _, rfl, _⟩ := h; rfl) | (obtain ⟨_, _, _, _, _, rfl, _⟩ := h; rfl) | (obtain ⟨_, _, _, _, _, _, rfl, _⟩ := h; rfl) | (obtain ⟨_, _, _, _, _, _, _, rfl, _⟩ := h; rfl) | (obtain ⟨_, _, _, _, _, _, _, _, rfl, _⟩ := h; rfl) | (obtain ⟨rfl, _⟩ := h; rfl)) (fun cdv A outer s H S0 E X R ds hr h hE => ?_)
  refine ⟨_, (pss_cons (ps_if (pt_cmpR op_lt (pv 1) (pe_callB acall_len (by rfl) (z_len T) PySem.boot_len (pa_cons (pv 0) pa_nil)) (nomark _)) (pss_one (ps_ret (pe_ix aix_seq (pv 0) (pv 1) (fun _ _ => rfl)))) pss_nil) (pss_one (ps_ret (pe_op op_add (pe_op op_add (pe_op op_mulW (pe_op op_modN (pe_callB (id := "sum") (acr_sum rfl) (by rfl) (z_sum T) (by decide +kernel) (pa_cons (pv 0) pa_nil)) pe_int) pe_int) (pe_op op_mulW (pe_callB acall_len (by rfl) (z_len T) PySem.boot_len (pa_cons (pv 0) pa_nil)) pe_int)) (pe_op op_mulW (pv 1) pe_int))))), ?_⟩
  dsimp only [cxOf, N__law_cell, List.map_cons, List.map_nil]
  obtain ⟨ns, k, rfl, hl, k0, k1, q⟩ := h
  walk_at "ag"
  rw [List.length_map]
  refine ⟨fun h => ?_, fun h => ?_⟩
  · have h := of_decide_eq_true h
    walk_at "ag"
    have hk : k.toNat < ns.length := by omega
    exact od_ix (atI_ints (by omega) (List.getElem?_eq_getElem hk)) (q _)
  · walk_at "ag"
    have b := fmod_in (a := ns.sum) (b := 1000003) (by decide)
    refine od_mulW (mulW (by omega) (by decide)) ?_
    walk_at "ag"
    rw [List.length_map]
    refine od_mulW (mulW (by omega) (by decide)) ?_
    walk_at "ag"
    refine od_mulW (mulW (by omega) (by decide)) ?_
    walk_at "ag"
    exact q _
def pre__law_same (n : Nat) : PreT := fun ds R _ => ∃ d, ds = [d, d] ∧ dep n d ∧ R (.bl true)
theorem h0__law_same {ds : List D} {R : D → Prop} {X : Str → Prop} (h : pre__law_same 0 ds R X) : False := by
  obtain ⟨d, _, h, _⟩ := h
  exact h
abbrev N__law_same : List Str := ["_law_found", "_law_due", "_law_k"]
theorem sc__law_same : FnScope N__law_same ["_law_found", "_law_due"] (defScope s__law_same) := ⟨rfl, rfl, rfl, by decide +kernel, rfl, by decide +kernel, by decide +kernel⟩
theorem dn__law_same (T : Cn K mg) : ∀ n : Nat, Df P w K mg base (n + 1) "_law_same" ["_law_found", "_law_due"] (SpP K (pre__law_same n)) := by
  intro n
  obtain ⟨fd, F⟩ := fd__law_same T
  induction n with
  | zero =>
    refine ⟨_, fd, ?_, g__law_same T, F.kp, binds_of F (fun _ _ _ _ _ _ us hl => match us, hl with | [_, _], _ => rfl)⟩
    exact fn_p (k := 0) F sc__law_same (fun ds R X h => (h0__law_same h).elim) (fun cdv A outer s H S0 E X R ds hr h hE => (h0__law_same h).elim)
  | succ n ih =>
  refine ⟨_, fd, ?_, g__law_same T, F.kp, binds_of F (fun _ _ _ _ _ _ us hl => match us, hl with | [_, _], _ => rfl)⟩
  have nd := sc__law_same.nd
  refine fn_p (k := n + 1) F sc__law_same (fun ds R X h => by first | (obtain ⟨_, rfl, _⟩ := h; rfl) | (obtain ⟨_, _, rfl, _⟩ := h; rfl) | (obtain ⟨_, _, _, rfl, _⟩ := h; rfl) | (obtain ⟨_, _, _, _, rfl, _⟩ := h; rfl) | (obtain ⟨_, _, _, _, _, rfl, _⟩ := h; rfl) | (obtain ⟨_, _, _, _, _, _, rfl, _⟩ := h; rfl) | (obtain ⟨_, _, _, _, _, _, _, rfl, _⟩ := h; rfl) | (obtain ⟨_, _, _, _, _, _, _, _, rfl, _⟩ := h; rfl) | (obtain ⟨rfl, _⟩ := h; rfl)) (fun cdv A outer s H S0 E X R ds hr h hE => ?_)
  refine ⟨_, (pss_cons (ps_if (pt_cmpR op_isN (pv 1) pe_non (nomark _)) (pss_one (ps_ret (pe_cmpR op_isN (pv 0) pe_non (nomark _)))) pss_nil) (pss_cons (ps_if (pt_cmpR op_ne (pe_callB (id := "isinstance") acall_isi (by rfl) (z_isinstance T) (by decide +kernel) (pa_cons (pv 1) (pa_cons (pe_bltn (v := .ty "bool") (by rfl) (z_bool T) (by decide +kernel) rfl) pa_nil))) (pe_callB (id := "isinstance") acall_isi (by rfl) (z_isinstance T) (by decide +kernel) (pa_cons (pv 0) (pa_cons (pe_bltn (v := .ty "bool") (by rfl) (z_bool T) (by decide +kernel) rfl) pa_nil))) (nomark _)) (pss_one (ps_ret pe_bl)) pss_nil) (pss_cons (ps_if (pt_val (pe_callB (id := "isinstance") acall_isiT (by rfl) (z_isinstance T) (by decide +kernel) (pa_cons (pv 1) (pa_cons (pe_tup (pa_cons (pe_bltn (v := .ty "int") (by rfl) (z_int T) (by decide +kernel) rfl) (pa_cons (pe_bltn (v := .ty "str") (by rfl) (z_str T) (by decide +kernel) rfl) pa_nil))) pa_nil)))) (pss_one (ps_ret (pe_and (pe_cmpR op_eq (pe_callB (id := "isinstance") acall_isi (by rfl) (z_isinstance T) (by decide +kernel) (pa_cons (pv 0) (pa_cons (pe_bltn (v := .ty "int") (by rfl) (z_int T) (by decide +kernel) rfl) pa_nil))) (pe_callB (id := "isinstance") acall_isi (by rfl) (z_isinstance T) (by decide +kernel) (pa_cons (pv 1) (pa_cons (pe_bltn (v := .ty "int") (by rfl) (z_int T) (by decide +kernel) rfl) pa_nil))) (nomark _)) (pe_one (pe_cmpR op_eq (pv 0) (pv 1) (nomark _)))))) pss_nil) (pss_cons (ps_if (PW.pt (pw_and (pt_val (pe_callB (id := "isinstance") acall_isi (by rfl) (z_isinstance T) (by decide +kernel) (pa_cons (pv 1) (pa_cons (pe_bltn (v := .ty "tuple") (by rfl) (z_tuple T) (by decide +kernel) rfl) pa_nil)))) (pw_and1 (pt_not (pt_val (pe_callB (id := "isinstance") acall_isi (by rfl) (z_isinstance T) (by decide +kernel) (pa_cons (pv 0) (pa_cons (pe_bltn (v := .ty "tuple") (by rfl) (z_tuple T) (by decide +kernel) rfl) pa_nil)))))))) (pss_one (ps_ret pe_bl)) pss_nil) (pss_cons (ps_if (PW.pt (pw_and (pt_val (pe_callB (id := "isinstance") acall_isi (by rfl) (z_isinstance T) (by decide +kernel) (pa_cons (pv 1) (pa_cons (pe_bltn (v := .ty "list") (by rfl) (z_list T) (by decide +kernel) rfl) pa_nil)))) (pw_and1 (pt_not (pt_val (pe_callB (id := "isinstance") acall_isi (by rfl) (z_isinstance T) (by decide +kernel) (pa_cons (pv 0) (pa_cons (pe_bltn (v := .ty "list") (by rfl) (z_list T) (by decide +kernel) rfl) pa_nil)))))))) (pss_one (ps_ret pe_bl)) pss_nil) (pss_cons (ps_if (pt_cmpR op_ne (pe_callB acall_len (by rfl) (z_len T) PySem.boot_len (pa_cons (pv 0) pa_nil)) (pe_callB acall_len (by rfl) (z_len T) PySem.boot_len (pa_cons (pv 1) pa_nil)) (nomark _)) (pss_one (ps_ret pe_bl)) pss_nil) (pss_cons (ps_for (passes_of rfl) rfl (pi_range1 rfl (z_range T) (pa_cons (pe_callB acall_len (by rfl) (z_len T) PySem.boot_len (pa_cons (pv 1) pa_nil)) pa_nil)) (pg_name (i := 2) nd rfl (by first | exact Or.inl rfl | exact Or.inr rfl)) (pss_one (ps_if (pt_not (pt_val (pe_df ih hr (Nat.le_refl _) passL (pa_cons (pe_ix aix_seq (pv 0) (pv 2) (fun _ _ => rfl)) (pa_cons (pe_ix aix_seq (pv 1) (pv 2) (fun _ _ => rfl)) pa_nil))))) (pss_one (ps_ret pe_bl)) pss_nil))) (pss_one (ps_ret pe_bl))))))))), ?_⟩
  dsimp only [cxOf, N__law_same, List.map_cons, List.map_nil]
  obtain ⟨d, rfl, hd, q⟩ := h
  cases d with
  | non =>
    walk_at "ag"
    exact q
  | bl b =>
    walk_at "ag"
    rw [eqD_self rfl]
    exact q
  | int b =>
    walk_at "ag"
    rw [eqD_self rfl]
    exact q
  | str b =>
    walk_at "ag"
    rw [eqD_self rfl]
    exact q
  | lst l =>
    walk_at "ag"
    rw [eqD_self rfl]
    walk_at "ag"
    refine ws_forR1 (n := l.length) tg_name (fun i δ => ∃ x, δ = [.sh (.lst l), .sh (.lst l), x]) ?_ ?_ ?_
    · walk_at "ag"
      exact ⟨rfl, by omega, by have := hd.1; omega, _, rfl⟩
    · rintro i _ hi ⟨x, rfl⟩
      refine ⟨trivial, ?_⟩
      show WpS K S0 H _ [.sh (.lst l), .sh (.lst l), .sh (.int i)] _
      have hg : l[i]? = some (l[i]'(by omega)) := List.getElem?_eq_getElem (by omega)
      refine ws_if (et_not (et_B (ev_call XOk.no ?_)))
      walk_at "ag"
      refine od_ix (atI_of rfl hg) ?_
      walk_at "ag"
      refine od_ix (atI_of rfl hg) ?_
      walk_at "ag"
      refine ⟨_, rfl, hd.2 _ (List.getElem_mem _), ?_⟩
      walk_at "ag"
      exact ⟨_, rfl⟩
    · rintro _ ⟨x, rfl⟩
      walk_at "ag"
      exact q
  | tup l =>
    walk_at "ag"
    rw [eqD_self rfl]
    walk_at "ag"
    refine ws_forR1 (n := l.length) tg_name (fun i δ => ∃ x, δ = [.sh (.tup l), .sh (.tup l), x]) ?_ ?_ ?_
    · walk_at "ag"
      exact ⟨rfl, by omega, by have := hd.1; omega, _, rfl⟩
    · rintro i _ hi ⟨x, rfl⟩
      refine ⟨trivial, ?_⟩
      show WpS K S0 H _ [.sh (.tup l), .sh (.tup l), .sh (.int i)] _
      have hg : l[i]? = some (l[i]'(by omega)) := List.getElem?_eq_getElem (by omega)
      refine ws_if (et_not (et_B (ev_call XOk.no ?_)))
      walk_at "ag"
      refine od_ixt (atI_of rfl hg) ?_
      walk_at "ag"
      refine od_ixt (atI_of rfl hg) ?_
      walk_at "ag"
      refine ⟨_, rfl, hd.2 _ (List.getElem_mem _), ?_⟩
      walk_at "ag"
      exact ⟨_, rfl⟩
    · rintro _ ⟨x, rfl⟩
      walk_at "ag"
      exact q
  | ty n => exact hd.elim
  | ad n => exact hd.elim
  | ins C fs => exact hd.elim
theorem d__law_same (T : Cn K mg) : Df P w K mg base 7 "_law_same" ["_law_found", "_law_due"] (SpP K (pre__law_same 6)) := dn__law_same T 6
def Ru.l (r : Ru) : D := .lst [dI r.stays, .int r.gap, .int r.opens, .int r.shuts, .int r.least, .int r.most, .int r.names]
def pre__law_rule : PreT := fun ds R _ => ∃ z : Int, ds = [.int z] ∧ ∀ r : Ru, r.ok = true → R r.l
theorem all_in {lo hi : Int} {ns : List Int} (h : ∀ n ∈ ns, lo ≤ n ∧ n ≤ hi) : (ns.map fun n => decide (lo ≤ n) && decide (n ≤ hi)).all id = true := by
  rw [List.all_eq_true]
  intro b hb
  obtain ⟨n, hn, rfl⟩ := List.mem_map.mp hb
  have := h n hn
  simp [this.1, this.2]
abbrev N__law_rule : List Str := ["_law_cell_here", "_law_row", "_law_stays", "_law_grades", "_law_least", "_law_shuts", "_law_most", "_law_k", "_law_one"]
theorem sc__law_rule : FnScope N__law_rule ["_law_cell_here"] (defScope s__law_rule) := ⟨rfl, rfl, rfl, by decide +kernel, rfl, by decide +kernel, by decide +kernel⟩
theorem d__law_rule (T : Cn K mg) : Df P w K mg base 2 "_law_rule" ["_law_cell_here"] (SpP K pre__law_rule) := by
  obtain ⟨fd, F⟩ := fd__law_rule T
  refine ⟨_, fd, ?_, g__law_rule T, F.kp, binds_of F (fun _ _ _ _ _ _ us hl => match us, hl with | [_], _ => rfl)⟩
  have nd := sc__law_rule.nd
  refine fn_p (k := 1) F sc__law_rule (fun ds R X h => by first | (obtain ⟨_, rfl, _⟩ := h; rfl) | (obtain ⟨_, _, rfl, _⟩ := h; rfl) | (obtain ⟨_, _, _, rfl, _⟩ := h; rfl) | (obtain ⟨_, _, _, _, rfl, _⟩ := h; rfl) | (obtain ⟨_, _, _, _, _, rfl, _⟩ := h; rfl) | (obtain ⟨_, _, _, _, _, _, rfl, _⟩ := h; rfl) | (obtain ⟨_, _, _, _, _, _, _, rfl, _⟩ := h; rfl) | (obtain ⟨_, _, _, _, _, _, _, _, rfl, _⟩ := h; rfl) | (obtain ⟨rfl, _⟩ := h; rfl)) (fun cdv A outer s H S0 E X R ds hr h hE => ?_)
  refine ⟨_, (pss_cons (ps_set (i := 1) nd rfl (by first | exact Or.inl rfl | exact Or.inr rfl) (pe_df (d__law_draw T) hr (by decide) passL (pa_cons (pv 0) (pa_cons (pe_op op_cat (pe_lst (pa_cons pe_int (pa_cons pe_int (pa_cons pe_int (pa_cons pe_int (pa_cons pe_int (pa_cons pe_int (pa_cons pe_int (pa_cons pe_int pa_nil))))))))) (pe_lc (own := [("_law_k", 7)]) (g := gName 7) rfl nd (pi_range1 rfl (z_range T) (pa_cons pe_int pa_nil)) (blkOk_by (N := N__law_rule) (sc := defScope s__law_rule) (by decide +kernel)) (fun _ _ _ _ _ => (pg_name (i := 7) nd rfl (Or.inl rfl))) (fun _ _ _ _ _ => pts_nil) (fun _ _ _ _ _ => pe_int))) pa_nil)))) (pss_cons (ps_setLc (i := 2) (own := [("_law_one", 8)]) (g := gName 8) rfl nd rfl rfl (sw_true rfl rfl rfl (by decide +kernel)) (api_list (pe_slice asl_list (pv 1) (po_some pe_int) po_none)) (blkOk_by (N := N__law_rule) (sc := defScope s__law_rule) (by decide +kernel)) (fun _ _ _ _ _ => (pg_name (i := 8) nd rfl (Or.inl rfl))) (fun _ _ _ _ _ => pts_nil) (fun _ _ _ _ _ => (pe_op op_add pe_int (pv 8)))) (pss_cons (ps_if (pt_cmpR op_gt (pe_ix aix_seq (pv 1) pe_int (fun _ _ => rfl)) pe_int (nomark _)) (pss_cons (ps_set (i := 1) nd rfl (by first | exact Or.inl rfl | exact Or.inr rfl) (pe_lst (pa_cons pe_int (pa_cons (pe_op op_modN (pe_ix aix_seq (pv 1) pe_int (fun _ _ => rfl)) pe_int) (pa_cons (pe_op op_modN (pe_ix aix_seq (pv 1) pe_int (fun _ _ => rfl)) pe_int) (pa_cons (pe_op op_modN (pe_ix aix_seq (pv 1) pe_int (fun _ _ => rfl)) pe_int) (pa_cons (pe_op op_modN (pe_ix aix_seq (pv 1) pe_int (fun _ _ => rfl)) pe_int) (pa_cons (pe_op op_modN (pe_ix aix_seq (pv 1) pe_int (fun _ _ => rfl)) pe_int) (pa_cons (pe_ix aix_seq (pv 1) pe_int (fun _ _ => rfl)) (pa_cons (pe_ix aix_seq (pv 1) pe_int (fun _ _ => rfl)) pa_nil)))))))))) (pss_one (ps_setLc (i := 2) (own := [("_law_one", 8)]) (g := gName 8) rfl nd rfl rfl (sw_true rfl rfl rfl (by decide +kernel)) (api_list (pv 2)) (blkOk_by (N := N__law_rule) (sc := defScope s__law_rule) (by decide +kernel)) (fun _ _ _ _ _ => (pg_name (i := 8) nd rfl (Or.inl rfl))) (fun _ _ _ _ _ => pts_nil) (fun _ _ _ _ _ => (pe_op op_fdivN (pe_op op_add (pv 8) pe_int) pe_int))))) pss_nil) (pss_cons (ps_set (i := 3) nd rfl (by first | exact Or.inl rfl | exact Or.inr rfl) (pe_op op_add (pe_ix aix_seq (pv 1) pe_int (fun _ _ => rfl)) pe_int)) (pss_cons (ps_set (i := 4) nd rfl (by first | exact Or.inl rfl | exact Or.inr rfl) (pe_op op_add (pe_ix aix_seq (pv 1) pe_int (fun _ _ => rfl)) pe_int)) (pss_cons (ps_set (i := 5) nd rfl (by first | exact Or.inl rfl | exact Or.inr rfl) (pe_op op_modN (pe_ix aix_seq (pv 1) pe_int (fun _ _ => rfl)) (pv 3))) (pss_cons (ps_set (i := 6) nd rfl (by first | exact Or.inl rfl | exact Or.inr rfl) (pe_op op_add (pv 4) (pe_op op_modN (pe_ix aix_seq (pv 1) pe_int (fun _ _ => rfl)) (pe_op op_sub pe_int (pv 4))))) (pss_one (ps_ret (pe_lst (pa_cons (pe_slice asl_list (pv 2) po_none (po_some (pv 3))) (pa_cons (pe_op op_add (pe_ix aix_seq (pv 1) pe_int (fun _ _ => rfl)) pe_int) (pa_cons (pe_op op_modN (pe_ix aix_seq (pv 1) pe_int (fun _ _ => rfl)) (pe_op op_add (pv 5) pe_int)) (pa_cons (pv 5) (pa_cons (pv 4) (pa_cons (pv 6) (pa_cons (pe_op op_add (pe_ix aix_seq (pv 1) pe_int (fun _ _ => rfl)) pe_int) pa_nil))))))))))))))))), ?_⟩
  dsimp only [cxOf, N__law_rule, List.map_cons, List.map_nil]
  obtain ⟨z, rfl, q⟩ := h
  refine ws_cut (M := fun δ => ∃ (a0 a1 a2 a3 a4 a5 a6 a7 : Int) (st : List Int), (0 ≤ a1 ∧ a1 < 8) ∧ (0 ≤ a2 ∧ a2 < 60) ∧ (0 ≤ a3 ∧ a3 < 40) ∧ (0 ≤ a4 ∧ a4 < 40) ∧ (0 ≤ a5 ∧ a5 < 60) ∧ (0 ≤ a6 ∧ a6 < 8) ∧ (0 ≤ a7 ∧ a7 < 8) ∧ st.length = 8 ∧ (∀ n ∈ st, 0 ≤ n ∧ n < 6) ∧
      δ = [.sh (.int z), .sh (dI (a0 :: a1 :: a2 :: a3 :: a4 :: a5 :: a6 :: a7 :: st)), .un, .un, .un, .un, .un, .un, .un]) ?_ ?_
  · refine ws_asg (ev_call XOk.no (ea_cons (ev_var rfl (ea_cons (EvN.r (en_cat (en_lst ?_)))))))
    walk_at "ag"
    refine ⟨by decide, by decide, en_mapR 8 (fun _ => .int 6) (by walk_at "ag") (by decide) (by decide) (fun i _ => by walk_at "ag") ⟨by decide, ?_⟩⟩
    walk_at "ag"
    refine ⟨z, [5, 8, 60, 40, 40, 60, 8, 8, 6, 6, 6, 6, 6, 6, 6, 6], rfl, by decide, by decide, fun rs hD => ?_⟩
    obtain ⟨a0, _, rfl, l0, u0, a1, _, rfl, l1, u1, a2, _, rfl, l2, u2, a3, _, rfl, l3, u3, a4, _, rfl, l4, u4, a5, _, rfl, l5, u5, a6, _, rfl, l6, u6, a7, _, rfl, l7, u7, a8, _, rfl, l8, u8, a9, _, rfl, l9, u9, a10, _, rfl, l10, u10, a11, _, rfl, l11, u11, a12, _, rfl, l12, u12, a13, _, rfl, l13, u13, a14, _, rfl, l14, u14, a15, _, rfl, l15, u15, hn⟩ := hD
    cases hn
    exact ⟨a0, a1, a2, a3, a4, a5, a6, a7, [a8, a9, a10, a11, a12, a13, a14, a15], ⟨l1, u1⟩, ⟨l2, u2⟩, ⟨l3, u3⟩, ⟨l4, u4⟩, ⟨l5, u5⟩, ⟨l6, u6⟩, ⟨l7, u7⟩, rfl, by simp; omega, rfl⟩
  rintro _ ⟨a0, a1, a2, a3, a4, a5, a6, a7, st, h1, h2, h3, h4, h5, h6, h7, hl, hs, rfl⟩
  refine ws_cut (M := fun δ => ∃ st2 : List Int, st2.length = 8 ∧ (∀ n ∈ st2, 1 ≤ n ∧ n ≤ 6) ∧
      δ = [.sh (.int z), .sh (dI (a0 :: a1 :: a2 :: a3 :: a4 :: a5 :: a6 :: a7 :: st)), .sh (dI st2), .un, .un, .un, .un, .un, .un]) ?_ ?_
  · refine ws_asg (EvN.r (en_mapI st (fun n => .int (1 + n)) ?_ (by omega) (fun n hn => ?_) ?_))
    · walk_at "ag"
      rw [cutD_from (z := 8) (k := 8) rfl]
      rfl
    · walk_at "ag"
    · refine ⟨st.map fun n => 1 + n, by rw [List.length_map]; exact hl, fun n hn => ?_, by rw [show st.map (fun n => D.int (1 + n)) = (st.map fun n => 1 + n).map D.int by rw [List.map_map]; rfl]; rfl⟩
      obtain ⟨m, hm, rfl⟩ := List.mem_map.mp hn
      have := hs m hm
      omega
  rintro _ ⟨st2, hl2, hs2, rfl⟩
  refine ws_cut (M := fun δ => ∃ (a0 a1 a2 a3 a4 a5 a6 a7 : Int) (tl st : List Int), (0 ≤ a1 ∧ a1 < 8) ∧ (0 ≤ a2 ∧ a2 < 60) ∧ (0 ≤ a3 ∧ a3 < 40) ∧ (0 ≤ a4 ∧ a4 < 40) ∧ (0 ≤ a5 ∧ a5 < 60) ∧ (0 ≤ a6 ∧ a6 < 8) ∧ (0 ≤ a7 ∧ a7 < 8) ∧ st.length = 8 ∧ (∀ n ∈ st, 1 ≤ n ∧ n ≤ 6) ∧
      δ = [.sh (.int z), .sh (dI (a0 :: a1 :: a2 :: a3 :: a4 :: a5 :: a6 :: a7 :: tl)), .sh (dI st), .un, .un, .un, .un, .un, .un]) ?_ ?_
  · walk_at "ag"
    refine ⟨fun _ => ?_, fun _ => ?_⟩
    · walk_at "ag"
      refine ⟨by show 8 ≤ 100; decide, ?_⟩
      refine ws_asg (EvN.r (en_mapI st2 (fun n => .int ((n + 1).fdiv 2)) ?_ (by omega) (fun n hn => ?_) ?_))
      · walk_at "ag"
      · walk_at "ag"
      refine ⟨1, a1.fmod 4, a2.fmod 7, a3.fmod 3, a4.fmod 5, a5.fmod 9, a6, a7, [], st2.map fun n => (n + 1).fdiv 2, ?_, ?_, ?_, ?_, ?_, h6, h7, by rw [List.length_map]; exact hl2, fun n hn => ?_, by rw [show st2.map (fun n => D.int ((n + 1).fdiv 2)) = (st2.map fun n => (n + 1).fdiv 2).map D.int by rw [List.map_map]; rfl]; rfl⟩
      · have := fmod_in (a := a1) (b := 4) (by decide); omega
      · have := fmod_in (a := a2) (b := 7) (by decide); omega
      · have := fmod_in (a := a3) (b := 3) (by decide); omega
      · have := fmod_in (a := a4) (b := 5) (by decide); omega
      · have := fmod_in (a := a5) (b := 9) (by decide); omega
      · obtain ⟨m, hm, rfl⟩ := List.mem_map.mp hn
        have := hs2 m hm
        show 1 ≤ (m + 1).fdiv 2 ∧ (m + 1).fdiv 2 ≤ 6
        rw [Int.fdiv_eq_ediv_of_nonneg _ (by decide)]
        omega
    · walk_at "ag"
      exact ⟨a0, a1, a2, a3, a4, a5, a6, a7, st, st2, h1, h2, h3, h4, h5, h6, h7, hl2, hs2, rfl⟩
  clear h1 h2 h3 h4 h5 h6 h7 hs hl hs2 hl2
  rintro _ ⟨a0, a1, a2, a3, a4, a5, a6, a7, tl, st, h1, h2, h3, h4, h5, h6, h7, hl, hs, rfl⟩
  have f6 := fmod_in (a := a6) (b := a1 + 1) (by omega)
  have f7 := fmod_in (a := a7) (b := a6.fmod (a1 + 1) + 1) (by omega)
  have f4 := fmod_in (a := a4) (b := 41 - (a3 + 1)) (by omega)
  walk_at "ag"
  refine ⟨by show 7 ≤ 100; decide, ?_⟩
  rw [cutD_to (k := (a1 + 1).toNat) (by omega), ← List.map_take]
  refine q ⟨st.take (a1 + 1).toNat, a2 + 1, a7.fmod (a6.fmod (a1 + 1) + 1), a6.fmod (a1 + 1), a3 + 1, a3 + 1 + a4.fmod (41 - (a3 + 1)), a5 + 1⟩ ?_
  have hlt : (st.take (a1 + 1).toNat).length = (a1 + 1).toNat := by rw [List.length_take]; omega
  have hst : okStays (st.take (a1 + 1).toNat) = true := by
    unfold okStays
    rw [all_in (fun n hn => hs n (List.mem_of_mem_take hn)), hlt, decide_eq_true (by omega), decide_eq_true (by omega)]
    rfl
  unfold Ru.ok
  dsimp only
  rw [hst, hlt]
  simp only [Bool.true_and, Bool.and_eq_true, decide_eq_true_eq]
  omega

theorem Ru.pos {r : Ru} (h : r.ok = true) : (1 ≤ r.stays.length ∧ r.stays.length ≤ 8) ∧ ∀ n ∈ r.stays, 1 ≤ n ∧ n ≤ 6 := by
  unfold Ru.ok okStays at h
  simp only [Bool.and_eq_true, decide_eq_true_eq] at h
  refine ⟨by omega, fun n hn => ?_⟩
  have h2 := List.all_eq_true.mp h.1.1.1.2 _ (List.mem_map.mpr ⟨n, hn, rfl⟩)
  simpa using h2
theorem sum_nn : ∀ {ns : List Int}, (∀ n ∈ ns, 0 ≤ n) → 0 ≤ ns.sum
  | [], _ => by simp
  | n :: ns, h => by
    have h1 := h n List.mem_cons_self
    have h2 := sum_nn (ns := ns) fun m hm => h m (List.mem_cons_of_mem _ hm)
    rw [List.sum_cons]
    omega
def pre__law_made : PreT := fun ds R _ => ∃ r : Ru, ds = [r.l] ∧ r.stays.length ≤ 100000 ∧ r.ok = true ∧ R r.d
abbrev N__law_made : List Str := ["_law_d"]
theorem sc__law_made : FnScope N__law_made ["_law_d"] (defScope s__law_made) := ⟨rfl, rfl, rfl, by decide +kernel, rfl, by decide +kernel, by decide +kernel⟩
theorem d__law_made (T : Cn K mg) : Df P w K mg base 5 "_law_made" ["_law_d"] (SpP K pre__law_made) := by
  obtain ⟨fd, F⟩ := fd__law_made T
  refine ⟨_, fd, ?_, g__law_made T, F.kp, binds_of F (fun _ _ _ _ _ _ us hl => match us, hl with | [_], _ => rfl)⟩
  have nd := sc__law_made.nd
  refine fn_p (k := 4) F sc__law_made (fun ds R X h => by first | (obtain ⟨_, rfl, _⟩ := h; rfl) | (obtain ⟨_, _, rfl, _⟩ := h; rfl) | (obtain ⟨_, _, _, rfl, _⟩ := h; rfl) | (obtain ⟨_, _, _, _, rfl, _⟩ := h; rfl) | (obtain ⟨_, _, _, _, _, rfl, _⟩ := h; rfl) | (obtain ⟨_, _, _, _, _, _, rfl, _⟩ := h; rfl) | (obtain ⟨_, _, _, _, _, _, _, rfl, _⟩ := h; rfl) | (obtain ⟨_, _, _, _, _, _, _, _, rfl, _⟩ := h; rfl) | (obtain ⟨rfl, _⟩ := h; rfl)) (fun cdv A outer s H S0 E X R ds hr h hE => ?_)
  refine ⟨_, (pss_one (ps_ret (pe_dk (k_Rule T) hr (by decide) passL (pa_cons (pe_callTy acall_list_of (by rfl) (z_list T) (by decide +kernel) (pa_cons (pe_ix aix_seq (pv 0) pe_int (fun _ _ => rfl)) pa_nil)) (pa_cons (pe_ix aix_seq (pv 0) pe_int (fun _ _ => rfl)) (pa_cons (pe_ix aix_seq (pv 0) pe_int (fun _ _ => rfl)) (pa_cons (pe_ix aix_seq (pv 0) pe_int (fun _ _ => rfl)) (pa_cons (pe_ix aix_seq (pv 0) pe_int (fun _ _ => rfl)) (pa_cons (pe_ix aix_seq (pv 0) pe_int (fun _ _ => rfl)) (pa_cons (pe_ix aix_seq (pv 0) pe_int (fun _ _ => rfl)) pa_nil)))))))))), ?_⟩
  dsimp only [cxOf, N__law_made, List.map_cons, List.map_nil]
  obtain ⟨r, rfl, hl, hok, q⟩ := h
  unfold Ru.l
  refine ws_ret (ev_make XOk.no ?_)
  walk_at "ag"
  exact ⟨r, rfl, hl, fun _ => q, fun h => absurd (h.symm.trans hok) (by decide)⟩
def pre__law_many : PreT := fun ds R _ => ∃ (ns : List Int) (f : Int), ds = [dI ns, .int f] ∧ 0 ≤ f ∧ f ≤ 1000 ∧ ∀ n : Int, 0 ≤ n → n ≤ 1000 → R (.int n)
abbrev N__law_many : List Str := ["_law_script", "_law_few"]
theorem sc__law_many : FnScope N__law_many ["_law_script", "_law_few"] (defScope s__law_many) := ⟨rfl, rfl, rfl, by decide +kernel, rfl, by decide +kernel, by decide +kernel⟩
theorem d__law_many (T : Cn K mg) : Df P w K mg base 1 "_law_many" ["_law_script", "_law_few"] (SpP K pre__law_many) := by
  obtain ⟨fd, F⟩ := fd__law_many T
  refine ⟨_, fd, ?_, g__law_many T, F.kp, binds_of F (fun _ _ _ _ _ _ us hl => match us, hl with | [_, _], _ => rfl)⟩
  have nd := sc__law_many.nd
  refine fn_p (k := 0) F sc__law_many (fun ds R X h => by first | (obtain ⟨_, rfl, _⟩ := h; rfl) | (obtain ⟨_, _, rfl, _⟩ := h; rfl) | (obtain ⟨_, _, _, rfl, _⟩ := h; rfl) | (obtain ⟨_, _, _, _, rfl, _⟩ := h; rfl) | (obtain ⟨_, _, _, _, _, rfl, _⟩ := h; rfl) | (obtain ⟨_, _, _, _, _, _, rfl, _⟩ := h; rfl) | (obtain ⟨_, _, _, _, _, _, _, rfl, _⟩ := h; rfl) | (obtain ⟨_, _, _, _, _, _, _, _, rfl, _⟩ := h; rfl) | (obtain ⟨rfl, _⟩ := h; rfl)) (fun cdv A outer s H S0 E X R ds hr h hE => ?_)
  refine ⟨_, (pss_one (ps_ret (pe_callB (id := "max") (call_max2 rfl) (by rfl) (z_max T) (by decide +kernel) (pa_cons (pv 1) (pa_cons (pe_callB (id := "min") (call_min2 rfl) (by rfl) (z_min T) (by decide +kernel) (pa_cons (pe_callB acall_len (by rfl) (z_len T) PySem.boot_len (pa_cons (pv 0) pa_nil)) (pa_cons pe_int pa_nil))) pa_nil))))), ?_⟩
  dsimp only [cxOf, N__law_many, List.map_cons, List.map_nil]
  obtain ⟨ns, f, rfl, f0, f1, q⟩ := h
  walk_at "ag"
  rw [List.length_map]
  exact q _ (by split <;> split <;> omega) (by split <;> split <;> omega)
def pre__law_cut : PreT := fun ds R _ => ∃ z : Int, ds = [.int z] ∧ ∀ y : Int, R (.int y)
def pre__law_grade : PreT := fun ds R _ => ∃ (ns : List Int) (s : Int), ds = [dI ns, .int s] ∧ ns.length ≤ 100000 ∧ (∀ n ∈ ns, 0 ≤ n) ∧ R (optN (grAt ns s))
abbrev N__law_grade : List Str := ["_law_stays", "_law_stood", "_law_k"]
theorem sc__law_grade : FnScope N__law_grade ["_law_stays", "_law_stood"] (defScope s__law_grade) := ⟨rfl, rfl, rfl, by decide +kernel, rfl, by decide +kernel, by decide +kernel⟩
theorem d__law_grade (T : Cn K mg) : Df P w K mg base 1 "_law_grade" ["_law_stays", "_law_stood"] (SpP K pre__law_grade) := by
  obtain ⟨fd, F⟩ := fd__law_grade T
  refine ⟨_, fd, ?_, g__law_grade T, F.kp, binds_of F (fun _ _ _ _ _ _ us hl => match us, hl with | [_, _], _ => rfl)⟩
  have nd := sc__law_grade.nd
  refine fn_p (k := 0) F sc__law_grade (fun ds R X h => by first | (obtain ⟨_, rfl, _⟩ := h; rfl) | (obtain ⟨_, _, rfl, _⟩ := h; rfl) | (obtain ⟨_, _, _, rfl, _⟩ := h; rfl) | (obtain ⟨_, _, _, _, rfl, _⟩ := h; rfl) | (obtain ⟨_, _, _, _, _, rfl, _⟩ := h; rfl) | (obtain ⟨_, _, _, _, _, _, rfl, _⟩ := h; rfl) | (obtain ⟨_, _, _, _, _, _, _, rfl, _⟩ := h; rfl) | (obtain ⟨_, _, _, _, _, _, _, _, rfl, _⟩ := h; rfl) | (obtain ⟨rfl, _⟩ := h; rfl)) (fun cdv A outer s H S0 E X R ds hr h hE => ?_)
  refine ⟨_, (pss_cons (ps_if (pt_cmpR op_lt (pv 1) pe_int (nomark _)) (pss_one (ps_ret pe_non)) pss_nil) (pss_cons (ps_for (passes_of rfl) rfl (pi_range1 rfl (z_range T) (pa_cons (pe_callB acall_len (by rfl) (z_len T) PySem.boot_len (pa_cons (pv 0) pa_nil)) pa_nil)) (pg_name (i := 2) nd rfl (by first | exact Or.inl rfl | exact Or.inr rfl)) (pss_cons (ps_if (pt_cmpR op_lt (pv 1) (pe_ix aix_seq (pv 0) (pv 2) (fun _ _ => rfl)) (nomark _)) (pss_one (ps_ret (pv 2))) pss_nil) (pss_one (ps_set (i := 1) nd rfl (by first | exact Or.inl rfl | exact Or.inr rfl) (pe_op op_sub (pv 1) (pe_ix aix_seq (pv 0) (pv 2) (fun _ _ => rfl))))))) (pss_one (ps_ret pe_non)))), ?_⟩
  dsimp only [cxOf, N__law_grade, List.map_cons, List.map_nil]
  obtain ⟨ns, s0, rfl, hl, hp, q⟩ := h
  walk_at "ag"
  refine ⟨fun h => ?_, fun h => ?_⟩
  · have h := of_decide_eq_true h
    have e : grAt ns s0 = none := by
      unfold grAt
      rw [List.find?_range_eq_none]
      intro j hj
      have hs := sum_nn (ns := ns.take j) fun n hn => hp n (List.mem_of_mem_take hn)
      unfold grOk
      rw [decide_eq_false (show ¬ (ns.take j).sum ≤ s0 by omega)]
      rfl
    rw [e] at q
    walk_at "ag"
    exact q
  · have h := of_decide_eq_false h
    walk_at "ag"
    refine ws_forR1 (n := ns.length) tg_name (fun i δ => ∃ x, δ = [.sh (dI ns), .sh (.int (s0 - (ns.take i).sum)), x] ∧ (ns.take i).sum ≤ s0 ∧ ∀ j, j < i → (ns.take (j + 1)).sum ≤ s0) ?_ ?_ ?_
    · walk_at "ag"
      rw [List.length_map]
      refine ⟨rfl, by omega, by omega, .un, ?_, by simp; omega, fun j hj => absurd hj (by omega)⟩
      show _ = [Sl.sh (dI ns), Sl.sh (D.int (s0 - (List.take 0 ns).sum)), Sl.un]
      rw [List.take_zero, List.sum_nil, Int.sub_zero]
      rfl
    · rintro i _ hi ⟨x, rfl, h1, h2⟩
      have hi2 : i < ns.length := by omega
      have hz : ns[i]? = some (ns[i]'hi2) := List.getElem?_eq_getElem hi2
      have st := sum_take hz
      refine ⟨trivial, ?_⟩
      show WpS K S0 H _ [.sh (dI ns), .sh (.int (s0 - (ns.take i).sum)), .sh (.int i)] _
      walk_at "ag"
      refine od_ix (atI_ints rfl hz) ?_
      walk_at "ag"
      refine ⟨fun h3 => ?_, fun h3 => ?_⟩
      · have h3 := of_decide_eq_true h3
        have e : grAt ns s0 = some i := by
          unfold grAt
          rw [List.find?_range_eq_some]
          refine ⟨?_, List.mem_range.mpr hi2, fun j hj => ?_⟩
          · unfold grOk
            rw [decide_eq_true h1, decide_eq_true (by omega)]
            rfl
          · have := h2 j hj
            unfold grOk
            rw [decide_eq_false (show ¬ s0 < (ns.take (j + 1)).sum by omega), Bool.and_false]
            rfl
        rw [e] at q
        walk_at "ag"
        exact q
      · have h3 := of_decide_eq_false h3
        walk_at "ag"
        refine od_ix (atI_ints rfl hz) ?_
        walk_at "ag"
        refine ⟨.sh (.int i), ?_, by omega, fun j hj => ?_⟩
        · show [Sl.sh (dI ns), Sl.sh (D.int (s0 - (ns.take i).sum - ns[i])), Sl.sh (D.int i)] = _
          rw [st, show s0 - ((ns.take i).sum + ns[i]) = s0 - (ns.take i).sum - ns[i] by omega]
        · by_cases e : j = i
          · subst e; omega
          · exact h2 j (by omega)
    · rintro _ ⟨x, rfl, h1, h2⟩
      have e : grAt ns s0 = none := by
        unfold grAt
        rw [List.find?_range_eq_none]
        intro j hj
        have := h2 j (by omega)
        unfold grOk
        rw [decide_eq_false (show ¬ s0 < (ns.take (j + 1)).sum by omega), Bool.and_false]
        rfl
      rw [e] at q
      walk_at "ag"
      exact q


def bLow (r : Ru) : Int := if r.gap - r.upto < 1 then (r.gap - r.upto - 1) * r.most else (r.gap - r.upto - 1) * r.least
def bHigh (r : Ru) : Int := if r.gap - r.from < 1 then (r.gap - r.from) * r.least else (r.gap - r.from) * r.most
def pre_bounds : PreT := fun ds R _ => ∃ r : Ru, ds = [r.d] ∧ (0 ≤ r.opens ∧ r.opens ≤ (r.stays.length : Int)) ∧ (0 ≤ r.shuts ∧ r.shuts < (r.stays.length : Int)) ∧ (r.gap - r.upto).natAbs < 1000000 ∧ (r.gap - r.from).natAbs < 1000000 ∧ r.least.natAbs < 1000000 ∧ r.most.natAbs < 1000000 ∧ R (.tup [.int (bLow r), .int (bHigh r)])
abbrev N_bounds : List Str := ["rule", "fewest", "most", "low", "high"]
theorem sc_bounds : FnScope N_bounds ["rule"] (defScope s_bounds) := ⟨rfl, rfl, rfl, by decide +kernel, rfl, by decide +kernel, by decide +kernel⟩
theorem d_bounds (T : Cn K mg) : Df P w K mg base 2 "bounds" ["rule"] (SpP K pre_bounds) := by
  obtain ⟨fd, F⟩ := fd_bounds T
  refine ⟨_, fd, ?_, g_bounds T, F.kp, binds_of F (fun _ _ _ _ _ _ us hl => match us, hl with | [_], _ => rfl)⟩
  have nd := sc_bounds.nd
  have hcl_Rule := cl_Rule T
  have hna_Rule_gap := na_Rule_gap T
  have hna_Rule_least := na_Rule_least T
  have hna_Rule_most := na_Rule_most T
  refine fn_p (k := 1) F sc_bounds (fun ds R X h => by first | (obtain ⟨_, rfl, _⟩ := h; rfl) | (obtain ⟨_, _, rfl, _⟩ := h; rfl) | (obtain ⟨_, _, _, rfl, _⟩ := h; rfl) | (obtain ⟨_, _, _, _, rfl, _⟩ := h; rfl) | (obtain ⟨_, _, _, _, _, rfl, _⟩ := h; rfl) | (obtain ⟨_, _, _, _, _, _, rfl, _⟩ := h; rfl) | (obtain ⟨_, _, _, _, _, _, _, rfl, _⟩ := h; rfl) | (obtain ⟨_, _, _, _, _, _, _, _, rfl, _⟩ := h; rfl) | (obtain ⟨rfl, _⟩ := h; rfl)) (fun cdv A outer s H S0 E X R ds hr h hE => ?_)
  refine ⟨_, (pss_cons (ps_set (i := 1) nd rfl (by first | exact Or.inl rfl | exact Or.inr rfl) (pe_op op_sub (ape_fld (pv 0) rfl) (pe_dm0 (pv 0) (m_Rule_fathering_to T) hr (by decide) passL))) (pss_cons (ps_set (i := 2) nd rfl (by first | exact Or.inl rfl | exact Or.inr rfl) (pe_op op_sub (ape_fld (pv 0) rfl) (pe_dm0 (pv 0) (m_Rule_fathering_from T) hr (by decide) passL))) (pss_cons (ps_set (i := 3) nd rfl (by first | exact Or.inl rfl | exact Or.inr rfl) (pe_op op_mulW (pe_op op_sub (pv 1) pe_int) (ape_fld (pv 0) rfl))) (pss_cons (ps_if (pt_cmpR op_lt (pv 1) pe_int (nomark _)) (pss_one (ps_set (i := 3) nd rfl (by first | exact Or.inl rfl | exact Or.inr rfl) (pe_op op_mulW (pe_op op_sub (pv 1) pe_int) (ape_fld (pv 0) rfl)))) pss_nil) (pss_cons (ps_set (i := 4) nd rfl (by first | exact Or.inl rfl | exact Or.inr rfl) (pe_op op_mulW (pv 2) (ape_fld (pv 0) rfl))) (pss_cons (ps_if (pt_cmpR op_lt (pv 2) pe_int (nomark _)) (pss_one (ps_set (i := 4) nd rfl (by first | exact Or.inl rfl | exact Or.inr rfl) (pe_op op_mulW (pv 2) (ape_fld (pv 0) rfl)))) pss_nil) (pss_one (ps_ret (pe_tup (pa_cons (pv 3) (pa_cons (pv 4) pa_nil))))))))))), ?_⟩
  dsimp only [cxOf, N_bounds, List.map_cons, List.map_nil]
  obtain ⟨r, rfl, ⟨o0, o1⟩, ⟨s0, s1⟩, b1, b2, b3, b4, q⟩ := h
  walk_at "ag"
  refine ⟨r, rfl, s0, s1, ?_⟩
  walk_at "ag"
  refine ⟨r, rfl, o0, o1, ?_⟩
  walk_at "ag"
  refine od_mulW (mulW (by omega) (by omega)) ?_
  refine ws_cut (M := fun δ => ∃ x, δ = [.sh r.d, .sh (.int (r.gap - r.upto)), .sh (.int (r.gap - r.from)), .sh (.int (bLow r)), x]) ?_ ?_
  · walk_at "ag"
    refine ⟨fun h => ?_, fun h => ?_⟩
    · walk_at "ag"
      refine od_mulW (mulW (by omega) (by omega)) ?_
      refine ⟨.un, ?_⟩
      unfold bLow
      rw [if_pos (of_decide_eq_true h)]
      rfl
    · walk_at "ag"
      refine ⟨.un, ?_⟩
      unfold bLow
      rw [if_neg (of_decide_eq_false h)]
      rfl
  rintro _ ⟨x, rfl⟩
  walk_at "ag"
  refine od_mulW (mulW (by omega) (by omega)) ?_
  refine ws_cut (M := fun δ => δ = [.sh r.d, .sh (.int (r.gap - r.upto)), .sh (.int (r.gap - r.from)), .sh (.int (bLow r)), .sh (.int (bHigh r))]) ?_ ?_
  · walk_at "ag"
    refine ⟨fun h => ?_, fun h => ?_⟩
    · walk_at "ag"
      refine od_mulW (mulW (by omega) (by omega)) ?_
      unfold bHigh
      rw [if_pos (of_decide_eq_true h)]
      rfl
    · walk_at "ag"
      unfold bHigh
      rw [if_neg (of_decide_eq_false h)]
      rfl
  rintro _ rfl
  walk_at "ag"
  exact ⟨by show 2 ≤ 100; decide, q⟩

theorem take_mono {ns : List Int} (hp : ∀ n ∈ ns, 0 ≤ n) {i j : Nat} (h : i ≤ j) : (ns.take i).sum ≤ (ns.take j).sum := by
  induction j with
  | zero => rw [show i = 0 by omega]; exact Int.le_refl _
  | succ j ih =>
    by_cases e : i = j + 1
    · subst e; exact Int.le_refl _
    · have := ih (by omega)
      by_cases hj : j < ns.length
      · have hz : ns[j]? = some (ns[j]'hj) := List.getElem?_eq_getElem hj
        have := sum_take hz
        have := hp _ (List.getElem_mem hj)
        omega
      · rw [List.take_of_length_le (show ns.length ≤ j + 1 by omega)]
        rw [List.take_of_length_le (show ns.length ≤ j by omega)] at this
        exact this
theorem grAt_in {ns : List Int} {s : Int} {g : Nat} (h : grAt ns s = some g) : g < ns.length ∧ (ns.take g).sum ≤ s ∧ s < (ns.take (g + 1)).sum := by
  unfold grAt at h
  rw [List.find?_range_eq_some] at h
  have h1 := h.1
  unfold grOk at h1
  rw [Bool.and_eq_true] at h1
  exact ⟨List.mem_range.mp h.2.1, of_decide_eq_true h1.1, of_decide_eq_true h1.2⟩
theorem grAt_some {ns : List Int} {s : Int} (h0 : 0 ≤ s) (h1 : s < ns.sum) : ∃ g, grAt ns s = some g := by
  cases e : grAt ns s with
  | some g => exact ⟨g, rfl⟩
  | none =>
    unfold grAt at e
    rw [List.find?_range_eq_none] at e
    have : ∀ j, j ≤ ns.length → (ns.take j).sum ≤ s := by
      intro j
      induction j with
      | zero => intro _; simpa using h0
      | succ j ih =>
        intro hj
        have h2 := e j (by omega)
        unfold grOk at h2
        rw [decide_eq_true (ih (by omega)), Bool.true_and] at h2
        by_cases z : s < (ns.take (j + 1)).sum
        · rw [decide_eq_true z] at h2; simp at h2
        · omega
    have := this ns.length (Nat.le_refl _)
    rw [List.take_length] at this
    omega
/-- the fewest years, the most, ahead sets ahead -/
def yLow (l m a : Int) : Int := if 0 < a then (a - 1) * l else (a - 1) * m
def yHigh (l m a : Int) : Int := if 0 < a then a * m else a * l
theorem yLow_mono {l m a b : Int} (hl : 0 ≤ l) (hm : l ≤ m) (h : a ≤ b) : yLow l m a ≤ yLow l m b := by
  unfold yLow
  split <;> split
  · exact Int.mul_le_mul_of_nonneg_right (by omega) hl
  · omega
  · have h1 : (a - 1) * m ≤ 0 := Int.mul_nonpos_of_nonpos_of_nonneg (by omega) (by omega)
    have h2 : 0 ≤ (b - 1) * l := Int.mul_nonneg (by omega) hl
    omega
  · exact Int.mul_le_mul_of_nonneg_right (by omega) (by omega)
theorem yHigh_mono {l m a b : Int} (hl : 0 ≤ l) (hm : l ≤ m) (h : a ≤ b) : yHigh l m a ≤ yHigh l m b := by
  unfold yHigh
  split <;> split
  · exact Int.mul_le_mul_of_nonneg_right (by omega) (by omega)
  · omega
  · have h1 : a * l ≤ 0 := Int.mul_nonpos_of_nonpos_of_nonneg (by omega) hl
    have h2 : 0 ≤ b * m := Int.mul_nonneg (by omega) (by omega)
    omega
  · exact Int.mul_le_mul_of_nonneg_right (by omega) hl

theorem sum_le : ∀ {ns : List Int}, (∀ n ∈ ns, n ≤ 6) → ns.sum ≤ 6 * (ns.length : Int)
  | [], _ => by simp
  | n :: ns, h => by
    have h1 := h n List.mem_cons_self
    have h2 := sum_le (ns := ns) fun m hm => h m (List.mem_cons_of_mem _ hm)
    rw [List.sum_cons, List.length_cons]
    omega
structure RuF (r : Ru) : Prop where
  len : r.stays.length ≤ 8
  nn : ∀ n ∈ r.stays, 0 ≤ n
  o0 : 0 ≤ r.opens
  os : r.opens ≤ r.shuts
  s1 : r.shuts < (r.stays.length : Int)
  l0 : 1 ≤ r.least
  lm : r.least ≤ r.most
  m1 : r.most ≤ 40
  g0 : 1 ≤ r.gap
  g1 : r.gap ≤ 60
  f0 : 0 ≤ r.from
  fu : r.from ≤ r.upto
  us : r.upto < r.stays.sum
  s6 : r.stays.sum ≤ 48
theorem Ru.facts {r : Ru} (h : r.ok = true) : RuF r := by
  have hp := Ru.pos h
  have hn : ∀ n ∈ r.stays, 0 ≤ n := fun n hn => by have := hp.2 n hn; omega
  have h1 := h
  unfold Ru.ok at h1
  simp only [Bool.and_eq_true, decide_eq_true_eq] at h1
  have a1 := take_mono hn (show r.opens.toNat ≤ r.shuts.toNat by omega)
  have hs : r.shuts.toNat < r.stays.length := by omega
  have hz : r.stays[r.shuts.toNat]? = some (r.stays[r.shuts.toNat]'hs) := List.getElem?_eq_getElem hs
  have a2 := sum_take hz
  have a3 := hp.2 _ (List.getElem_mem hs)
  have a4 := take_mono hn (show r.shuts.toNat + 1 ≤ r.stays.length by omega)
  rw [List.take_length] at a4
  have a5 := sum_le fun n hn => (hp.2 n hn).2
  have a6 := sum_nn (ns := r.stays.take r.opens.toNat) fun n h => hn n (List.mem_of_mem_take h)
  exact ⟨hp.1.2, hn, by omega, by omega, by omega, by omega, by omega, by omega, by omega, by omega, a6, by unfold Ru.from Ru.upto; omega, by unfold Ru.upto; omega, by omega⟩
theorem fath_iff {r : Ru} (f : RuF r) {s : Int} {g : Nat} (e : grAt r.stays s = some g) : (r.opens ≤ (g : Int) ∧ (g : Int) ≤ r.shuts) ↔ (r.from ≤ s ∧ s ≤ r.upto) := by
  obtain ⟨h1, h2, h3⟩ := grAt_in e
  have o0 := f.o0
  have os := f.os
  unfold Ru.from Ru.upto
  constructor
  · rintro ⟨a, b⟩
    have m1 := take_mono f.nn (show r.opens.toNat ≤ g by omega)
    have m2 := take_mono f.nn (show g + 1 ≤ r.shuts.toNat + 1 by omega)
    omega
  · rintro ⟨a, b⟩
    constructor
    · by_cases z : r.opens ≤ (g : Int)
      · exact z
      · have m1 := take_mono f.nn (show g + 1 ≤ r.opens.toNat by omega)
        omega
    · by_cases z : (g : Int) ≤ r.shuts
      · exact z
      · have m1 := take_mono f.nn (show r.shuts.toNat + 1 ≤ g by omega)
        omega
def pre__law_bounds_due : PreT := fun ds R _ => ∃ r : Ru, ds = [r.l] ∧ r.ok = true ∧ R (.tup [.int (yLow r.least r.most (r.gap - r.upto)), .int (yHigh r.least r.most (r.gap - r.from))])
abbrev N__law_bounds_due : List Str := ["_law_d", "_law_low", "_law_high", "_law_stood", "_law_ahead", "_law_least", "_law_most"]
theorem sc__law_bounds_due : FnScope N__law_bounds_due ["_law_d"] (defScope s__law_bounds_due) := ⟨rfl, rfl, rfl, by decide +kernel, rfl, by decide +kernel, by decide +kernel⟩
theorem d__law_bounds_due (T : Cn K mg) : Df P w K mg base 2 "_law_bounds_due" ["_law_d"] (SpP K pre__law_bounds_due) := by
  obtain ⟨fd, F⟩ := fd__law_bounds_due T
  refine ⟨_, fd, ?_, g__law_bounds_due T, F.kp, binds_of F (fun _ _ _ _ _ _ us hl => match us, hl with | [_], _ => rfl)⟩
  have nd := sc__law_bounds_due.nd
  refine fn_p (k := 1) F sc__law_bounds_due (fun ds R X h => by first | (obtain ⟨_, rfl, _⟩ := h; rfl) | (obtain ⟨_, _, rfl, _⟩ := h; rfl) | (obtain ⟨_, _, _, rfl, _⟩ := h; rfl) | (obtain ⟨_, _, _, _, rfl, _⟩ := h; rfl) | (obtain ⟨_, _, _, _, _, rfl, _⟩ := h; rfl) | (obtain ⟨_, _, _, _, _, _, rfl, _⟩ := h; rfl) | (obtain ⟨_, _, _, _, _, _, _, rfl, _⟩ := h; rfl) | (obtain ⟨_, _, _, _, _, _, _, _, rfl, _⟩ := h; rfl) | (obtain ⟨rfl, _⟩ := h; rfl)) (fun cdv A outer s H S0 E X R ds hr h hE => ?_)
  refine ⟨_, (pss_cons (ps_set (i := 1) nd rfl (by first | exact Or.inl rfl | exact Or.inr rfl) pe_non) (pss_cons (ps_set (i := 2) nd rfl (by first | exact Or.inl rfl | exact Or.inr rfl) pe_non) (pss_cons (ps_for (passes_of rfl) rfl (pi_range1 rfl (z_range T) (pa_cons (pe_callB (id := "sum") (acr_sum rfl) (by rfl) (z_sum T) (by decide +kernel) (pa_cons (pe_ix aix_seq (pv 0) pe_int (fun _ _ => rfl)) pa_nil)) pa_nil)) (pg_name (i := 3) nd rfl (by first | exact Or.inl rfl | exact Or.inr rfl)) (pss_one (ps_if (pt_chain op_le op_le (pe_ix aix_seq (pv 0) pe_int (fun _ _ => rfl)) (pe_df (d__law_grade T) hr (by decide) passL (pa_cons (pe_ix aix_seq (pv 0) pe_int (fun _ _ => rfl)) (pa_cons (pv 3) pa_nil))) (pe_ix aix_seq (pv 0) pe_int (fun _ _ => rfl))) (pss_cons (ps_set (i := 4) nd rfl (by first | exact Or.inl rfl | exact Or.inr rfl) (pe_op op_sub (pe_ix aix_seq (pv 0) pe_int (fun _ _ => rfl)) (pv 3))) (pss_cons (ps_if (pt_cmpR op_gt (pv 4) pe_int (nomark _)) (pss_cons (ps_set (i := 5) nd rfl (by first | exact Or.inl rfl | exact Or.inr rfl) (pe_op op_mulW (pe_op op_sub (pv 4) pe_int) (pe_ix aix_seq (pv 0) pe_int (fun _ _ => rfl)))) (pss_one (ps_set (i := 6) nd rfl (by first | exact Or.inl rfl | exact Or.inr rfl) (pe_op op_mulW (pv 4) (pe_ix aix_seq (pv 0) pe_int (fun _ _ => rfl)))))) (pss_cons (ps_set (i := 5) nd rfl (by first | exact Or.inl rfl | exact Or.inr rfl) (pe_op op_sub pe_int (pe_op op_mulW (pe_op op_sub pe_int (pv 4)) (pe_ix aix_seq (pv 0) pe_int (fun _ _ => rfl))))) (pss_one (ps_set (i := 6) nd rfl (by first | exact Or.inl rfl | exact Or.inr rfl) (pe_op op_sub pe_int (pe_op op_mulW (pe_op op_sub pe_int (pv 4)) (pe_ix aix_seq (pv 0) pe_int (fun _ _ => rfl)))))))) (pss_cons (ps_set (i := 1) nd rfl (by first | exact Or.inl rfl | exact Or.inr rfl) (pe_ifExp (pt_cmpR op_isN (pv 1) pe_non (nomark _)) (pv 5) (pe_callB (id := "min") (call_min2 rfl) (by rfl) (z_min T) (by decide +kernel) (pa_cons (pv 1) (pa_cons (pv 5) pa_nil))))) (pss_one (ps_set (i := 2) nd rfl (by first | exact Or.inl rfl | exact Or.inr rfl) (pe_ifExp (pt_cmpR op_isN (pv 2) pe_non (nomark _)) (pv 6) (pe_callB (id := "max") (call_max2 rfl) (by rfl) (z_max T) (by decide +kernel) (pa_cons (pv 2) (pa_cons (pv 6) pa_nil))))))))) pss_nil))) (pss_one (ps_ret (pe_tup (pa_cons (pv 1) (pa_cons (pv 2) pa_nil)))))))), ?_⟩
  dsimp only [cxOf, N__law_bounds_due, List.map_cons, List.map_nil]
  obtain ⟨r, rfl, hok, q⟩ := h
  have f := Ru.facts hok
  obtain ⟨len, nn, o0, os, s1, l0, lm, m1, g0, g1, f0, fu, us, s6⟩ := id f
  unfold Ru.l
  walk_at "ag"
  refine ws_forR1 (n := r.stays.sum) tg_name (fun i δ => ∃ x1 x2 x3 x4 x5 x6, δ = [.sh (.lst [dI r.stays, .int r.gap, .int r.opens, .int r.shuts, .int r.least, .int r.most, .int r.names]), .sh x1, .sh x2, x3, x4, x5, x6] ∧ (((i : Int) ≤ r.from ∧ x1 = .non ∧ x2 = .non) ∨ (r.from < (i : Int) ∧ x1 = .int (yLow r.least r.most (r.gap - min ((i : Int) - 1) r.upto)) ∧ x2 = .int (yHigh r.least r.most (r.gap - r.from))))) ?_ ?_ ?_
  · walk_at "ag"
    refine ⟨rfl, by omega, by omega, _, _, .un, .un, .un, .un, rfl, .inl ⟨f0, rfl, rfl⟩⟩
  · rintro i _ hi ⟨x1, x2, x3, x4, x5, x6, rfl, inv⟩
    refine ⟨trivial, ?_⟩
    obtain ⟨g, eg⟩ := grAt_some (ns := r.stays) (s := (i : Int)) (by omega) hi
    have hf := fath_iff f eg
    refine ws_if (EvT.imp (R := fun b => b = decide (r.from ≤ (i : Int) ∧ (i : Int) ≤ r.upto)) ?_ ?_)
    · walk_at "ag"
      refine ⟨r.stays, i, rfl, by omega, nn, ?_⟩
      rw [eg]
      dsimp only [optN]
      walk_at "ag"
      refine ⟨fun h => ?_, fun h => ?_⟩
      · have h := of_decide_eq_true h
        walk_at "ag"
        by_cases z : (g : Int) ≤ r.shuts
        · rw [decide_eq_true z, decide_eq_true (hf.mp ⟨h, z⟩)]
        · rw [decide_eq_false z, decide_eq_false fun y => z (hf.mpr y).2]
      · have h := of_decide_eq_false h
        rw [decide_eq_false fun y => h (hf.mpr y).1]
        exact ⟨false, rfl, rfl⟩
    · rintro _ rfl
      refine ⟨fun h => ?_, fun h => ?_⟩
      · have h := of_decide_eq_true h
        show WpS K S0 H _ [.sh (.lst [dI r.stays, .int r.gap, .int r.opens, .int r.shuts, .int r.least, .int r.most, .int r.names]), .sh x1, .sh x2, .sh (.int i), x4, x5, x6] _
        refine ws_cut (M := fun δ => ∃ x4, δ = [.sh (.lst [dI r.stays, .int r.gap, .int r.opens, .int r.shuts, .int r.least, .int r.most, .int r.names]), .sh x1, .sh x2, .sh (.int i), .sh (.int (r.gap - i)), x5, x6] ∧ x4 = ()) ?_ ?_
        · walk_at "ag"
          exact ⟨(), rfl, rfl⟩
        rintro _ ⟨_, rfl, _⟩
        refine ws_cut (M := fun δ => δ = [.sh (.lst [dI r.stays, .int r.gap, .int r.opens, .int r.shuts, .int r.least, .int r.most, .int r.names]), .sh x1, .sh x2, .sh (.int i), .sh (.int (r.gap - i)), .sh (.int (yLow r.least r.most (r.gap - i))), .sh (.int (yHigh r.least r.most (r.gap - i)))]) ?_ ?_
        · walk_at "ag"
          refine ⟨fun h => ?_, fun h => ?_⟩
          · have h := of_decide_eq_true h
            walk_at "ag"
            refine od_mulW (mulW (by omega) (by omega)) ?_
            walk_at "ag"
            refine od_mulW (mulW (by omega) (by omega)) ?_
            unfold yLow yHigh
            rw [if_pos h, if_pos h]
            rfl
          · have h := of_decide_eq_false h
            walk_at "ag"
            refine od_mulW (mulW (by omega) (by omega)) ?_
            walk_at "ag"
            refine od_mulW (mulW (by omega) (by omega)) ?_
            walk_at "ag"
            unfold yLow yHigh
            rw [if_neg h, if_neg h]
            rw [show 0 - (1 - (r.gap - (i : Int))) * r.most = (r.gap - i - 1) * r.most by rw [Int.zero_sub, ← Int.neg_mul]; congr 1; omega, show 0 - (0 - (r.gap - (i : Int))) * r.least = (r.gap - i) * r.least by rw [Int.zero_sub, ← Int.neg_mul]; congr 1; omega]
            rfl
        rintro _ rfl
        rcases inv with ⟨i1, rfl, rfl⟩ | ⟨i1, rfl, rfl⟩
        · walk_at "ag"
          refine ⟨_, _, _, _, _, _, rfl, .inr ⟨by omega, ?_, ?_⟩⟩
          · rw [show min (((i + 1 : Nat) : Int) - 1) r.upto = i by omega]
          · rw [show (i : Int) = r.from by omega]
        · walk_at "ag"
          have k1 := yLow_mono (l := r.least) (m := r.most) (a := r.gap - i) (b := r.gap - min ((i : Int) - 1) r.upto) (by omega) lm (by omega)
          have k2 := yHigh_mono (l := r.least) (m := r.most) (a := r.gap - i) (b := r.gap - r.from) (by omega) lm (by omega)
          refine ⟨_, _, _, _, _, _, rfl, .inr ⟨by omega, ?_, ?_⟩⟩
          · rw [show min (((i + 1 : Nat) : Int) - 1) r.upto = i by omega]
            congr 1
            split <;> omega
          · congr 1
            split <;> omega
      · have h := of_decide_eq_false h
        walk_at "ag"
        refine ⟨_, _, _, _, _, _, rfl, ?_⟩
        rcases inv with ⟨i1, e1, e2⟩ | ⟨i1, e1, e2⟩
        · exact .inl ⟨by omega, e1, e2⟩
        · refine .inr ⟨by omega, ?_, e2⟩
          rw [e1, show min (((i + 1 : Nat) : Int) - 1) r.upto = min ((i : Int) - 1) r.upto by omega]
  · rintro _ ⟨x1, x2, x3, x4, x5, x6, rfl, inv⟩
    rcases inv with ⟨i1, rfl, rfl⟩ | ⟨i1, rfl, rfl⟩
    · omega
    · rw [show min (((r.stays.sum).toNat : Int) - 1) r.upto = r.upto by omega]
      walk_at "ag"
      exact ⟨by show 2 ≤ 100; decide, q⟩

section
variable {K : PySem.W.Frag} {S0 H0 : Hp} {δ : List Sl} {e : DE}
/-- range(n), n told by a word -/
theorem EvA.forR1 {ta : TA} {j : Nat} {t : TS} (N : Int → Prop) (Inv : Nat → List Sl → Prop) (h : EvA K S0 H0 ta δ fun ds => ∃ n : Int, ds = [.int n] ∧ N n ∧ Inv 0 δ)
    (hs : ∀ (n : Int) (i : Nat) δ', N n → (i : Int) < n → Inv i δ' → WpS K S0 H0 t (δ'.set j (.sh (.int i))) { nx := Inv (i + 1), ct := Inv (i + 1), bk := e.nx, rt := e.rt, rn := e.rn }) (hd : ∀ n δ', N n → Inv n.toNat δ' → e.nx δ')
    (hN : ∀ n, N n → -(2 ^ 62) ≤ n ∧ n < 2 ^ 62 := by intro n h; omega) : WpS K S0 H0 (tFor (iRng1 ta) (gName j) t) δ e := fun S H σ Dn c o =>
  h S H σ c _ fun ds vs S1 H1 ⟨n, ed, hn, i0⟩ g p => by
    have hb := hN n hn
    have w := ws_forR1 (K := K) (S0 := S0) (H0 := H0) (t := t) (δ := δ) (e := e) (n := n) (ta := fun σ H Q => Q [.int n] H) (tg_name (j := j)) Inv (fun S H σ c Q k => k [.int n] [.int n] S H ⟨rfl, hb.1, hb.2, i0⟩ (Gx.refl c.g.sub) (.cons (.int _) .nil)) (fun i δ' hi q => ⟨trivial, hs n i δ' hn hi q⟩) (fun δ' q => hd n δ' hn q)
    subst ed
    cases p with
    | cons p1 p2 =>
      cases p2
      cases p1
      exact w S1 H1 σ Dn (c.grow g) (o.up g.s)
end

abbrev N_law : List Str := ["_law_script", "_law_k", "_law_d"]
theorem sc_law : FnScope N_law ["_law_script"] (defScope s_law) := ⟨rfl, rfl, rfl, by decide +kernel, rfl, by decide +kernel, by decide +kernel⟩
def spLaw (K : PySem.W.Frag) : Sp := fun vs H Q _ => ∃ (a : Addr) (ns : List Int), vs = [.ref a] ∧ SqL K H a (ns.map V.int) ∧ ns.length ≤ 63 ∧ ∀ H', Q (.bl true) H'
theorem law_end {f : Addr} (T : Cn K mg) (hfa : mg ("law" : Str) = some (.ref f)) :
    ∃ fd : FuncData, (∀ (s : Shared) (v : Value), BindsTo s fd ⟨[v], []⟩ [("_law_script", v)]) ∧ ∀ base : Heap, K.In base → base.Ns mainGlobals mg → FnOk P w K mg base CX0 8 f fd ["_law_script"] (spLaw K) := by
  obtain ⟨fd, F⟩ := fd_law T
  have ef := hfa.symm.trans (g_law T)
  cases ef
  have b := FunD.bindsA (ps := ["_law_script"]) F fun _ _ _ _ _ _ us hl => match us, hl with | [_], _ => rfl
  refine ⟨fd, fun s v => b s [v] rfl, fun base _ _ => ?_⟩
  have nd := sc_law.nd
  refine F.ok (k := 7) sc_law (fun vs H Q E h => by obtain ⟨_, _, rfl, _⟩ := h; rfl) (fun cdv A outer s H vs Q E hr h => ?_)
  refine ⟨_, PSs.nox (pss_cons (ps_for PassesOwn.never rfl (pi_range1 rfl (z_range T) (pa_cons (pe_df (d__law_many T) hr (by decide) passL (pa_cons (pv 0) (pa_cons pe_int pa_nil))) pa_nil)) (pg_name (i := 1) nd rfl (by first | exact Or.inl rfl | exact Or.inr rfl)) (pss_cons (ps_set (i := 2) nd rfl (by first | exact Or.inl rfl | exact Or.inr rfl) (pe_df (d__law_rule T) hr (by decide) passL (pa_cons (pe_df (d__law_cell T) hr (by decide) passL (pa_cons (pv 0) (pa_cons (pv 1) pa_nil))) pa_nil))) (pss_one (ps_if (pt_not (pt_val (pe_df (d__law_same T) hr (by decide) passL (pa_cons (pe_df (d_bounds T) hr (by decide) passL (pa_cons (pe_df (d__law_made T) hr (by decide) passL (pa_cons (pv 2) pa_nil)) pa_nil)) (pa_cons (pe_df (d__law_bounds_due T) hr (by decide) passL (pa_cons (pv 2) pa_nil)) pa_nil))))) (pss_one (ps_ret pe_bl)) pss_nil)))) (pss_one (ps_ret pe_bl))), ?_⟩
  dsimp only [cxOf, N_law]
  obtain ⟨a, ns, rfl, hs, hl, q⟩ := h
  refine (?_ : WpS K H H _ ([dI ns].map Sl.sh ++ List.replicate (N_law.length - 1) .un) { nx := fun _ => False, rt := fun d => d = .bl true }) H H (start N_law [.ref a]) _ (Cf.start (Ex.refl H) (.cons (.lst hs (Rps.ints ns)) .nil)) ⟨fun _ _ _ _ z => z.elim, fun d v S' H' e g p => (by subst e; cases p; exact q H'), fun _ _ _ _ z => z.elim, fun _ _ _ _ z => z.elim, fun _ _ _ _ _ z => (by cases z)⟩
  have S0 := H

  refine ws_seq ?_
  refine EvA.forR1 (fun n => 0 ≤ n ∧ n ≤ 1000) (fun i δ => ∃ x1 x2, δ = [.sh (dI ns), x1, x2]) ?_ ?_ ?_
  · walk_at "ag"
    refine ⟨ns, 8, rfl, by decide, by decide, fun n n0 n1 => ?_⟩
    walk_at "ag"
    exact ⟨⟨n0, n1⟩, _, _, rfl⟩
  · rintro n i _ hn hi ⟨x1, x2, rfl⟩
    show WpS K H H _ [.sh (dI ns), .sh (.int i), x2] _
    walk_at "ag"
    refine ⟨ns, i, rfl, by omega, by omega, by omega, fun z => ?_⟩
    walk_at "ag"
    refine ⟨z, rfl, fun r hok => ?_⟩
    have f := Ru.facts hok
    obtain ⟨len, nn, o0, os, s1, l0, lm, m1, g0, g1, f0, fu, us, s6⟩ := id f
    walk_at "ag"
    refine ⟨r, rfl, by omega, hok, ?_⟩
    walk_at "ag"
    refine ⟨r, rfl, ⟨o0, by omega⟩, ⟨by omega, s1⟩, by omega, by omega, by omega, by omega, ?_⟩
    walk_at "ag"
    refine ⟨r, rfl, hok, ?_⟩
    walk_at "ag"
    have e1 : bLow r = yLow r.least r.most (r.gap - r.upto) := by
      unfold bLow yLow
      by_cases z : 0 < r.gap - r.upto
      · rw [if_pos z, if_neg (by omega)]
      · rw [if_neg z, if_pos (by omega)]
    have e2 : bHigh r = yHigh r.least r.most (r.gap - r.from) := by
      unfold bHigh yHigh
      by_cases z : 0 < r.gap - r.from
      · rw [if_pos z, if_neg (by omega)]
      · rw [if_neg z, if_pos (by omega)]
    rw [e1, e2]
    refine ⟨_, rfl, dep_t rfl (by show 2 ≤ 100000; decide), ?_⟩
    walk_at "ag"
    exact ⟨_, _, rfl⟩
  · rintro n _ hn ⟨x1, x2, rfl⟩
    walk_at "ag"

end
def nms0 : List PySem.Str := ["_wall", "AgeError", "BadRule", "bounds", "MOST_GRADES", "MOST_STAY", "MOST_GAP", "MOST_YEARS", "MOST_NAMES", "within", "good_stays", "Rule", "_law_draw", "_law_cell", "_law_same", "_law_rule", "_law_made", "_law_grade", "_law_many", "_law_bounds_due"]
def nms : List PySem.Str := nms0
abbrev R : PySem.W.OpenRow := PySem.W.OpenLaw.row PySem.Challenge.rw_agegrade_k42_bounds_told
abbrev hk : PySem.W.Hook := He.hookD 5 fa fn
def ob (s : PySem.W.SharedT) : He.AlD := He.obsDG 5 fa fn (HandSHeadRun.getT s)
theorem ob_eq (s : PySem.W.SharedT) : ob s = hk.obs s.abs := He.obsDG_eq (HandSHeadRun.getT_eq s)
theorem run (w : World) : HandSHeadRun.RunEq R (PySem.W.view R.prog [24]) hk ob 1500 nms w := by
  intro os
  kernel_rfl
end Ag
open PySem PySem.W PySem.Calls PyProof.Rows
theorem PySem.Challenge.cw_agegrade_k42_bounds_told_holds : PySem.Challenge.rw_agegrade_k42_bounds_told.Holds := by
  w_on; o_law
  refine HandSHeadRun.head_any (r := OpenLaw.row PySem.Challenge.rw_agegrade_k42_bounds_told) (q := view (OpenLaw.row PySem.Challenge.rw_agegrade_k42_bounds_told).prog [24]) (H := Ag.hk) (ob := Ag.ob) (M := 1500) (loose := Ag.nms) (d := HandSHeadRun.topDef (OpenLaw.row PySem.Challenge.rw_agegrade_k42_bounds_told).prog 24) (kwd := []) Ag.ob_eq
    (by kernel_rfl) (fun s => by kernel_rfl) Ag.run (by kernel_rfl) (by kernel_rfl) (by kernel_rfl) (by rfl) (by first | assumption | decide +kernel) (by decide +kernel) ⟨rfl, rfl, rfl, rfl, rfl, by decide +kernel⟩ ?hw ?hc
  case hw => w_witness2
  case hc =>
    refine L2.walk_ofE (l := PySem.Challenge.rw_agegrade_k42_bounds_told) (n := 63) (k := 8) (x := "_law_script") (CX := L2.CX0) rfl (by decide) (by kernel_rfl) ⟨rfl, by decide, by decide⟩ ?F (fun _ _ _ _ z => z)
    intro w mg fa h Y G hmg0
    obtain ⟨K, KX, c⟩ := Y
    have hmg : mg ("law" : PySem.Str) = some (.ref fa) := by
      have e : (HandSHeadRun.topDef (OpenLaw.row PySem.Challenge.rw_agegrade_k42_bounds_told).prog 24).name = ("law" : PySem.Str) := by kernel_rfl
      rw [← e]
      exact hmg0
    obtain ⟨fd, hb, hF⟩ := Ag.law_end (P := (PySem.Challenge.rw_agegrade_k42_bounds_told).prog) (w := w) ⟨c, h, KX, G⟩ hmg
    exact ⟨K, fd, Ag.spLaw K, KX, hb, fun H a ns hl _ hS => ⟨a, ns, rfl, hS, hl, fun _ => rfl⟩, hF⟩

